import PyProof.Rows.All
import Wide.All
import OpenK.AllK
import Wide.FinOn
import HandS.ForMost
import HandS.ForExc
import HandS.Wide
import HandS.WideBits
import HandS.IsInst
import HandS.Codes
import HandS.TupAny
import HandS.TupLen
import HandS.Style
import HandS.Zip
import PyProof.Draws
import PyProof.EnumMake
import PySem.Challenge.RW_stepruns_k06_whole_fair_steps
set_option Elab.async false
set_option linter.all false
set_option maxRecDepth 100000
set_option maxHeartbeats 4000000
namespace St
open PySem PySem.Spec PyProof.Rows L2
/-! ### names that are still the built-ins -/
structure Bn (mg : Str → Option Value) : Prop where
  isinstance_ : mg "isinstance" = none
  int_ : mg "int" = none
  bool_ : mg "bool" = none
  str_ : mg "str" = none
  tuple_ : mg "tuple" = none
  list_ : mg "list" = none
  len_ : mg "len" = none
  range_ : mg "range" = none
  abs_ : mg "abs" = none
  min_ : mg "min" = none
  max_ : mg "max" = none
  sum_ : mg "sum" = none
  sorted_ : mg "sorted" = none
  enumerate_ : mg "enumerate" = none
  zip_ : mg "zip" = none
  set_ : mg "set" = none
  any_ : mg "any" = none
  all_ : mg "all" = none
/-- the def st stands as x -/
def At (K : PySem.W.Frag) (mg : Str → Option Value) (x : Str) (st : Stmt) (ps : List Str) : Prop :=
  ∃ f fd, Fun K x x st f fd ∧ mg x = some (.ref f) ∧ Binds K fd ps []
/-- a def that keeps its promise, ready to be called by its name -/
structure Cal (P : Program) (w : World) (K : PySem.W.Frag) (mg : Str → Option Value) (base : Heap) (x : Str) (ps : List Str) (k : Nat) (sp : Sp) (f : Addr) (fd : FuncData) : Prop where
  ok : FnOk P w K mg base CX0 k f fd ps sp
  g : mg x = some (.ref f)
  kp : PySem.W.keepIn K (.ref f) = true
  b : Binds K fd ps []
def CalE (P : Program) (w : World) (K : PySem.W.Frag) (mg : Str → Option Value) (base : Heap) (x : Str) (ps : List Str) (k : Nat) (sp : Sp) : Prop := ∃ f fd, Cal P w K mg base x ps k sp f fd
/-! ### heaps -/
theorem same_new {H : Hp} {p : Addr} (h : H p = none) (o : HO) : Same H (upd H p o) := fun b u q => by rw [upd_ne (ne_of_none q h)]; exact q
theorem Same.seqT {K : PySem.W.Frag} {H H' : Hp} {a : Addr} {xs : List V} (e : Same H H') (h : SqT K H a xs) : SqT K H' a xs := by
  rcases h with (h | ⟨o, h⟩) | h
  · exact .inl (.inl (e _ _ h))
  · exact .inl (.inr ⟨o, e _ _ h⟩)
  · exact .inr h
theorem tyL {K : PySem.W.Frag} {H : Hp} {a : Addr} {xs : List V} (h : SqL K H a xs) : TyX K H (.ref a) (.type "list") := by
  rcases h with (h | ⟨o, h⟩) | ⟨o, its, n, h, c, _⟩
  · exact .base (.lst h)
  · exact .base (.frz h)
  · exact .kList h c
theorem tyT {K : PySem.W.Frag} {H : Hp} {a : Addr} {xs : List V} (h : SqT K H a xs) : TyX K H (.ref a) (.type "tuple") := by
  rcases h with (h | ⟨o, h⟩) | ⟨o, its, n, h, c, _⟩
  · exact .base (.tup h)
  · exact .fTuple h
  · exact .kTuple h c
theorem SqL.new {K : PySem.W.Frag} {H : Hp} {p : Addr} {xs : List V} : SqL K (upd H p (.lst xs)) p xs := .inl (.inl upd_same)
theorem SqT.new {K : PySem.W.Frag} {H : Hp} {p : Addr} {xs : List V} : SqT K (upd H p (.tup xs)) p xs := .inl (.inl upd_same)
theorem ne_new {H : Hp} {a p : Addr} {o : HO} (h : H a = some o) (hp : H p = none) : p ≠ a := fun e => by rw [e, h] at hp; cases hp
theorem iteDT {p : Prop} [Decidable p] {A B : Prop} (h : p) (a : A) : if decide p = true then A else B := by
  rw [decide_eq_true h]
  exact iteT a
theorem iteDF {p : Prop} [Decidable p] {A B : Prop} (h : ¬ p) (b : B) : if decide p = true then A else B := by
  rw [decide_eq_false h]
  exact iteF b
theorem iteND {p : Prop} [Decidable p] {A B : Prop} (h : ¬ p) (a : A) : if (!decide p) = true then A else B := by
  rw [decide_eq_false h]
  exact iteT a
/-! ### ways that meet: what is left is shown once, for all that the ways may bring (G is read off the first way) -/
theorem joinG1 {α : Type} {R : Prop} {G : α → Prop} (C : α → Prop) (main : (∀ x, C x → G x) → R) (k : ∀ x, C x → G x) : R := main k
theorem joinG2 {α β : Type} {R : Prop} {G : α → β → Prop} (C : α → β → Prop) (main : (∀ x y, C x y → G x y) → R) (k : ∀ x y, C x y → G x y) : R := main k
theorem joinG3 {α β γ : Type} {R : Prop} {G : α → β → γ → Prop} (C : α → β → γ → Prop) (main : (∀ x y z, C x y z → G x y z) → R) (k : ∀ x y z, C x y z → G x y z) : R := main k
theorem joinG4 {α β γ δ : Type} {R : Prop} {G : α → β → γ → δ → Prop} (C : α → β → γ → δ → Prop) (main : (∀ x y z u, C x y z u → G x y z u) → R) (k : ∀ x y z u, C x y z u → G x y z u) : R := main k
theorem to_nx {i : Nat} {v : V} {σ σ' : List (Option V)} {H : Hp} {Q : List (Option V) → Hp → Prop} (e : σ.set i (some v) = σ') (h : Q σ' H) : gName i v σ H Q := by
  show Q (σ.set i (some v)) H
  rw [e]
  exact h
theorem to_next {D : Ends} {σ σ' : List (Option V)} {H : Hp} (e : σ = σ') (h : D.nx σ' H) : tNext D σ H := by
  show D.nx σ H
  rw [e]
  exact h
/-! ### data of lists, tuples, numbers, texts -/
/-- data no deeper than n, no list of it too long -/
def OkD : Nat → PyData → Prop
  | _, .none => True | _, .bool _ => True | _, .int _ => True | _, .str _ => True
  | n + 1, .list ds => ds.length ≤ 1000000 ∧ ∀ d ∈ ds, OkD n d
  | n + 1, .tuple ds => ds.length ≤ 1000000 ∧ ∀ d ∈ ds, OkD n d
  | _, _ => False
theorem DpAll.length {K : PySem.W.Frag} {H : Hp} : ∀ {xs : List V} {ds : List PyData}, DpAll K H xs ds → xs.length = ds.length
  | _, _, .nil => rfl
  | _, _, .cons _ t => congrArg (· + 1) (DpAll.length t)
theorem DpAll.get {K : PySem.W.Frag} {H : Hp} : ∀ {xs : List V} {ds : List PyData} {i : Nat} {d : PyData}, DpAll K H xs ds → ds[i]? = some d → ∃ x, xs[i]? = some x ∧ Dp K H x d
  | _, _, _, _, .nil, e => by simp at e
  | _, _, 0, _, .cons h _, e => by
    cases Option.some.inj (by simpa using e)
    exact ⟨_, rfl, h⟩
  | _, _, i + 1, _, .cons _ t, e => by
    obtain ⟨x, h1, h2⟩ := DpAll.get (i := i) t (by simpa using e)
    exact ⟨x, by simpa using h1, h2⟩
mutual
theorem Dp.same {K : PySem.W.Frag} {H H' : Hp} (s : Same H H') : ∀ {v : V} {d : PyData}, Dp K H v d → Dp K H' v d
  | _, _, .non => .non
  | _, _, .bl b => .bl b
  | _, _, .int i => .int i
  | _, _, .str x => .str x
  | _, _, .lst h t => .lst (s.seq h) (DpAll.same s t)
  | _, _, .tup h t => .tup (St.Same.seqT s h) (DpAll.same s t)
theorem DpAll.same {K : PySem.W.Frag} {H H' : Hp} (s : Same H H') : ∀ {v : List V} {d : List PyData}, DpAll K H v d → DpAll K H' v d
  | _, _, .nil => .nil
  | _, _, .cons h t => .cons (Dp.same s h) (DpAll.same s t)
end
def isTL : PyData → Bool
  | .list _ => true | .tuple _ => true | _ => false
/-- a list or tuple of data, opened -/
theorem Dp.seq {K : PySem.W.Frag} {H : Hp} {v : V} {d : PyData} (h : Dp K H v d) (hd : isTL d = true) : ∃ (a : Addr) (xs : List V) (ds : List PyData), v = .ref a ∧ (d = .list ds ∧ SqL K H a xs ∨ d = .tuple ds ∧ SqT K H a xs) ∧ DpAll K H xs ds := by
  cases h with
  | lst h t => exact ⟨_, _, _, rfl, .inl ⟨rfl, h⟩, t⟩
  | tup h t => exact ⟨_, _, _, rfl, .inr ⟨rfl, h⟩, t⟩
  | non => cases hd
  | bl => cases hd
  | int => cases hd
  | str => cases hd
theorem canAll {n : Nat} : ∀ ds : List PyData, (∀ d ∈ ds, d.canLay0 = true ∧ d.depth ≤ n) → PyData.canLayAll0 ds = true ∧ PyData.depthAll ds ≤ n
  | [], _ => ⟨by simp only [PyData.canLayAll0], by simp only [PyData.depthAll]; omega⟩
  | d :: ds, h => by
    obtain ⟨a, b⟩ := h d List.mem_cons_self
    obtain ⟨c, e⟩ := canAll ds fun x hx => h x (List.mem_cons_of_mem _ hx)
    refine ⟨?_, ?_⟩
    · simp only [PyData.canLayAll0]
      rw [a, c]
      rfl
    · simp only [PyData.depthAll]
      omega
/-- as OkD, the texts of plain signs -/
def OkN : Nat → PyData → Prop
  | _, .none => True | _, .bool _ => True | _, .int _ => True | _, .str x => PyData.strOk x = true
  | n + 1, .list ds => ∀ d ∈ ds, OkN n d
  | n + 1, .tuple ds => ∀ d ∈ ds, OkN n d
  | _, _ => False
theorem ok_can : ∀ (n : Nat) (d : PyData), OkN n d → d.canLay0 = true ∧ d.depth ≤ n
  | _, .none, _ => ⟨by simp only [PyData.canLay0], by simp only [PyData.depth]; omega⟩
  | _, .bool _, _ => ⟨by simp only [PyData.canLay0], by simp only [PyData.depth]; omega⟩
  | _, .int _, _ => ⟨by simp only [PyData.canLay0], by simp only [PyData.depth]; omega⟩
  | n, .str x, h => by
    have h' : PyData.strOk x = true := by cases n <;> exact h
    exact ⟨by simp only [PyData.canLay0]; exact h', by simp only [PyData.depth]; omega⟩
  | n + 1, .list ds, h => by
    obtain ⟨a, b⟩ := canAll ds fun d hd => ok_can n d (h d hd)
    exact ⟨by simp only [PyData.canLay0]; exact a, by simp only [PyData.depth]; omega⟩
  | n + 1, .tuple ds, h => by
    obtain ⟨a, b⟩ := canAll ds fun d hd => ok_can n d (h d hd)
    exact ⟨by simp only [PyData.canLay0]; exact a, by simp only [PyData.depth]; omega⟩
  | 0, .list _, h => h.elim
  | 0, .tuple _, h => h.elim
  | 0, .dict _, h => h.elim
  | _ + 1, .dict _, h => h.elim
theorem ok_shaped {n : Nat} {d : PyData} (h : OkN n d) (hn : n ≤ 60) : SeqAt.shaped d = true := by
  obtain ⟨a, b⟩ := ok_can n d h
  unfold SeqAt.shaped
  rw [a, decide_eq_true (by omega)]
  rfl
theorem eqv_nil (ds : List PyData) : PyData.eqv (.list ds) (.list []) = ds.isEmpty := by
  cases ds <;> rfl
/-! ### a text times a number -/
def repS (x : Str) (n : Nat) : Str := ⟨((List.replicate n x.cps.toList).flatten).toArray⟩
theorem repS_one (x : Str) : repS x 1 = x := by
  unfold repS
  simp
theorem fold_app (l : List (Array Nat)) (a : Array Nat) : (l.foldl (· ++ ·) a).toList = a.toList ++ (l.map Array.toList).flatten := by
  induction l generalizing a with
  | nil => simp
  | cons x r ih => simp [List.foldl_cons, ih, List.append_assoc]
section
variable {X : Cx}
theorem op_mul_str : OpR X (binaryOp .Mult) (fun x y H Q => ∃ z n, x = .str z ∧ y = .int n ∧ n < 2 ^ 62 ∧ -(2 ^ 62) < n ∧ z.length * n.toNat ≤ 1000000 ∧ Q (.str (repS z n.toNat)) H) := by
  intro pins s σ H x y v u Q I rx ry h
  obtain ⟨z, n, rfl, rfl, h1, h2, h3, q⟩ := h
  obtain ⟨t, rfl⟩ := rx
  obtain ⟨t', rfl⟩ := ry
  refine P.mul_str (by
    have a : ¬ n < -(2 ^ 63) := by omega
    have b : ¬ n ≥ 2 ^ 63 := by omega
    rw [decide_eq_false a, decide_eq_false b]; rfl) (fun hn _ hb => ?_) (fun hn _ => ?_) ?_
  · have hp : 0 < n := by omega
    have e1 : (z.length : Int) * n ≤ 1000000 := by
      have e0 : ((n.toNat : Nat) : Int) = n := Int.toNat_of_nonneg (by omega)
      have e4 : ((z.length * n.toNat : Nat) : Int) ≤ 1000000 := Int.ofNat_le.mpr h3
      rw [Int.natCast_mul, e0] at e4
      exact e4
    have e2 : (2 ^ 63 - 1) / n < (z.length : Int) := hb
    have e3 : (2 ^ 63 - 1 : Int) < z.length * n := (Int.ediv_lt_iff_lt_mul hp).mp e2
    generalize (z.length : Int) * n = w at e1 e3
    omega
  · refine decide_eq_false ?_
    have z : sizeLine = 16777216 := sizeLine_eq
    omega
  · by_cases hn : n < 1
    · rw [if_pos hn]
      refine ⟨by decide, ?_⟩
      have e : n.toNat = 0 := by omega
      rw [e] at q
      exact ⟨.str _, H, I.tok _, ⟨_, rfl⟩, q⟩
    · rw [if_neg hn]
      by_cases hm : (n == 1 || z.length == 0) = true
      · rw [if_pos hm]
        have e : repS z n.toNat = z := by
          rw [Bool.or_eq_true] at hm
          rcases hm with hm | hm
          · have : n = 1 := by simpa using hm
            subst this
            exact repS_one z
          · have hz : z.cps.size = 0 := by simpa [Str.length] using hm
            obtain ⟨c⟩ := z
            have : c = #[] := Array.eq_empty_of_size_eq_zero hz
            subst this
            unfold repS
            simp
        rw [e] at q
        exact ⟨.str _, H, I, ⟨_, rfl⟩, q⟩
      · rw [if_neg hm]
        have e : (⟨(List.replicate n.toNat z.cps).foldl (· ++ ·) #[]⟩ : Str) = repS z n.toNat := by
          unfold repS
          congr 1
          apply Array.toList_inj.mp
          rw [fold_app]
          simp [List.map_replicate]
        rw [e]
        refine ⟨?_, ⟨.str _, H, I.tok _, ⟨_, rfl⟩, q⟩⟩
        rw [← e]
        refine fits_reps (decide_eq_false ?_)
        have z : sizeLine = 16777216 := sizeLine_eq
        omega
theorem ip_add_str : PIp X .Add (fun x y H Q => ∃ i j, x = .str i ∧ y = .str j ∧ i.length + j.length ≤ sizeLine ∧ Q (.str (i ++ j)) H) := iop_add_str
end
/-! ### walks over a text -/
theorem lc_str {x : Str} {g : TG} {tt : TT} {te : TE} {vs : List Nat} {σ : List (Option V)} {H1 : Hp} {D : Addr} {Qd : Hp → Prop} (Pv : Nat → Hp → Prop) (h0 : Pv 0 (upd H1 D (.lst [])))
    (hs : ∀ i c H, x.cps.toList[i]? = some c → Pv i H → g (.str ⟨#[c]⟩) (wipe σ vs) H fun σ2 H2 => wipe σ2 vs = wipe σ vs ∧ tt σ2 H2 fun b H3 =>
      if b = true then te σ2 H3 fun y H4 => ∃ acc, H4 D = some (.lst acc) ∧ acc.length < sizeLine ∧ Pv (i + 1) (upd H4 D (.lst (acc ++ [y]))) else Pv (i + 1) H3) (hd : ∀ H, Pv x.cps.size H → Qd H) :
    ∃ W : Nat → Nat → Hp → Prop, (∃ m, W 0 m (upd H1 D (.lst []))) ∧ ∀ i m H, W i m H →
      ((Its x).stop i H ∧ Qd H) ∨ ((Its x).go i H ∧ ∃ Nx : Hp → Prop, (∀ H', Nx H' → ∃ m', m' < m ∧ W (i + 1) m' H') ∧ ∀ v H', (Its x).yld i H v H' → g v (wipe σ vs) H' fun σ2 H2 => wipe σ2 vs = wipe σ vs ∧ tt σ2 H2 fun b H3 =>
        if b = true then te σ2 H3 fun y H4 => ∃ acc, H4 D = some (.lst acc) ∧ acc.length < sizeLine ∧ Nx (upd H4 D (.lst (acc ++ [y]))) else Nx H3) := by
  refine ⟨fun i m H => m = x.cps.size - i ∧ i ≤ x.cps.size ∧ Pv i H, ⟨x.cps.size, by simp, Nat.zero_le _, h0⟩, ?_⟩
  rintro i m H ⟨rfl, hi, p⟩
  by_cases hlt : i < x.cps.size
  · refine .inr ⟨hlt, Pv (i + 1), fun H' p' => ⟨x.cps.size - (i + 1), by omega, rfl, hlt, p'⟩, fun v H' y => ?_⟩
    obtain ⟨e, c, ec, ev⟩ := y
    subst e ev
    exact hs i c _ (by rw [Array.getElem?_toList]; exact ec) p
  · have e : i = x.cps.size := by omega
    subst e
    exact .inl ⟨Nat.le_refl _, hd H p⟩
theorem for_str {x : Str} {g : TG} {tb : TS} {D : Ends} {σ : List (Option V)} {H : Hp} (Pv : Nat → List (Option V) → Hp → Prop) (h0 : Pv 0 σ H)
    (hs : ∀ i c σ H, x.cps.toList[i]? = some c → Pv i σ H → g (.str ⟨#[c]⟩) σ H fun σ2 H2 => tb { D with nx := Pv (i + 1), ct := Pv (i + 1), bk := D.nx } σ2 H2) (hd : ∀ σ H, Pv x.cps.size σ H → D.nx σ H) :
    ∃ W : Nat → Nat → List (Option V) → Hp → Prop, (∃ m, W 0 m σ H) ∧ ∀ i m σ H, W i m σ H →
      ((Its x).stop i H ∧ D.nx σ H) ∨ ((Its x).go i H ∧ ∃ N : List (Option V) → Hp → Prop, (∀ σ' H', N σ' H' → ∃ m', m' < m ∧ W (i + 1) m' σ' H') ∧ ∀ v H', (Its x).yld i H v H' → g v σ H' fun σ2 H2 => tb { D with nx := N, ct := N, bk := D.nx } σ2 H2) := by
  refine ⟨fun i m σ H => m = x.cps.size - i ∧ i ≤ x.cps.size ∧ Pv i σ H, ⟨x.cps.size, by simp, Nat.zero_le _, h0⟩, ?_⟩
  rintro i m σ H ⟨rfl, hi, p⟩
  by_cases hlt : i < x.cps.size
  · refine .inr ⟨hlt, Pv (i + 1), fun σ' H' p' => ⟨x.cps.size - (i + 1), by omega, rfl, hlt, p'⟩, fun v H' y => ?_⟩
    obtain ⟨e, c, ec, ev⟩ := y
    subst e ev
    exact hs i c σ _ (by rw [Array.getElem?_toList]; exact ec) p
  · have e : i = x.cps.size := by omega
    subst e
    exact .inl ⟨Nat.le_refl _, hd σ H p⟩
/-! ### the rules with the written part K by name (within a comprehension X.K is not read off) -/
section
variable {X : Cx} (K : PySem.W.Frag)
theorem ix_list_ (h : X.K = K := by rfl) : IxR X (rIxL K) := h ▸ ix_list
theorem ix_tup_ (h : X.K = K := by rfl) : IxR X (rIxT K) := h ▸ ix_tup
theorem ix_seq_ (h : X.K = K := by rfl) : IxR X (rIx K) := h ▸ ix_seq
theorem sl_list_ (h : X.K = K := by rfl) : SlR X (rSlL K) := h ▸ sl_list
theorem sl_tupA_ (h : X.K = K := by rfl) : SlR X (rSlA K) := h ▸ sl_tupA
def rLenV (K : PySem.W.Frag) : List V → Hp → VK → Prop := fun xs H Q => ∃ x n, xs = [x] ∧ LenV K x H n ∧ Q (.int (n : Nat)) H
theorem call_len_ (h : X.K = K := by rfl) : CallR X (.builtin "len") (rLenV K) := h ▸ call_len
def rLenQ (K : PySem.W.Frag) : List V → Hp → VK → Prop := fun xs H Q => ∃ p ys, xs = [.ref p] ∧ (SqL K H p ys ∨ SqT K H p ys) ∧ Q (.int ys.length) H
theorem call_len_seq_ (h : X.K = K := by rfl) : CallR X (.builtin "len") (rLenQ K) := h ▸ call_len_seq
def rLenS : List V → Hp → VK → Prop := fun xs H Q => ∃ z, xs = [.str z] ∧ z.length ≤ sizeLine ∧ Q (.int z.length) H
theorem call_len_str_ : CallR X (.builtin "len") rLenS := call_len_str
theorem call_isi_ (h : X.K = K := by rfl) : CallR X (.builtin "isinstance") (rIsi K) := h ▸ call_isi
theorem call_isiT_ (h : X.K = K := by rfl) : CallR X (.builtin "isinstance") (rIsiT K) := h ▸ call_isiT
theorem cr_sum_ (hc : X.calm = true) (h : X.K = K := by rfl) : CallR X (.builtin "sum") (rSum K) := h ▸ cr_sum hc
theorem cr_max_ (hc : X.calm = true) (h : X.K = K := by rfl) : CallR X (.builtin "max") (rMax K) := h ▸ cr_max hc
theorem cr_min_ (hc : X.calm = true) (h : X.K = K := by rfl) : CallR X (.builtin "min") (rMin K) := h ▸ cr_min hc
theorem cr_all_ (hc : X.calm = true) (h : X.K = K := by rfl) : CallR X (.builtin "all") (rAll K) := h ▸ cr_all hc
theorem cr_any_ (hc : X.calm = true) (h : X.K = K := by rfl) : CallR X (.builtin "any") (rAny K) := h ▸ cr_any hc
def rTupOf (K : PySem.W.Frag) : List V → Hp → VK → Prop := fun xs H Q => ∃ p ys, xs = [.ref p] ∧ ((SqL K H p ys ∧ ∀ l, H l = none → Q (.ref l) (upd H l (.tup ys))) ∨ (SqT K H p ys ∧ Q (.ref p) H))
theorem call_tuple_of_ (h : X.K = K := by rfl) : CallR X (.type "tuple") (rTupOf K) := h ▸ call_tuple_of
def rListOf (K : PySem.W.Frag) : List V → Hp → VK → Prop := fun xs H Q => ∃ p ys, xs = [.ref p] ∧ (SqL K H p ys ∨ SqT K H p ys) ∧ ∀ l, H l = none → Q (.ref l) (upd H l (.lst ys))
theorem call_list_of_ (h : X.K = K := by rfl) : CallR X (.type "list") (rListOf K) := h ▸ call_list_of
theorem op_eqD_ (hu : X.A.units + 64 < cLine) (h : X.K = K := by rfl) : OpR X (compareOp .Eq) (rEqD K) := h ▸ op_eqD hu
theorem op_neD_ (hu : X.A.units + 64 < cLine) (h : X.K = K := by rfl) : OpR X (compareOp .NotEq) (rNeD K) := h ▸ op_neD hu
theorem op_in_seq_ (h : X.K = K := by rfl) : OpR X (compareOp .In) (rIn K false) := h ▸ op_in_seq
theorem op_notIn_seq_ (h : X.K = K := by rfl) : OpR X (compareOp .NotIn) (rIn K true) := h ▸ op_notIn_seq
def rJoinK (K : PySem.W.Frag) : V → List V → Hp → VK → Prop := fun x xs H Q => ∃ a p, ∃ ys : List Str, x = .str a ∧ xs = [.ref p] ∧ (SqL K H p (ys.map V.str) ∨ SqT K H p (ys.map V.str)) ∧ (ys.map (·.length)).sum + ys.length * a.length ≤ 16777216 ∧ Q (.str (Txt.join a ys)) H
theorem pe_join_ {o e : Expr} {to te : TE} {apos pos : Pos} (ho : PE X o to) (he : PE X e te) (hK : X.K = K := by rfl) (hs : starEach [e] X.env = [(false, eval e X.env)] := by rfl) (hbase : attributeBase o "join" X.env (eval o X.env) = eval o X.env := by rfl) (hline : (apos.endLine == pos.line) = true := by rfl) :
    PE X (.Call (.Attribute o "join" apos) [e] [] pos) (tM1 (rJoinK K) to te) := hK ▸ pe_join ho he hs hbase hline
theorem op_catA_ (h : X.K = K := by rfl) : OpR X (binaryOp .Add) (rCatA K) := h ▸ op_catA
end
/-! ### what the law's own draws keep -/
/-- a source of draws: at h a list of a number, a list of numbers at q, a number -/
structure LawH (H : Hp) (h q : Addr) : Prop where
  ne : h ≠ q
  src : ∃ (st ix : Int) (cells : List Int), H h = some (.lst [.int st, .ref q, .int ix]) ∧ H q = some (.lst (cells.map V.int)) ∧ cells.length ≤ 1000
/-- all but the source stands as it was -/
def Sm (h q : Addr) (H H' : Hp) : Prop := ∀ b o, H b = some o → b ≠ h → b ≠ q → H' b = some o
theorem Sm.refl (h q : Addr) (H : Hp) : Sm h q H H := fun _ _ e _ _ => e
theorem Sm.trans {h q : Addr} {H H1 H2 : Hp} (a : Sm h q H H1) (b : Sm h q H1 H2) : Sm h q H H2 := fun c o e n m => b c o (a c o e n m) n m
theorem Sm.of {h q : Addr} {H H' : Hp} (a : Same H H') : Sm h q H H' := fun c o e _ _ => a c o e
theorem Sm.seq {K : PySem.W.Frag} {h q : Addr} {H H' : Hp} {a : Addr} {xs : List V} (e : Sm h q H H') (n1 : a ≠ h) (n2 : a ≠ q) (z : SqL K H a xs) : SqL K H' a xs := by
  rcases z with (z | ⟨o, z⟩) | z
  · exact .inl (.inl (e _ _ z n1 n2))
  · exact .inl (.inr ⟨o, e _ _ z n1 n2⟩)
  · exact .inr z
theorem Sm.seqT {K : PySem.W.Frag} {h q : Addr} {H H' : Hp} {a : Addr} {xs : List V} (e : Sm h q H H') (n1 : a ≠ h) (n2 : a ≠ q) (z : SqT K H a xs) : SqT K H' a xs := by
  rcases z with (z | ⟨o, z⟩) | z
  · exact .inl (.inl (e _ _ z n1 n2))
  · exact .inl (.inr ⟨o, e _ _ z n1 n2⟩)
  · exact .inr z
theorem LawH.same {H H' : Hp} {h q : Addr} (L : LawH H h q) (a : Same H H') : LawH H' h q := by
  obtain ⟨n, st, ix, cells, e1, e2, e3⟩ := L
  exact ⟨n, st, ix, cells, a _ _ e1, a _ _ e2, e3⟩
theorem LawH.nn {H : Hp} {h q : Addr} (L : LawH H h q) : H h ≠ Option.none ∧ H q ≠ Option.none := by
  obtain ⟨n, st, ix, cells, e1, e2, e3⟩ := L
  exact ⟨fun z => by (rw [e1] at z; cases z), fun z => by (rw [e2] at z; cases z)⟩
theorem LawH.tup_ne {H : Hp} {h q t : Addr} {xs : List V} (L : LawH H h q) (e : H t = some (.tup xs)) : t ≠ h ∧ t ≠ q := by
  obtain ⟨n, st, ix, cells, e1, e2, e3⟩ := L
  exact ⟨fun z => by (rw [z, e1] at e; cases e), fun z => by (rw [z, e2] at e; cases e)⟩
theorem LawH.updL {H : Hp} {h q D : Addr} {l : List V} (L : LawH H h q) (n1 : D ≠ h) (n2 : D ≠ q) : LawH (upd H D (.lst l)) h q := by
  obtain ⟨ne, st, ix, cells, a, b, d⟩ := L
  exact ⟨ne, st, ix, cells, by rw [upd_ne (Ne.symm n1)]; exact a, by rw [upd_ne (Ne.symm n2)]; exact b, d⟩
theorem SqT.updL {K : PySem.W.Frag} {H : Hp} {a D : Addr} {xs l l' : List V} (e : H D = some (.lst l)) (z : SqT K H a xs) : SqT K (upd H D (.lst l')) a xs := by
  rcases z with (z | ⟨o, z⟩) | z
  · exact .inl (.inl (by rw [upd_ne (fun y => by rw [y, e] at z; cases z)]; exact z))
  · exact .inl (.inr ⟨o, by rw [upd_ne (fun y => by rw [y, e] at z; cases z)]; exact z⟩)
  · exact .inr z
end St
namespace St
open PySem PySem.Spec PyProof.Rows L2
/-! ### fractions: a tuple (number, parts) in lowest terms stands for a Rat -/
def RatAt (K : PySem.W.Frag) (H : Hp) (a : Addr) (r : Rat) : Prop := SqT K H a [.int r.num, .int (r.den : Int)]
theorem RatAt.same {K : PySem.W.Frag} {H H' : Hp} {a : Addr} {r : Rat} (s : Same H H') (h : RatAt K H a r) : RatAt K H' a r := Same.seqT s h
theorem frac_num {n d : Int} (hd : 0 < d) : (Rat.divInt n d).num = n / (Int.gcd n d : Int) := by
  rw [Rat.num_divInt, Int.sign_eq_one_of_pos hd, Int.one_mul, Int.gcd_comm]
theorem frac_den {n d : Int} (hd : 0 < d) : ((Rat.divInt n d).den : Int) = d / (Int.gcd n d : Int) := by
  have h0 : d ≠ 0 := Int.ne_of_gt hd
  rw [Rat.den_divInt, if_neg h0, Int.natCast_ediv, Int.gcd_comm]
  congr 1
  omega
theorem rat_eq (r : Rat) : r = (r.num : Rat) / ((r.den : Int) : Rat) := by
  rw [← Rat.divInt_eq_div, Rat.num_divInt_den]
theorem den_pos (r : Rat) : (0 : Int) < (r.den : Int) := Int.ofNat_lt.mpr r.den_pos
theorem den_ne (r : Rat) : (r.den : Int) ≠ 0 := Int.ne_of_gt (den_pos r)
theorem rat_add (r s : Rat) : Rat.divInt (r.num * s.den + s.num * r.den) (r.den * s.den) = r + s := by
  rw [← Rat.divInt_add_divInt _ _ (den_ne r) (den_ne s), Rat.num_divInt_den, Rat.num_divInt_den]
theorem rat_sub (r s : Rat) : Rat.divInt (r.num * s.den - s.num * r.den) (r.den * s.den) = r - s := by
  rw [← Rat.divInt_sub_divInt _ _ (den_ne r) (den_ne s), Rat.num_divInt_den, Rat.num_divInt_den]
theorem rat_mul (r s : Rat) : Rat.divInt (r.num * s.num) (r.den * s.den) = r * s := by
  rw [← Rat.divInt_mul_divInt, Rat.num_divInt_den, Rat.num_divInt_den]
theorem cast_ne {z : Int} (h : z ≠ 0) : (z : Rat) ≠ 0 := fun e => h (Rat.intCast_inj.mp (by rw [e]; rfl))
theorem rat_quot (r s : Rat) (h : s.num ≠ 0) : Rat.divInt (r.num * s.den) (r.den * s.num) = r / s := by
  have h1 := cast_ne (den_ne r)
  have h2 := cast_ne (den_ne s)
  have h3 := cast_ne h
  have e1 := rat_eq r
  have e2 := rat_eq s
  rw [Rat.divInt_eq_div, Rat.intCast_mul, Rat.intCast_mul]
  generalize (r.num : Rat) = a at *
  generalize ((r.den : Int) : Rat) = b at *
  generalize (s.num : Rat) = c at *
  generalize ((s.den : Int) : Rat) = d at *
  rw [e1, e2]
  grind
theorem rat_sum_le (r s : Rat) : (r.num * s.den + s.num * r.den ≤ r.den * s.den) ↔ r + s ≤ 1 := by
  have hp : (0 : Int) < r.den * s.den := Int.mul_pos (den_pos r) (den_pos s)
  have h1 : (0 : Rat) < ((r.den * s.den : Int) : Rat) := by
    have := Rat.intCast_lt_intCast.mpr hp
    simpa using this
  have e : 1 < r + s ↔ r.den * s.den < r.num * s.den + s.num * r.den := by
    rw [← rat_add r s, Rat.divInt_eq_div, Rat.lt_div_iff h1, Rat.one_mul, Rat.intCast_lt_intCast]
  constructor
  · intro h
    refine Rat.not_lt.mp fun z => ?_
    have := e.mp z
    omega
  · intro h
    refine Int.not_lt.mp fun z => ?_
    exact Rat.not_lt.mpr h (e.mpr z)
/-- how many figures of twos a fraction has at most -/
def Bd (r : Rat) (b : Nat) : Prop := r.num.natAbs < 2 ^ b ∧ r.den < 2 ^ b
theorem Bd.mono {r : Rat} {b c : Nat} (h : Bd r b) (hbc : b ≤ c) : Bd r c :=
  ⟨Nat.lt_of_lt_of_le h.1 (Nat.pow_le_pow_right (by decide) hbc), Nat.lt_of_lt_of_le h.2 (Nat.pow_le_pow_right (by decide) hbc)⟩
theorem Bd.frac {n d : Int} {b : Nat} (hd : 0 < d) (hn : n.natAbs < 2 ^ b) (h : d.natAbs < 2 ^ b) : Bd (Rat.divInt n d) b := by
  have e1 := frac_num (n := n) hd
  have e2 := frac_den (n := n) hd
  constructor
  · rw [e1]
    refine Nat.lt_of_le_of_lt ?_ hn
    rw [Int.natAbs_ediv_of_dvd (Int.gcd_dvd_left ..)]
    exact Nat.div_le_self _ _
  · have e3 : (Rat.divInt n d).den = (d / (Int.gcd n d : Int)).natAbs := by
      have := congrArg Int.natAbs e2
      simpa using this
    rw [e3, Int.natAbs_ediv_of_dvd (Int.gcd_dvd_right ..)]
    exact Nat.lt_of_le_of_lt (Nat.div_le_self _ _) h
theorem bd_mul {x y : Int} {b c : Nat} (h : x.natAbs < 2 ^ b) (h' : y.natAbs < 2 ^ c) : (x * y).natAbs < 2 ^ (b + c) := wide_lt h h'
theorem bd_add {x y : Int} {b : Nat} (h : x.natAbs < 2 ^ b) (h' : y.natAbs < 2 ^ b) : (x + y).natAbs < 2 ^ (b + 1) := by
  rw [Nat.pow_succ]
  omega
theorem bd_sub {x y : Int} {b : Nat} (h : x.natAbs < 2 ^ b) (h' : y.natAbs < 2 ^ b) : (x - y).natAbs < 2 ^ (b + 1) := by
  rw [Nat.pow_succ]
  omega
theorem bd_up {x : Int} {b c : Nat} (h : x.natAbs < 2 ^ b) (hbc : b ≤ c) : x.natAbs < 2 ^ c := Nat.lt_of_lt_of_le h (Nat.pow_le_pow_right (by decide) hbc)
theorem bd_den {r : Rat} {b : Nat} (h : Bd r b) : ((r.den : Int)).natAbs < 2 ^ b := by
  rw [Int.natAbs_natCast]
  exact h.2
theorem bd_w {x y : Int} {b c : Nat} (h : x.natAbs < 2 ^ b) (h' : y.natAbs < 2 ^ c) (h2 : b + c ≤ 900000) : CMulW x y :=
  wide_mul (a := b + 1) (b := c + 1) (bd_up h (by omega)) (bd_up h' (by omega)) (by omega) (by omega) (by omega)
theorem Bd.add {r s : Rat} {b c : Nat} (h : Bd r b) (h' : Bd s c) : Bd (r + s) (b + c + 1) := by
  rw [← rat_add r s]
  refine Bd.frac (Int.mul_pos (den_pos r) (den_pos s)) (bd_add (bd_mul h.1 (bd_den h')) (bd_up (bd_mul h'.1 (bd_den h)) (by omega))) (bd_up (bd_mul (bd_den h) (bd_den h')) (by omega))
theorem Bd.sub {r s : Rat} {b c : Nat} (h : Bd r b) (h' : Bd s c) : Bd (r - s) (b + c + 1) := by
  rw [← rat_sub r s]
  refine Bd.frac (Int.mul_pos (den_pos r) (den_pos s)) (bd_sub (bd_mul h.1 (bd_den h')) (bd_up (bd_mul h'.1 (bd_den h)) (by omega))) (bd_up (bd_mul (bd_den h) (bd_den h')) (by omega))
theorem Bd.mul {r s : Rat} {b c : Nat} (h : Bd r b) (h' : Bd s c) : Bd (r * s) (b + c) := by
  rw [← rat_mul r s]
  exact Bd.frac (Int.mul_pos (den_pos r) (den_pos s)) (bd_mul h.1 h'.1) (bd_mul (bd_den h) (bd_den h'))
theorem num_pos {r : Rat} (h : 0 < r) : 0 < r.num := by
  have := (Rat.lt_iff 0 r).mp h
  simpa using this
theorem Bd.quot {r s : Rat} {b c : Nat} (h : Bd r b) (h' : Bd s c) (hs : 0 < s) : Bd (r / s) (b + c) := by
  rw [← rat_quot r s (Int.ne_of_gt (num_pos hs))]
  exact Bd.frac (Int.mul_pos (den_pos r) (num_pos hs)) (bd_mul h.1 (bd_den h')) (bd_mul (bd_den h) h'.1)
/-- a ratio p / q of the document -/
structure IsRat (p q : Nat) : Prop where
  p1 : 1 ≤ p
  pq : p < q
  q30 : q ≤ 30
def rat (p q : Nat) : Rat := (p : Int) / (q : Int)
theorem rat_pow (p q : Nat) (h : 0 < q) (t : Nat) : Rat.divInt ((p : Int) ^ t) ((q : Int) ^ t) = rat p q ^ t := by
  have hq : (0 : Rat) < ((q : Int) : Rat) := Rat.intCast_pos.mpr (by omega)
  rw [Rat.divInt_eq_div, Rat.intCast_pow, Rat.intCast_pow]
  unfold rat
  generalize ((p : Int) : Rat) = a at *
  generalize ((q : Int) : Rat) = b at *
  have hb0 : b ≠ 0 := Rat.ne_of_gt hq
  induction t with
  | zero =>
    simp only [Rat.pow_zero]
    grind
  | succ t ih =>
    have hb : b ^ t ≠ 0 := Rat.ne_of_gt (Rat.pow_pos hq)
    rw [Rat.pow_succ, Rat.pow_succ, Rat.pow_succ, ← ih]
    grind
theorem pow_small {p t : Nat} (h : p ≤ 30) : ((p : Int) ^ t).natAbs < 2 ^ (5 * t + 1) := by
  rw [Int.natAbs_pow, Int.natAbs_natCast]
  refine Nat.lt_of_le_of_lt (Nat.pow_le_pow_left (show p ≤ 2 ^ 5 by omega) t) ?_
  rw [← Nat.pow_mul]
  exact Nat.pow_lt_pow_right (by decide) (by omega)
theorem Bd.pow {p q : Nat} (hp : p ≤ 30) (hq : q ≤ 30) (h : 0 < q) (t : Nat) : Bd (rat p q ^ t) (5 * t + 1) := by
  rw [← rat_pow p q h t]
  exact Bd.frac (Int.pow_pos (by omega)) (pow_small hp) (pow_small hq)
def FitsR (x : Rat) (s : Nat) : Prop := x ^ s + x ^ (s + 1) ≤ 1
instance (x : Rat) (s : Nat) : Decidable (FitsR x s) := by unfold FitsR; infer_instance
end St
namespace St
open PySem PySem.Spec PyProof.Rows L2
/-! ### texts of the signs 0 and 1, words by a step -/
def sg (b : Bool) : Nat := if b then 49 else 48
theorem sg_inj {a b : Bool} (h : sg a = sg b) : a = b := by
  cases a <;> cases b <;> first | rfl | (exact absurd h (by decide))
/-- the text of some signs -/
def tx (l : List Bool) : Str := ⟨(l.map sg).toArray⟩
theorem tx_list (l : List Bool) : (tx l).cps.toList = l.map sg := by simp [tx]
theorem tx_len (l : List Bool) : (tx l).length = l.length := by simp [tx, Str.length]
theorem str_ext {a b : Str} (h : a.cps.toList = b.cps.toList) : a = b := by
  obtain ⟨a⟩ := a
  obtain ⟨b⟩ := b
  exact congrArg Str.mk (Array.toList_inj.mp h)
theorem app_list (a b : Str) : (a ++ b).cps.toList = a.cps.toList ++ b.cps.toList := by
  show (Str.append a b).cps.toList = _
  unfold Str.append
  simp
theorem tx_app (a b : List Bool) : tx a ++ tx b = tx (a ++ b) := by
  apply str_ext
  rw [app_list, tx_list, tx_list, tx_list, List.map_append]
theorem tx_inj {a b : List Bool} (h : tx a = tx b) : a = b := by
  have e : a.map sg = b.map sg := by rw [← tx_list, ← tx_list, h]
  exact (List.map_inj_right (fun _ _ h => sg_inj h)).mp e
theorem tx_one : ("1" : Str) = tx [true] := by decide +kernel
theorem tx_zero : ("0" : Str) = tx [false] := by decide +kernel
theorem tx_nil : ("" : Str) = tx [] := by decide +kernel
theorem tx_rep (b : Bool) (n : Nat) : repS (tx [b]) n = tx (List.replicate n b) := by
  apply str_ext
  unfold repS
  rw [tx_list]
  simp only [tx_list, List.map_replicate]
  induction n with
  | zero => rfl
  | succ n ih =>
    rw [List.replicate_succ, List.flatten_cons, ih, List.replicate_succ]
    rfl
/-- so many figures of a number by twos, the highest first -/
def fig (n : Nat) : Nat → List Bool
  | 0 => []
  | k + 1 => (n / 2 ^ k % 2 == 1) :: fig n k
theorem fig_len (n k : Nat) : (fig n k).length = k := by
  induction k with
  | zero => rfl
  | succ k ih => rw [fig, List.length_cons, ih]
/-- what figures are worth -/
def worth : List Bool → Nat
  | [] => 0
  | b :: r => (if b then 2 ^ r.length else 0) + worth r
theorem worth_fig (n k : Nat) : worth (fig n k) = n % 2 ^ k := by
  induction k with
  | zero => simp [fig, worth, Nat.mod_one]
  | succ k ih =>
    rw [fig, worth, ih, fig_len, Nat.pow_succ, Nat.mod_mul]
    have := Nat.mod_two_eq_zero_or_one (n / 2 ^ k)
    rcases this with h | h <;> rw [h] <;> simp <;> omega
theorem worth_lt (l : List Bool) : worth l < 2 ^ l.length := by
  induction l with
  | nil => simp [worth]
  | cons b r ih =>
    rw [worth, List.length_cons, Nat.pow_succ]
    split <;> omega
/-- the least number of figures for all rests -/
def wideN (m : Nat) : Nat := if m ≤ 1 then 0 else Nat.log2 (m - 1) + 1
theorem wide_le (m : Nat) : m ≤ 2 ^ wideN m := by
  unfold wideN
  split
  · omega
  · have := Nat.lt_log2_self (n := m - 1)
    omega
theorem wide_lt (m d : Nat) (h : d < wideN m) : 2 ^ d < m := by
  unfold wideN at h
  split at h
  · omega
  · have h1 := Nat.log2_self_le (n := m - 1) (by omega)
    have h2 : 2 ^ d ≤ 2 ^ (m - 1).log2 := Nat.pow_le_pow_right (by decide) (by omega)
    omega
theorem wide_eq {m c : Nat} (h1 : m ≤ 2 ^ c) (h2 : ∀ d, d < c → 2 ^ d < m) : wideN m = c := by
  rcases Nat.lt_trichotomy (wideN m) c with h | h | h
  · have a := h2 _ h
    have b := wide_le m
    omega
  · exact h
  · have a := wide_lt m c h
    omega
theorem wide_64 {m : Nat} (h : m ≤ 64) : wideN m ≤ 6 := by
  refine Nat.not_lt.mp fun c => ?_
  have := wide_lt m 6 c
  omega
def shortN (m : Nat) : Nat := 2 ^ wideN m - m
theorem short_lt {m : Nat} (h : 1 ≤ m) : shortN m < m := by
  unfold shortN
  have h1 := wide_le m
  cases e : wideN m with
  | zero =>
    rw [e] at h1
    simp at h1
    simp
    omega
  | succ c =>
    have h2 := wide_lt m c (by omega)
    rw [Nat.pow_succ]
    omega
theorem short_zero {m : Nat} (h : wideN m = 0) (h1 : 1 ≤ m) : m = 1 := by
  have := wide_le m
  rw [h] at this
  simp at this
  omega
/-- the word for a rest -/
def restB (m r : Nat) : List Bool := if r < shortN m then fig r (wideN m - 1) else fig (r + shortN m) (wideN m)
/-- the word for a number -/
def wordB (m n : Nat) : List Bool := List.replicate (n / m) true ++ false :: restB m (n % m)
theorem rest_len (m r : Nat) : (restB m r).length = if r < shortN m then wideN m - 1 else wideN m := by
  unfold restB
  split <;> rw [fig_len]
theorem rest_len_le (m r : Nat) : (restB m r).length ≤ wideN m := by
  rw [rest_len]
  split <;> omega
theorem word_len (m n : Nat) : (wordB m n).length = n / m + 1 + (restB m (n % m)).length := by
  unfold wordB
  simp
  omega
/-- a place of a text -/
theorem cut_tx (l : List Bool) (i j : Nat) : cutS (tx l) (some (i : Int)) (some (j : Int)) = tx ((l.drop i).take (j - i)) := by
  apply str_ext
  unfold cutS
  rw [tx_list, tx_len, HT.sIx_nat, HT.sIx_nat, tx_list]
  simp only [List.map_take, List.map_drop]
  by_cases h : i ≤ l.length
  · rw [Nat.min_eq_left h]
    by_cases h2 : j ≤ l.length
    · rw [Nat.min_eq_left h2]
    · rw [Nat.min_eq_right (show l.length ≤ j by omega)]
      rw [List.take_of_length_le (by simp), List.take_of_length_le (by simp; omega)]
  · rw [Nat.min_eq_right (show l.length ≤ i by omega)]
    have e1 : List.drop l.length (l.map sg) = [] := List.drop_eq_nil_of_le (by simp)
    have e2 : List.drop i (l.map sg) = [] := List.drop_eq_nil_of_le (by simp; omega)
    rw [e1, e2]
    simp
theorem cut_to (l : List Bool) (j : Nat) : cutS (tx l) none (some (j : Int)) = tx (l.take j) := by
  have := cut_tx l 0 j
  have e : cutS (tx l) none (some (j : Int)) = cutS (tx l) (some ((0 : Nat) : Int)) (some (j : Int)) := by
    unfold cutS
    have e0 : HT.sIx (tx l).length 0 (some ((0 : Nat) : Int)) = 0 := by rw [HT.sIx_nat, Nat.min_eq_left (Nat.zero_le _)]
    rw [e0, HT.sIx_none]
  rw [e, this, List.drop_zero, Nat.sub_zero]
theorem cut_from (l : List Bool) (i : Nat) : cutS (tx l) (some (i : Int)) none = tx (l.drop i) := by
  apply str_ext
  unfold cutS
  rw [tx_list, tx_len, HT.sIx_nat, HT.sIx_none, tx_list]
  simp only [List.map_drop]
  by_cases h : i ≤ l.length
  · rw [Nat.min_eq_left h, List.take_of_length_le (by simp)]
  · rw [Nat.min_eq_right (show l.length ≤ i by omega)]
    have e1 : List.drop l.length (l.map sg) = [] := List.drop_eq_nil_of_le (by simp)
    have e2 : List.drop i (l.map sg) = [] := List.drop_eq_nil_of_le (by simp; omega)
    rw [e1, e2]
    simp
/-- the sign at a place, as it is asked: text[at:at + 1] == "1" -/
theorem cut_at (l : List Bool) (i : Nat) : cutS (tx l) (some (i : Int)) (some ((i : Int) + 1)) = tx (l[i]?.toList) := by
  have := cut_tx l i (i + 1)
  rw [show ((i + 1 : Nat) : Int) = (i : Int) + 1 by omega] at this
  rw [this, Nat.add_sub_cancel_left]
  congr 1
  cases h : l[i]? with
  | none =>
    rw [List.drop_eq_nil_of_le (List.getElem?_eq_none_iff.mp h)]
    rfl
  | some b =>
    obtain ⟨hi, e⟩ := List.getElem?_eq_some_iff.mp h
    rw [List.drop_eq_getElem_cons hi, e]
    rfl
theorem at_is (o : Option Bool) : (tx o.toList = tx [true]) ↔ o = some true := by
  constructor
  · intro h
    have := tx_inj h
    cases o with
    | none => cases this
    | some b => exact congrArg some (List.cons.inj this).1
  · rintro rfl
    rfl
theorem fig_get (n k i : Nat) (h : i < k) : (fig n k)[i]? = some (n / 2 ^ (k - 1 - i) % 2 == 1) := by
  induction k generalizing i with
  | zero => omega
  | succ k ih =>
    cases i with
    | zero => simp [fig]
    | succ i =>
      rw [fig, List.getElem?_cons_succ, ih i (by omega)]
      rw [show k + 1 - 1 - (i + 1) = k - 1 - i by omega]
theorem take_more {α : Type} {l : List α} {i : Nat} {x : α} (h : l[i]? = some x) : l.take (i + 1) = l.take i ++ [x] := by
  rw [List.take_add_one, h]
  rfl
theorem fig_take (n k i : Nat) (h : i < k) : (fig n k).take (i + 1) = (fig n k).take i ++ [n / 2 ^ (k - 1 - i) % 2 == 1] := take_more (fig_get n k i h)
theorem bit_int (n d : Nat) : (((n : Int) / ((2 ^ d : Nat) : Int) % 2 = 1)) ↔ (n / 2 ^ d % 2 == 1) = true := by
  rw [beq_iff_eq, ← Int.natCast_ediv]
  omega
end St
namespace St
open PySem PySem.Spec PyProof.Rows L2
/-! ### the mean length of the words by a step -/
def meanR (m : Nat) (x : Rat) : Rat :=
  (((if (wideN m : Int) > 1 then (wideN m : Int) else 1 : Int) : Rat) + x ^ m / (1 - x ^ m)) + (if 0 < wideN m then (x ^ shortN m - x ^ m) / (1 - x ^ m) else 0)
theorem rat_pos {p q : Nat} (h : IsRat p q) : 0 < rat p q := by
  have h1 := h.p1
  have h2 := h.pq
  have a : (0 : Rat) < ((p : Int) : Rat) := Rat.intCast_pos.mpr (by omega)
  have b : (0 : Rat) < ((q : Int) : Rat) := Rat.intCast_pos.mpr (by omega)
  unfold rat
  exact (Rat.lt_div_iff b).mpr (by rw [Rat.zero_mul]; exact a)
theorem rat_lt_one {p q : Nat} (h : IsRat p q) : rat p q < 1 := by
  have h1 := h.p1
  have h2 := h.pq
  have b : (0 : Rat) < ((q : Int) : Rat) := Rat.intCast_pos.mpr (by omega)
  unfold rat
  exact (Rat.div_lt_iff b).mpr (by rw [Rat.one_mul]; exact Rat.intCast_lt_intCast.mpr (by omega))
theorem pow_lt_one {x : Rat} (h0 : 0 < x) (h1 : x < 1) : ∀ {m : Nat}, 1 ≤ m → x ^ m < 1
  | 1, _ => by rw [Rat.pow_one]; exact h1
  | m + 2, _ => by
    have ih := pow_lt_one h0 h1 (m := m + 1) (by omega)
    rw [Rat.pow_succ]
    have a := Rat.pow_pos (n := m + 1) h0
    have b := Rat.mul_lt_mul_of_pos_left h1 a
    rw [Rat.mul_one] at b
    exact Std.lt_trans b ih
theorem left_pos {p q : Nat} (h : IsRat p q) {m : Nat} (hm : 1 ≤ m) : 0 < 1 - rat p q ^ m := by
  have := pow_lt_one (rat_pos h) (rat_lt_one h) hm
  exact (Rat.lt_iff_sub_pos _ _).mp this
/-- what the law adds up -/
def ovI (p q : Int) (len : Nat → Int) : Nat → Int
  | 0 => 0
  | k + 1 => ovI p q len k * q + (q - p) * p ^ k * len k
def lenI (m r : Nat) : Int := (((wordB m r).length : Nat) : Int)
theorem lenI_eq {m r : Nat} (hm : 1 ≤ m) (h : r < m) : lenI m r = if r < shortN m then (wideN m : Int) else (wideN m : Int) + 1 := by
  unfold lenI
  rw [word_len, Nat.div_eq_of_lt h, Nat.mod_eq_of_lt h, rest_len]
  split
  · rename_i c
    have : 1 ≤ wideN m := by
      refine Nat.not_lt.mp fun z => ?_
      have e := short_zero (show wideN m = 0 by omega) hm
      subst e
      unfold shortN at c
      rw [show wideN 1 = 0 from rfl] at c
      omega
    omega
  · omega
theorem ovI_eq (p q : Int) {m : Nat} (hm : 1 ≤ m) : ∀ k, k ≤ m → ovI p q (lenI m) k = ((wideN m : Int) + 1) * (q ^ k - p ^ k) - (q ^ k - p ^ (min k (shortN m)) * q ^ (k - min k (shortN m)))
  | 0, _ => by
    simp [ovI]
  | k + 1, hk => by
    have ih := ovI_eq p q hm k (by omega)
    rw [ovI, ih, lenI_eq hm (by omega)]
    by_cases c : k < shortN m
    · rw [if_pos c, Nat.min_eq_left (by omega), Nat.min_eq_left (show k + 1 ≤ shortN m by omega), Nat.sub_self, Nat.sub_self, Int.pow_zero, Int.pow_succ, Int.pow_succ]
      generalize q ^ k = Q
      generalize p ^ k = P
      generalize (wideN m : Int) = c
      grind
    · rw [if_neg c, Nat.min_eq_right (by omega), Nat.min_eq_right (show shortN m ≤ k + 1 by omega), show k + 1 - shortN m = (k - shortN m) + 1 by omega, Int.pow_succ, Int.pow_succ, Int.pow_succ]
      generalize q ^ k = Q
      generalize p ^ k = P
      generalize p ^ shortN m = R
      generalize q ^ (k - shortN m) = S
      generalize (wideN m : Int) = c
      grind
theorem pow_gt {p q : Nat} (h : p < q) {m : Nat} (hm : 1 ≤ m) : (p : Int) ^ m < (q : Int) ^ m := by
  have := Nat.pow_lt_pow_left h (show m ≠ 0 by omega)
  rw [← Int.natCast_pow, ← Int.natCast_pow]
  exact Int.ofNat_lt.mpr this
theorem law_mean {p q : Nat} (h : IsRat p q) {m : Nat} (hm : 1 ≤ m) :
    Rat.divInt (ovI p q (lenI m) m + (p : Int) ^ m) ((q : Int) ^ m - (p : Int) ^ m) = meanR m (rat p q) := by
  have h1 := h.p1
  have h2 := h.pq
  have hs := short_lt hm
  rw [ovI_eq p q hm m (Nat.le_refl _), Nat.min_eq_right (by omega), Rat.divInt_eq_div]
  have hq : (0 : Rat) < ((q : Int) : Rat) := Rat.intCast_pos.mpr (by omega)
  have ex : ∀ t : Nat, rat p q ^ t = (((p : Int) ^ t : Int) : Rat) / (((q : Int) ^ t : Int) : Rat) := fun t => by
    rw [← rat_pow p q (by omega) t, Rat.divInt_eq_div]
  have eq0 : (((q : Int) ^ m : Int) : Rat) = (((q : Int) ^ shortN m : Int) : Rat) * (((q : Int) ^ (m - shortN m) : Int) : Rat) := by
    rw [← Rat.intCast_mul, ← Int.pow_add, show shortN m + (m - shortN m) = m by omega]
  have n1 : (((q : Int) ^ m : Int) : Rat) ≠ 0 := cast_ne (Int.ne_of_gt (Int.pow_pos (by omega)))
  have n2 : (((q : Int) ^ shortN m : Int) : Rat) ≠ 0 := cast_ne (Int.ne_of_gt (Int.pow_pos (by omega)))
  have n4 : (((q : Int) ^ m : Int) : Rat) - (((p : Int) ^ m : Int) : Rat) ≠ 0 := by
    rw [← Rat.intCast_sub]
    exact cast_ne (by have := pow_gt h2 hm; omega)
  unfold meanR
  rw [ex m, ex (shortN m)]
  simp only [Rat.intCast_sub, Rat.intCast_add, Rat.intCast_mul]
  by_cases c : 0 < wideN m
  · rw [if_pos c]
    have e1 : (((if (wideN m : Int) > 1 then (wideN m : Int) else 1 : Int)) : Rat) = ((wideN m : Int) : Rat) := by
      split
      · rfl
      · rw [show wideN m = 1 by omega]
        rfl
    rw [e1]
    generalize (((q : Int) ^ m : Int) : Rat) = Q at *
    generalize (((p : Int) ^ m : Int) : Rat) = P at *
    generalize (((q : Int) ^ shortN m : Int) : Rat) = T at *
    generalize (((p : Int) ^ shortN m : Int) : Rat) = S at *
    generalize (((q : Int) ^ (m - shortN m) : Int) : Rat) = U at *
    generalize ((wideN m : Int) : Rat) = c at *
    have n5 : 1 - P / Q ≠ 0 := by
      intro e
      apply n4
      grind
    have e1 : ((1 : Int) : Rat) = 1 := rfl
    grind
  · rw [if_neg c]
    have w0 : wideN m = 0 := by omega
    have m1 := short_zero w0 hm
    subst m1
    rw [show wideN 1 = 0 from rfl, show shortN 1 = 0 from rfl, if_neg (by decide)]
    rw [show shortN 1 = 0 from rfl] at eq0 n2
    simp only [Int.pow_zero, Nat.sub_zero] at *
    generalize (((q : Int) ^ 1 : Int) : Rat) = Q at *
    generalize (((p : Int) ^ 1 : Int) : Rat) = P at *
    have n5 : 1 - P / Q ≠ 0 := by
      intro e
      apply n4
      grind
    have e1 : ((1 : Int) : Rat) = 1 := rfl
    have e0 : ((0 : Int) : Rat) = 0 := rfl
    simp only [e1, e0, show (((0 : Nat) : Int) : Rat) = 0 from rfl]
    grind
end St
namespace St
open PySem PySem.Spec PyProof.Rows L2
/-- the greatest of the losses, as both go through them -/
def worstR (f : Rat → Rat) (w : Rat) (xs : List Rat) : Rat := xs.foldl (fun w x => if w < f x then f x else w) w
theorem worst_snoc (f : Rat → Rat) (w : Rat) (xs : List Rat) (x : Rat) : worstR f w (xs ++ [x]) = if worstR f w xs < f x then f x else worstR f w xs := by
  unfold worstR
  rw [List.foldl_append]
  rfl
/-- the least step whose greatest loss is least, of the steps 1 .. n -/
def fairF (g : Nat → Rat) : Nat → Option (Nat × Rat)
  | 0 => none
  | n + 1 => match fairF g n with
    | none => some (n + 1, g (n + 1))
    | some (s, b) => if g (n + 1) < b then some (n + 1, g (n + 1)) else some (s, b)
theorem fairF_none {g : Nat → Rat} {n : Nat} (h : fairF g n = none) : fairF g (n + 1) = some (n + 1, g (n + 1)) := by
  show (match fairF g n with
    | none => some (n + 1, g (n + 1))
    | some (s, b) => if g (n + 1) < b then some (n + 1, g (n + 1)) else some (s, b)) = _
  rw [h]
theorem fairF_some {g : Nat → Rat} {n s : Nat} {b : Rat} (h : fairF g n = some (s, b)) : fairF g (n + 1) = if g (n + 1) < b then some (n + 1, g (n + 1)) else some (s, b) := by
  show (match fairF g n with
    | none => some (n + 1, g (n + 1))
    | some (s, b) => if g (n + 1) < b then some (n + 1, g (n + 1)) else some (s, b)) = _
  rw [h]
theorem lt_iff_int (r s : Rat) : r.num * (s.den : Int) < s.num * (r.den : Int) ↔ r < s := (Rat.lt_iff r s).symm
theorem le_iff_int (r s : Rat) : r.num * (s.den : Int) ≤ s.num * (r.den : Int) ↔ r ≤ s := (Rat.le_iff r s).symm
theorem bd_zero (b : Nat) (h : 1 ≤ b) : Bd 0 b := ⟨by show 0 < 2 ^ b; exact Nat.pow_pos (by decide), by show 1 < 2 ^ b; exact Nat.one_lt_pow (by omega) (by decide)⟩
/-- a tuple of ratios -/
structure RatsAt (K : PySem.W.Frag) (H : Hp) (a : Addr) (rs : List (Addr × Nat × Nat)) : Prop where
  seq : SqT K H a (rs.map fun t => V.ref t.1)
  each : ∀ t ∈ rs, SqT K H t.1 [.int (t.2.1 : Nat), .int (t.2.2 : Nat)] ∧ IsRat t.2.1 t.2.2
theorem RatsAt.same {K : PySem.W.Frag} {H H' : Hp} {a : Addr} {rs : List (Addr × Nat × Nat)} (s : Same H H') (h : RatsAt K H a rs) : RatsAt K H' a rs :=
  ⟨Same.seqT s h.seq, fun t ht => ⟨Same.seqT s (h.each t ht).1, (h.each t ht).2⟩⟩
def ratsOf (rs : List (Addr × Nat × Nat)) : List Rat := rs.map fun t => rat t.2.1 t.2.2
theorem iteNF {p : Prop} [Decidable p] {A B : Prop} (h : p) (b : B) : if (!decide p) = true then A else B := by
  rw [decide_eq_true h]
  exact iteF b
def BestAt (K : PySem.W.Frag) (H : Hp) (g : Nat → Rat) (i : Nat) (bv : V) : Prop :=
  (fairF g i = none ∧ bv = .non) ∨ ∃ (s : Nat) (w : Rat) (T W : Addr), fairF g i = some (s, w) ∧ bv = .ref T ∧ H T = some (.tup [.int (s : Nat), .ref W]) ∧ RatAt K H W w ∧ Bd w 3402
theorem BestAt.same {K : PySem.W.Frag} {H H' : Hp} {g : Nat → Rat} {i : Nat} {bv : V} (s : Same H H') (h : BestAt K H g i bv) : BestAt K H' g i bv := by
  rcases h with h | ⟨st, w, T, W, a, b, c, d, e⟩
  · exact .inl h
  · exact .inr ⟨st, w, T, W, a, b, s _ _ c, d.same s, e⟩
theorem take_rats {rs : List (Addr × Nat × Nat)} {j : Nat} {t : Addr × Nat × Nat} (h : rs[j]? = some t) : (ratsOf rs).take (j + 1) = (ratsOf rs).take j ++ [rat t.2.1 t.2.2] := by
  refine take_more ?_
  unfold ratsOf
  rw [List.getElem?_map, h]
  rfl
theorem bd_mean {p q : Nat} (hr0 : IsRat p q) {m : Nat} (h1 : 1 ≤ m) (h64 : m ≤ 64) : Bd (meanR m (rat p q)) 1700 := by
  have hq := hr0.q30
  have hp := hr0.p1
  have hpq := hr0.pq
  have h6 := wide_64 h64
  have hsh := short_lt h1
  have L0 := left_pos hr0 h1
  have b1 : Bd (rat p q ^ m) 321 := (Bd.pow (p := p) (q := q) (by omega) hq (by omega) m).mono (by omega)
  have b2 : Bd (rat p q ^ shortN m) 321 := (Bd.pow (p := p) (q := q) (by omega) hq (by omega) (shortN m)).mono (by omega)
  have b3 : Bd (1 : Rat) 1 := ⟨by decide, by decide⟩
  have b4 := Bd.sub b3 b1
  have b6 : Bd ((if (wideN m : Int) > 1 then (wideN m : Int) else 1 : Int) : Rat) 3 := ⟨by
    show (if (wideN m : Int) > 1 then (wideN m : Int) else 1 : Int).natAbs < 2 ^ 3
    split <;> omega, by show 1 < 2 ^ 3; decide⟩
  have ba := Bd.add b6 (Bd.quot b1 b4 L0)
  have b5 : Bd (if 0 < wideN m then (rat p q ^ shortN m - rat p q ^ m) / (1 - rat p q ^ m) else 0) 970 := by
    split
    · exact (Bd.quot (Bd.sub b2 b1) b4 L0).mono (by omega)
    · exact bd_zero _ (by decide)
  exact (Bd.add ba b5).mono (by omega)
end St
namespace St
open PySem PySem.Spec PyProof.Rows L2
/-! ### enumerate over a tuple, over a text -/
theorem meets_enumT (l : Addr) (items : Array Value) (n : Nat) (dct : Option Addr) (sl : Array (Option Value)) :
    Meets (Builtin.«enumerate.__new__» ⟨[.type "enumerate", .ref l], []⟩) (fun _ R s => s.heap.get? l = some { cls := .type "tuple", dict := dct, data := .seq items n, slots := sl } ∧
      R (.ok (.ret (.ref (s.heap.push { cls := .type "tuple_iterator", data := .fields #[.ref l, .int 0 0] }).objs.size)))
        { s with heap := (s.heap.push { cls := .type "tuple_iterator", data := .fields #[.ref l, .int 0 0] }).push { cls := .type "enumerate", data := .fields #[.none, .bool false, .ref s.heap.objs.size, rawInt 0, .none, .none] } }) :=
  .of_wp fun prog w A R s h => by
    obtain ⟨hp, g, d, tk, os⟩ := s; obtain ⟨hl, h⟩ := h
    have hsub := sub_enumerate
    have hL : Heap.IsTuple (Shared.heap ⟨hp, g, d, tk, os⟩) l items := ⟨_, hl, rfl, n, rfl⟩
    wp_walk using AutoSeq1.wpAny_loadPart' hl
    refine wpAny_stack_any fun st => wpAny_pure ?_
    split
    · rename_i c _ _ _ _ _
      cases (c == Value.type "enumerate")
      · wp_walk using AutoSeq1.wpAny_loadPart' hl, wpAny_pyIter_tuple hL
        exact ⟨_, rfl, h⟩
      · wp_walk using AutoSeq1.wpAny_loadPart' hl, wpAny_pyIter_tuple hL
        exact ⟨_, rfl, h⟩
    · wp_walk using AutoSeq1.wpAny_loadPart' hl, wpAny_pyIter_tuple hL
      exact ⟨_, rfl, h⟩
section
variable {prog : Program} {w : World} {A : Around} {E : Value → Shared → Prop} {s : Shared}
theorem call_enumT {l : Addr} {items : Array Value} {Q : Value → Shared → Prop} (hL : s.heap.IsTuple l items)
    (h : ∀ h', IsEnum h' (s.heap.objs.size + 1) s.heap.objs.size 0 .none → h'.IsTupleIter s.heap.objs.size l 0 → h'.objs.size = s.heap.objs.size + 2 →
      (∀ b o, s.heap.get? b = some o → h'.get? b = some o) → Q (.ref (s.heap.objs.size + 1)) { s with heap := h' }) :
    wpAny (model prog w) A (call (.type "enumerate") [.ref l]) Q E s := by
  obtain ⟨⟨c, dct, dt, sl⟩, hl, hc, n, hd⟩ := hL
  replace hc : c = .type "tuple" := hc
  replace hd : dt = .seq items n := hd
  subst hc hd
  refine callType_new F.called_enumerate (by decide) (F.typeCall_enumerate_1 _) (F.newCall_enumerate_1 _) (fun obj => F.args_object_init_2 obj _) F.entry_enumerate_new
    (meets_enumT l items n dct sl) ⟨hl, ?_⟩
  have hz : (s.heap.push { cls := .type "tuple_iterator", data := .fields #[.ref l, .int 0 0] }).objs.size = s.heap.objs.size + 1 := Heap.size_push ..
  show _ ∧ _
  rw [hz]
  have he : IsEnum ((s.heap.push { cls := .type "tuple_iterator", data := .fields #[.ref l, .int 0 0] }).push
      { cls := .type "enumerate", data := .fields #[.none, .bool false, .ref s.heap.objs.size, rawInt 0, .none, .none] }) (s.heap.objs.size + 1) s.heap.objs.size 0 .none := by
    have := Heap.get?_push_size (s.heap.push { cls := .type "tuple_iterator", data := .fields #[.ref l, .int 0 0] })
      (o := { cls := .type "enumerate", data := .fields #[.none, .bool false, .ref s.heap.objs.size, rawInt 0, .none, .none] }) rfl
    rw [hz] at this; exact this
  refine ⟨⟨_, he, rfl⟩, h _ he ⟨_, Heap.get?_push_of_some _ (Heap.get?_push_size _ rfl), rfl, rfl⟩ (by rw [Heap.size_push, hz]) fun b o x => Heap.get?_push_of_some _ (Heap.get?_push_of_some _ x)⟩
end
theorem drawsT {prog : Program} {w : World} {A : Around} (hh : A.handled = none) (it l : Addr) (hne : l ≠ it) (items : Array Value) :
    Draws prog w A it [it, l] items.size (fun i v => items[i]? = some v) (fun i h => h.IsTupleIter it l i ∧ h.IsTuple l items) where
  live := fun _ _ st => let ⟨o, ho, _⟩ := st.1; ⟨o, ho⟩
  frame := fun _ _ _ st hk => ⟨st.1.at fun o e => hk it (by simp) o e, let ⟨o, ho, r⟩ := st.2; ⟨o, hk l (by simp) o ho, r⟩⟩
  item := fun i s Q E hi st hQ => by
    refine RZ.nextOf_tuple_item st.1 st.2 (x := items[i]) (by simp [hi]) fun h' hit' hs' => ?_
    obtain ⟨o, ho, r⟩ := st.2
    exact hQ _ h' s.toks (by simp [hi]) ⟨hit', o, hs'.extBut l o hne ho, r⟩ hs'
  done := fun s Q E st hE => RZ.nextOf_tuple_end hh st.1 st.2 (by simp) hE
theorem enumT_end {prog : Program} {w : World} {A : Around} {E : Value → Shared → Prop} {s : Shared} {e it a : Addr} {i : Nat} {items : Array Value} {z : Int} {old : Value} {Q : Option Value → Shared → Prop} (hh : A.in1.handled = none)
    (he : IsEnum s.heap e it z old) (hit : s.heap.IsTupleIter it a i) (ht : s.heap.IsTuple a items) (hx : items[i]? = none)
    (hQ : ∀ h', Heap.ExtBut it s.heap h' → Q none { s with heap := h' }) : wpAny (model prog w) A (pyNext (.ref e)) Q E s := by
  have hT : s.TypeIs (.ref e) "enumerate" := ⟨_, he, rfl⟩
  unfold pyNext
  refine wpAny_bind (wpAny_attempt (wpAny_callSpecial?_slot (name := Str.ofString "__next__") hT F.slot_enumerate_next
    (wpAny_call_entry F.slot_enumerate_next hT F.entry_enumerate_next ?_ (F.args_enumerate_next_1 _))))
  show wpAny _ _ (field (.ref e) 2 >>= _) _ _ _
  refine wpAny_bind (wpAny_field he rfl (x := .ref it) rfl ?_)
  refine wpAny_bind (RZ.nextOf_tuple_end hh hit ht hx fun h' x he' hx' => ?_)
  obtain ⟨o, ho, hc⟩ := hx'
  refine wpAny_bind (wpAny_isInstance (T := "StopIteration") (b := true) ⟨o, ho, hc⟩ isSubtype_stop ?_)
  exact wpAny_pure (hQ _ he')
/-- the tuple at a, each item in a new pair -/
def IteT (K : PySem.W.Frag) (a : Addr) : It :=
  ⟨fun i H => ∃ (xs : List V) (x : V), SqT K H a xs ∧ xs[i]? = some x, fun i H v H' => ∃ T x, v = .ref T ∧ H T = none ∧ H' = upd H T (.tup [.int (i : Nat), x]) ∧ ∀ xs, SqT K H a xs → xs[i]? = some x, fun i H => ∃ xs : List V, SqT K H a xs ∧ xs.length ≤ i⟩
theorem turn_enumT {P : Program} {w : World} {K : PySem.W.Frag} {elts : List Expr} {kk : Nat} {tpos : Pos} (a e it : Addr) :
    Turn P w K (.Tuple elts kk tpos) (IteT K a) [e, it] e (fun i h => (∃ old, IsEnum h e it ((i : Nat) : Int) old) ∧ h.IsTupleIter it a i ∧ e ≠ it) where
  mem := by simp
  obj := fun i h st b hb => by
    obtain ⟨⟨old, he⟩, ⟨o, ho, hc, hd⟩, _⟩ := st
    have e' : b = e ∨ b = it := by simpa using hb
    rcases e' with z | z
    · rw [z]; exact ⟨_, he, fun v q => nomatch q⟩
    · rw [z]; exact ⟨o, ho, fun v q => by rw [hd] at q; cases q⟩
  keep := fun i h h' st k => let ⟨⟨old, he⟩, hi, hne⟩ := st; ⟨⟨old, k e (by simp) _ he⟩, hi.at fun o q => k it (by simp) o q, hne⟩
  item := by
    intro X hP hw hK hc i pins s σ H E I hf st hg
    subst hP hw hK
    obtain ⟨⟨old, he⟩, hit, hne⟩ := st
    obtain ⟨xs, x, hq, hx⟩ := hg
    obtain ⟨its, rv, p, hz⟩ := I.tuple hq
    obtain ⟨u, hu, ru⟩ := rv.get hx
    have hel : e < s.heap.objs.size := Heap.lt_size he
    have hil : it < s.heap.objs.size := by obtain ⟨_, q, _⟩ := hit; exact Heap.lt_size q
    have nai : a ≠ it := fun z => by
      obtain ⟨o1, q1, c1, _⟩ := p
      obtain ⟨o2, q2, c2, _⟩ := hit
      rw [z, q2] at q1
      rw [Option.some.inj q1, c1] at c2
      exact absurd (Value.type.inj c2) (by decide)
    have nae : a ≠ e := fun z => by
      obtain ⟨o1, q1, c1, _⟩ := p
      have q2 : s.heap.get? e = _ := he
      rw [z, q2] at q1
      rw [← Option.some.inj q1] at c1
      exact absurd (Value.type.inj c1) (by decide)
    have hlt : i < its.toArray.size := by
      have := (List.getElem?_eq_some_iff.mp hu).1
      simpa using this
    refine wpAny_pyNext_enum_itemD (drawsT (show X.A.in1.handled = none from I.ok.hd hc) it a nai its.toArray) he ⟨hit, p⟩ hlt hne (by simp; exact ⟨hne, Ne.symm nae⟩) fun x' h' tk hPx ho hst hT hsz hk => ?_
    have exu : x' = u := by
      have : its[i]? = some x' := by simpa using hPx
      rw [hu] at this
      exact (Option.some.inj this).symm
    subst exu
    refine ⟨_, rfl, wpAny_letOwnedTupleGo_enum (s := { s with heap := h', toks := tk + 1 }) ho fun h'' he' sb => ?_⟩
    have hT2 : h''.get? s.heap.objs.size = some { cls := .type "tuple", data := .seq #[.int i tk, x'] } := (sb.2 _ (Nat.ne_of_gt hel)).trans hT
    have new : ObjOk X.prog X.w (upd H s.heap.objs.size (.tup [.int (i : Nat), x])) h'' s.heap.objs.size (.tup [.int (i : Nat), x]) :=
      ⟨by show 2 ≤ sizeLine; decide, [.int i tk, x'], .cons ⟨_, rfl⟩ (.cons ru .nil), ⟨_, hT2, rfl, _, rfl⟩⟩
    have I1 : Inv X pins σ (upd H s.heap.objs.size (.tup [.int (i : Nat), x])) { s with heap := h'', toks := tk + 1 } :=
      I.turnedNew (ch := [e, it]) (fun b ob hb q => (sb.2 b (fun z => hb (by simp [z]))).trans (hk b ob (fun z => hb (by simp [z])) (fun z => hb (by simp [z])) q)) hf (Nat.le_refl _) new
    refine ⟨.ref s.heap.objs.size, _, I1, rfl, ⟨_, x, rfl, I.hok.fresh (Nat.le_refl _), rfl, fun ys hy => by rw [I.tuple_inj hy hq]; exact hx⟩, ⟨⟨x', ?_⟩, hst.1.at fun o q => (sb.2 it (Ne.symm hne)).trans q, hne⟩, fun b hb => ?_⟩
    · have e1 : ((i + 1 : Nat) : Int) = (i : Int) + 1 := by omega
      rw [e1]; exact he'
    · have hb' : b < s.heap.objs.size := by
        have e' : b = e ∨ b = it := by simpa using hb
        rcases e' with z | z
        · rw [z]; exact hel
        · rw [z]; exact hil
      rw [upd_ne (Nat.ne_of_lt hb')]
      exact (hf b hb).1
  done := by
    intro X hP hw hK hc i pins s σ H E I hf st hg
    subst hP hw hK
    obtain ⟨⟨old, he⟩, hit, hne⟩ := st
    obtain ⟨xs, hq, hx⟩ := hg
    obtain ⟨its, rv, p, hz⟩ := I.tuple hq
    obtain ⟨f0, f1, f2, f3, f4, f5⟩ := hf it (by simp)
    have hl := rv.length
    exact enumT_end (show X.A.in1.handled = none from I.ok.hd hc) he hit p (by simp; omega) fun h' eb => ⟨rfl, I.turned (t' := s.toks) (fun b o hb q => eb b o hb q) f0 f1 f3 f4 f5⟩
  self := fun A i s Q E st h => let ⟨⟨_, he⟩, _⟩ := st; wpAny_pyIter_enum he h
def iEnumT (K : PySem.W.Frag) (ta : TA) : TI := fun σ H R => ta σ H fun vs H1 => ∃ a xs, vs = [.ref a] ∧ SqT K H1 a xs ∧ R (IteT K a) H1
theorem pi_enumT {X : Cx} {e : Expr} {ta : TA} {p pos tpos : Pos} {elts : List Expr} {kk : Nat} (hg : Gl X "enumerate") (hm : X.mg "enumerate" = none) (ha : PA X [e] ta) (hs : starEach [e] X.env = [(false, eval e X.env)] := by rfl) :
    PI X (.Tuple elts kk tpos) (.Call (.Name "enumerate" p) [e] [] pos) (iEnumT X.K ta) := by
  refine ⟨fun pins s σ H R I h => ?_⟩
  refine Call_ (ld_blt I hg hm boot_enumerate (PyProof.Rows.callWith_type1 (thn (ha.run pos pins s σ H _ I h) fun us s1 ⟨vs, H1, I1, r1, q1⟩ => ?_) hs rfl))
  obtain ⟨a, xs, ex, hq, q⟩ := q1
  subst ex
  cases r1 with
  | cons r rr =>
    cases rr
    cases r
    obtain ⟨its, rv, p', hz⟩ := I1.tuple hq
    refine call_enumT p' fun h' he hit hsz hk => wpAny_pyIter_enum he ?_
    have I2 : Inv X pins σ H1 { s1 with heap := h' } := I1.kept (t' := s1.toks) hk
    refine ⟨s1.heap.objs.size + 1, [s1.heap.objs.size + 1, s1.heap.objs.size], _, _, H1, rfl, I2, turn_enumT a (s1.heap.objs.size + 1) s1.heap.objs.size, ⟨⟨.none, he⟩, hit, Nat.succ_ne_self _⟩, fun b hb => ?_, q⟩
    have e' : b = s1.heap.objs.size + 1 ∨ b = s1.heap.objs.size := by simpa using hb
    have hle : s1.heap.objs.size ≤ b := by
      rcases e' with z | z
      · rw [z]; exact Nat.le_add_right _ _
      · rw [z]; exact Nat.le_refl _
    exact I1.fpOk hle (I1.hok.fresh hle)
/-- a walk over an enumerated tuple that stands still -/
theorem for_enumT {K : PySem.W.Frag} {a : Addr} {xs : List V} {g : TG} {tb : TS} {D : Ends} {σ : List (Option V)} {H : Hp} (Pv : Nat → List (Option V) → Hp → Prop) (h0 : Pv 0 σ H) (hl : ∀ i σ H, i ≤ xs.length → Pv i σ H → SqT K H a xs)
    (hs : ∀ i x σ H T, xs[i]? = some x → Pv i σ H → H T = none → g (.ref T) σ (upd H T (.tup [.int (i : Nat), x])) fun σ2 H2 => tb { D with nx := Pv (i + 1), ct := Pv (i + 1), bk := D.nx } σ2 H2) (hd : ∀ σ H, Pv xs.length σ H → D.nx σ H) :
    ∃ W : Nat → Nat → List (Option V) → Hp → Prop, (∃ m, W 0 m σ H) ∧ ∀ i m σ H, W i m σ H →
      ((IteT K a).stop i H ∧ D.nx σ H) ∨ ((IteT K a).go i H ∧ ∃ N : List (Option V) → Hp → Prop, (∀ σ' H', N σ' H' → ∃ m', m' < m ∧ W (i + 1) m' σ' H') ∧ ∀ x H', (IteT K a).yld i H x H' → g x σ H' fun σ2 H2 => tb { D with nx := N, ct := N, bk := D.nx } σ2 H2) := by
  refine ⟨fun i m σ H => m = xs.length - i ∧ i ≤ xs.length ∧ Pv i σ H, ⟨xs.length, by simp, Nat.zero_le _, h0⟩, ?_⟩
  rintro i m σ H ⟨rfl, hi, p⟩
  have q := hl i σ H hi p
  by_cases hlt : i < xs.length
  · refine .inr ⟨⟨xs, xs[i], q, by simp [hlt]⟩, Pv (i + 1), fun σ' H' p' => ⟨xs.length - (i + 1), by omega, rfl, hlt, p'⟩, fun x H' y => ?_⟩
    obtain ⟨T, z, rfl, nT, rfl, y⟩ := y
    exact hs i z σ H T (y xs q) p nT
  · have e : i = xs.length := by omega
    subst e
    exact .inl ⟨⟨xs, q, Nat.le_refl _⟩, hd σ H p⟩
end St
namespace St
open PySem PySem.Spec PyProof.Rows L2
def topS (i : Nat) : Stmt := PySem.Challenge.pw_stepruns_k06_whole_fair_steps.main.body.getD i (.Pass ⟨0, 0, 0, 0⟩)

abbrev s__law_mix : Stmt := topS 28
theorem sc__law_mix : FnScope ["_law_script", "_law_seed", "_law_state", "_law_cell"] ["_law_script", "_law_seed"] (defScope s__law_mix) := ⟨rfl, rfl, rfl, by decide +kernel, rfl, by decide +kernel, by decide +kernel⟩
def sp__law_mix (K : PySem.W.Frag) : Sp := fun vs H Q _ => ∃ (a : Addr) (ns : List Int) (sd : Int), vs = [.ref a, .int sd] ∧ SqL K H a (ns.map V.int) ∧ ns.length ≤ 63 ∧
  ∀ (h q : Addr) (H' : Hp), Same H H' → H h = none → H q = none → LawH H' h q → Q (.ref h) H'
section
variable {P : Program} {w : World} {K : PySem.W.Frag} {mg : Str → Option Value} {base : Heap}
theorem ok__law_mix (A : At K mg "_law_mix" s__law_mix ["_law_script", "_law_seed"]) (B : Bn mg) : CalE P w K mg base "_law_mix" ["_law_script", "_law_seed"] 1 (sp__law_mix K) := by
  obtain ⟨f, fd, F, gF, bF⟩ := A
  refine ⟨f, fd, F.ok sc__law_mix (fun vs H Q E h => ?_) (fun cdv A outer s H vs Q E hr h => ?_), gF, F.kp, bF⟩
  · repeat (first | (obtain ⟨rfl, _⟩ := h; rfl) | (obtain ⟨_, h⟩ := h))
  · obtain ⟨a, ns, sd, rfl, hS, hl, q⟩ := h
    refine ⟨_, (pss_cons (ps_set (i := 2) sc__law_mix.nd rfl (.inl rfl) (pv 1))
      (pss_cons (ps_for PassesOwn.never rfl (pi_list (pv 0)) (pg_name (i := 3) sc__law_mix.nd rfl (.inl rfl))
      (pss_one (ps_set (i := 2) sc__law_mix.nd rfl (.inl rfl) (pe_op op_mod (pe_callTy call_int1 (by rfl) B.int_ (by decide +kernel) (pa_cons (pe_op op_add (pe_op op_add (pe_op op_mul (pv 2) pe_int) (pe_op op_mod (pe_callTy call_int1 (by rfl) B.int_ (by decide +kernel) (pa_cons (pv 3) pa_nil)) pe_int)) pe_int) pa_nil)) pe_int))))
      (pss_one (ps_ret (pe_lst (pa_cons (pv 2) (pa_cons (pe_callTy (call_list_of_ K) (by rfl) B.list_ (by decide +kernel) (pa_cons (pv 0) pa_nil)) (pa_cons pe_int pa_nil)))))))), ?_⟩
    -- _law_state = _law_seed
    refine ⟨_, rfl, ?_⟩
    refine ⟨_, rfl, a, rfl, ⟨_, hS⟩, for_list (K := K) (a := a) (xs := ns.map V.int) (fun i σ H2 => ∃ (st : Int) (v : Option V), σ = [some (.ref a), some (.int sd), some (.int st), v] ∧ H2 = H)
      ⟨_, _, rfl, rfl⟩ (fun i σ H2 _ ⟨_, _, _, e⟩ => e ▸ hS) ?_ ?_⟩
    · rintro i y σ H2 hi ⟨st, v, rfl, rfl⟩
      obtain ⟨z, rfl⟩ : ∃ z, y = V.int z := by
        rw [List.getElem?_map] at hi
        cases e : ns[i]? with
        | none => rw [e] at hi; cases hi
        | some z => rw [e] at hi; exact ⟨z, (Option.some.inj hi).symm⟩
      refine ⟨_, rfl, _, _, rfl, rfl, .inr (by omega), _, rfl, .inl ⟨_, rfl, _, _, rfl, rfl, (by decide : (0 : Int) < 2147483629), _, _, rfl, rfl, _, _, rfl, rfl, .inl ⟨_, rfl, _, _, rfl, rfl, (by decide : (0 : Int) < 2147483647), ?_⟩⟩⟩
      exact ⟨_, _, rfl, rfl⟩
    · rintro σ H2 ⟨st, v, rfl, rfl⟩
      -- return [state, list(script), 0]
      refine ⟨_, rfl, _, rfl, a, _, rfl, .inl hS, fun c nc => ⟨(by show 3 ≤ sizeLine; decide), fun p np => ?_⟩⟩
      have npc : p ≠ c := fun e => by rw [e, upd_same] at np; cases np
      refine q p c _ ((same_new nc _).trans (same_new np _)) ((same_new nc _).free np) nc ⟨npc, st, 0, ns, upd_same, ?_, by omega⟩
      rw [upd_ne npc.symm, upd_same]
end

abbrev s__law_alike : Stmt := topS 30
theorem sc__law_alike : FnScope ["_law_found", "_law_due", "_law_k"] ["_law_found", "_law_due"] (defScope s__law_alike) := ⟨rfl, rfl, rfl, by decide +kernel, rfl, by decide +kernel, by decide +kernel⟩
def tnD : PyData → String
  | .none => "NoneType" | .bool _ => "bool" | .int _ => "int" | .str _ => "str" | .list _ => "list" | .tuple _ => "tuple" | .dict _ => "dict"
theorem Dp.ty {K : PySem.W.Frag} {H : Hp} {v : V} {d : PyData} (h : Dp K H v d) : TyX K H v (.type (tnD d)) := by
  cases h with
  | non => exact .base .non
  | bl b => exact .base (.bl b)
  | int i => exact .base (.int i)
  | str x => exact .base (.str x)
  | lst h _ => exact tyL h
  | tup h _ => exact tyT h
def isLD : PyData → Bool
  | .list _ => true | _ => false
theorem kaTL {K : PySem.W.Frag} (d : PyData) : PySem.W.kitAny K (.type (tnD d)) [.type "tuple", .type "list"] = some (isTL d) := by
  have no : ∀ T : String, kitB T "tuple" = some false → kitB T "list" = some false → PySem.W.kitAny K (.type T) [.type "tuple", .type "list"] = some false := fun T h1 h2 =>
    kitAny_cons (b := false) (kit_ty h1) (fun _ => kitAny_cons (b := false) (kit_ty h2) (fun _ => rfl) (fun z => nomatch z)) (fun z => nomatch z)
  have c1 : kitB "tuple" "tuple" = some true := by decide +kernel
  have c2 : kitB "list" "tuple" = some false := by decide +kernel
  have c3 : kitB "list" "list" = some true := by decide +kernel
  cases d with
  | none => exact no "NoneType" (by decide +kernel) (by decide +kernel)
  | bool b => exact no "bool" (by decide +kernel) (by decide +kernel)
  | int b => exact no "int" (by decide +kernel) (by decide +kernel)
  | str b => exact no "str" (by decide +kernel) (by decide +kernel)
  | dict b => exact no "dict" (by decide +kernel) (by decide +kernel)
  | tuple b => exact kitAny_cons (b := true) (kit_ty c1) (fun z => nomatch z) (fun _ => rfl)
  | list b => exact kitAny_cons (b := false) (kit_ty c2) (fun _ => kitAny_cons (b := true) (kit_ty c3) (fun z => nomatch z) (fun _ => rfl)) (fun z => nomatch z)
theorem kaL {K : PySem.W.Frag} (d : PyData) : PySem.W.kitOne K (.type (tnD d)) (.type "list") = some (isLD d) := by
  have c1 : kitB "NoneType" "list" = some false := by decide +kernel
  have c2 : kitB "bool" "list" = some false := by decide +kernel
  have c3 : kitB "int" "list" = some false := by decide +kernel
  have c4 : kitB "str" "list" = some false := by decide +kernel
  have c5 : kitB "list" "list" = some true := by decide +kernel
  have c6 : kitB "tuple" "list" = some false := by decide +kernel
  have c7 : kitB "dict" "list" = some false := by decide +kernel
  cases d <;> first | exact kit_ty c1 | exact kit_ty c2 | exact kit_ty c3 | exact kit_ty c4 | exact kit_ty c5 | exact kit_ty c6 | exact kit_ty c7
theorem kit_of_names {K : PySem.W.Frag} (c : String) (g : PyData → Bool) (h : ∀ d, kitB (tnD d) c = some (g d)) (d : PyData) : PySem.W.kitOne K (.type (tnD d)) (.type c) = some (g d) := kit_ty (h d)
def isSD : PyData → Bool
  | .str _ => true | _ => false
def isID : PyData → Bool
  | .int _ => true | .bool _ => true | _ => false
def isBD : PyData → Bool
  | .bool _ => true | _ => false
theorem tab {c : String} {b1 b2 b3 b4 b5 b6 b7 : Bool} (h : kitB "NoneType" c = some b1 ∧ kitB "bool" c = some b2 ∧ kitB "int" c = some b3 ∧ kitB "str" c = some b4 ∧ kitB "list" c = some b5 ∧ kitB "tuple" c = some b6 ∧ kitB "dict" c = some b7) (d : PyData) :
    kitB (tnD d) c = some (match d with | .none => b1 | .bool _ => b2 | .int _ => b3 | .str _ => b4 | .list _ => b5 | .tuple _ => b6 | .dict _ => b7) := by
  obtain ⟨h1, h2, h3, h4, h5, h6, h7⟩ := h
  cases d <;> assumption
theorem kS {K : PySem.W.Frag} (d : PyData) : PySem.W.kitOne K (.type (tnD d)) (.type "str") = some (isSD d) := by
  have := kit_ty (K := K) (tab (c := "str") (by decide +kernel : kitB "NoneType" "str" = some false ∧ kitB "bool" "str" = some false ∧ kitB "int" "str" = some false ∧ kitB "str" "str" = some true ∧ kitB "list" "str" = some false ∧ kitB "tuple" "str" = some false ∧ kitB "dict" "str" = some false) d)
  cases d <;> exact this
theorem kI {K : PySem.W.Frag} (d : PyData) : PySem.W.kitOne K (.type (tnD d)) (.type "int") = some (isID d) := by
  have := kit_ty (K := K) (tab (c := "int") (by decide +kernel : kitB "NoneType" "int" = some false ∧ kitB "bool" "int" = some true ∧ kitB "int" "int" = some true ∧ kitB "str" "int" = some false ∧ kitB "list" "int" = some false ∧ kitB "tuple" "int" = some false ∧ kitB "dict" "int" = some false) d)
  cases d <;> exact this
theorem kB {K : PySem.W.Frag} (d : PyData) : PySem.W.kitOne K (.type (tnD d)) (.type "bool") = some (isBD d) := by
  have := kit_ty (K := K) (tab (c := "bool") (by decide +kernel : kitB "NoneType" "bool" = some false ∧ kitB "bool" "bool" = some true ∧ kitB "int" "bool" = some false ∧ kitB "str" "bool" = some false ∧ kitB "list" "bool" = some false ∧ kitB "tuple" "bool" = some false ∧ kitB "dict" "bool" = some false) d)
  cases d <;> exact this
def spA (K : PySem.W.Frag) (n : Nat) : Sp := fun vs H Q _ => ∃ (x y : V) (d : PyData) (m : Nat), vs = [x, y] ∧ n = m + 1 ∧ Dp K H x d ∧ Dp K H y d ∧ OkD m d ∧ ∀ H', Same H H' → Q (.bl true) H'
def sp__law_alike (K : PySem.W.Frag) : Sp := spA K 5
section
variable {P : Program} {w : World} {K : PySem.W.Frag} {mg : Str → Option Value} {base : Heap}
theorem ok__law_alike (A : At K mg "_law_alike" s__law_alike ["_law_found", "_law_due"]) (B : Bn mg) : CalE P w K mg base "_law_alike" ["_law_found", "_law_due"] 5 (sp__law_alike K) := by
  obtain ⟨f, fd, F, gF, bF⟩ := A
  have key : ∀ n, FnOk P w K mg base CX0 n f fd ["_law_found", "_law_due"] (spA K n) := by
    intro n
    induction n with
    | zero =>
      have no : ∀ vs H Q E, ¬ spA K 0 vs H Q E := fun vs H Q E h => by
        obtain ⟨x, y, d, m, _, h1, _⟩ := h
        omega
      exact ⟨fun vs H Q E h => absurd h (no vs H Q E), fun A outer s H args us vs Q E _ _ _ _ h => absurd h (no vs H Q E)⟩
    | succ n ih =>
      have G__law_alike : Cal P w K mg base "_law_alike" ["_law_found", "_law_due"] n (spA K n) f fd := ⟨ih, gF, F.kp, bF⟩
      refine F.ok sc__law_alike (fun vs H Q E h => ?_) (fun cdv A outer s H vs Q E hr h => ?_)
      · obtain ⟨x, y, d, m, rfl, _⟩ := h
        rfl
      obtain ⟨x, y, d, m, rfl, em, hx, hy, hd, q⟩ := h
      have em' : n = m := Nat.succ.inj em
      subst em'
      refine ⟨_, (pss_cons (ps_if (pt_val (pe_callB (call_isiT_ K) (by rfl) B.isinstance_ (by decide +kernel) (pa_cons (pv 1) (pa_cons (pe_tup (pa_cons (pe_bltn (v := .ty "tuple") (by rfl) B.tuple_ (by decide +kernel) rfl) (pa_cons (pe_bltn (v := .ty "list") (by rfl) B.list_ (by decide +kernel) rfl) pa_nil))) pa_nil))))
      (pss_cons (ps_if (PW.pt (pw_or (pt_not (pt_val (pe_callB (call_isiT_ K) (by rfl) B.isinstance_ (by decide +kernel) (pa_cons (pv 0) (pa_cons (pe_tup (pa_cons (pe_bltn (v := .ty "tuple") (by rfl) B.tuple_ (by decide +kernel) rfl) (pa_cons (pe_bltn (v := .ty "list") (by rfl) B.list_ (by decide +kernel) rfl) pa_nil))) pa_nil))))) (pw_or1 (pt_cmpR op_ne (pe_callB (call_isi_ K) (by rfl) B.isinstance_ (by decide +kernel) (pa_cons (pv 0) (pa_cons (pe_bltn (v := .ty "list") (by rfl) B.list_ (by decide +kernel) rfl) pa_nil))) (pe_callB (call_isi_ K) (by rfl) B.isinstance_ (by decide +kernel) (pa_cons (pv 1) (pa_cons (pe_bltn (v := .ty "list") (by rfl) B.list_ (by decide +kernel) rfl) pa_nil))) (nomark _)))))
      (pss_one (ps_ret pe_bl))
      pss_nil)
      (pss_cons (ps_if (pt_cmpR op_ne (pe_callB (call_len_ K) (by rfl) B.len_ (by decide +kernel) (pa_cons (pv 0) pa_nil)) (pe_callB (call_len_ K) (by rfl) B.len_ (by decide +kernel) (pa_cons (pv 1) pa_nil)) (nomark _))
      (pss_one (ps_ret pe_bl))
      pss_nil)
      (pss_one (ps_ret (pe_cmpR (op_eqD_ K hr.units) (pe_lc (own := [("_law_k", 2)]) (g := gName 2) (tt := _) rfl sc__law_alike.nd (pi_range1 (by rfl) B.range_ (pa_cons (pe_callB (call_len_ K) (by rfl) B.len_ (by decide +kernel) (pa_cons (pv 1) pa_nil)) pa_nil)) (blkOk_by (own := [("_law_k", 2)]) (N := ["_law_found", "_law_due", "_law_k"]) (sc := defScope s__law_alike) (by decide +kernel)) (fun _ _ _ _ _ => (pg_name (i := 2) sc__law_alike.nd rfl (.inl rfl))) (fun _ _ _ _ _ => (pts_one (pt_not (pt_val (pe_call G__law_alike.ok (hr.mono (by first | decide | exact Nat.le_refl _)) (by rfl) G__law_alike.g G__law_alike.kp G__law_alike.b .nil pass0 (pa_cons (pe_ix (ix_seq_ K) (pv 0) (pv 2) (fun _ _ => rfl)) (pa_cons (pe_ix (ix_seq_ K) (pv 1) (pv 2) (fun _ _ => rfl)) pa_nil))))))) (fun _ _ _ _ _ => (pv 2))) (pe_lst pa_nil) (nomark _))))))
      pss_nil)
      (pss_cons (ps_if (PW.pt (pw_or (pt_cmp (pc_isN (pv 1))) (pw_or1 (pt_val (pe_callB (call_isi_ K) (by rfl) B.isinstance_ (by decide +kernel) (pa_cons (pv 1) (pa_cons (pe_bltn (v := .ty "str") (by rfl) B.str_ (by decide +kernel) rfl) pa_nil)))))))
      (pss_one (ps_ret (pe_and (pe_cmpR op_eq (pv 0) (pv 1) (nomark _)) (pe_one (pe_cmpR op_eq (pe_callB (call_isi_ K) (by rfl) B.isinstance_ (by decide +kernel) (pa_cons (pv 0) (pa_cons (pe_bltn (v := .ty "str") (by rfl) B.str_ (by decide +kernel) rfl) pa_nil))) (pe_callB (call_isi_ K) (by rfl) B.isinstance_ (by decide +kernel) (pa_cons (pv 1) (pa_cons (pe_bltn (v := .ty "str") (by rfl) B.str_ (by decide +kernel) rfl) pa_nil))) (nomark _))))))
      pss_nil)
      (pss_one (ps_ret (pe_and (pe_callB (call_isi_ K) (by rfl) B.isinstance_ (by decide +kernel) (pa_cons (pv 0) (pa_cons (pe_bltn (v := .ty "int") (by rfl) B.int_ (by decide +kernel) rfl) pa_nil))) (pe_and (pe_cmpR op_eq (pe_callB (call_isi_ K) (by rfl) B.isinstance_ (by decide +kernel) (pa_cons (pv 0) (pa_cons (pe_bltn (v := .ty "bool") (by rfl) B.bool_ (by decide +kernel) rfl) pa_nil))) (pe_callB (call_isi_ K) (by rfl) B.isinstance_ (by decide +kernel) (pa_cons (pv 1) (pa_cons (pe_bltn (v := .ty "bool") (by rfl) B.bool_ (by decide +kernel) rfl) pa_nil))) (nomark _)) (pe_one (pe_cmpR op_eq (pv 0) (pv 1) (nomark _))))))))), ?_⟩
      -- isinstance(due, (tuple, list))
      refine ⟨_, rfl, (by show 2 ≤ sizeLine; decide), fun p np => ?_⟩
      have s1 := same_new np (.tup [.ty "tuple", .ty "list"])
      have x1 := Dp.same s1 hx
      have y1 := Dp.same s1 hy
      have two : ([V.ty "tuple", V.ty "list"] : List V).length ≤ sizeLine := by show 2 ≤ sizeLine; decide
      refine ⟨_, p, _, _, _, _, rfl, upd_same, .cons (.ty _) (.cons (.ty _) .nil), Dp.ty y1, kaTL d, _, rfl, ?_⟩
      have flat : isTL d = false → (d = .none ∨ (∃ b, d = .bool b) ∨ (∃ i, d = .int i) ∨ ∃ z, d = .str z) := by
        intro h
        cases d with
        | none => exact .inl rfl
        | bool b => exact .inr (.inl ⟨b, rfl⟩)
        | int i => exact .inr (.inr (.inl ⟨i, rfl⟩))
        | str z => exact .inr (.inr (.inr ⟨z, rfl⟩))
        | list _ => cases h
        | tuple _ => cases h
        | dict _ => cases hy
      cases hd0 : isTL d with
      | true =>
        refine iteT ?_
        -- not isinstance(found, (tuple, list)) or isinstance(found, list) != isinstance(due, list)
        refine ⟨_, rfl, two, fun p2 np2 => ?_⟩
        have s2 := same_new np2 (.tup [.ty "tuple", .ty "list"])
        refine ⟨_, p2, _, _, _, _, rfl, upd_same, .cons (.ty _) (.cons (.ty _) .nil), Dp.ty (Dp.same s2 x1), kaTL d, _, rfl, ?_⟩
        have x2 := Dp.same s2 x1
        have y2 := Dp.same s2 y1
        have s3 := s1.trans s2
        generalize upd (upd H p (.tup [.ty "tuple", .ty "list"])) p2 (.tup [.ty "tuple", .ty "list"]) = H2 at *
        rw [hd0]
        refine iteF ?_
        refine ⟨_, rfl, _, _, _, _, _, rfl, .ty _, Dp.ty x2, kaL d, _, rfl, _, _, _, _, _, rfl, .ty _, Dp.ty y2, kaL d, rfl, _, rfl, ?_⟩
        refine iteNS rfl ?_
        obtain ⟨a, xs, ds, rfl, ha, da⟩ := Dp.seq x2 hd0
        obtain ⟨b, ys, es, rfl, hb, db⟩ := Dp.seq y2 hd0
        have ee : es = ds := by
          rcases ha with ⟨e1, _⟩ | ⟨e1, _⟩ <;> rcases hb with ⟨e2, _⟩ | ⟨e2, _⟩
          · exact PyData.list.inj (e2.symm.trans e1)
          · cases e2.symm.trans e1
          · cases e2.symm.trans e1
          · exact PyData.tuple.inj (e2.symm.trans e1)
        subst ee
        have qa : SqL K H2 a xs ∨ SqT K H2 a xs := ha.elim (fun z => .inl z.2) (fun z => .inr z.2)
        have qb : SqL K H2 b ys ∨ SqT K H2 b ys := hb.elim (fun z => .inl z.2) (fun z => .inr z.2)
        have lx : xs.length = es.length := DpAll.length da
        have ly : ys.length = es.length := DpAll.length db
        obtain ⟨n', rfl, hsz, hok⟩ : ∃ n', n = n' + 1 ∧ es.length ≤ 1000000 ∧ ∀ d ∈ es, OkD n' d := by
          cases n with
          | zero => rcases ha with ⟨rfl, _⟩ | ⟨rfl, _⟩ <;> exact absurd hd id
          | succ n' => rcases ha with ⟨rfl, _⟩ | ⟨rfl, _⟩ <;> exact ⟨n', rfl, hd.1, hd.2⟩
        have La : ∀ H3, Same H2 H3 → LenV K (.ref a) H3 es.length := fun H3 s => qa.elim (fun z => .inl ⟨_, s.seq z, lx.symm⟩) (fun z => .inr ⟨_, Same.seqT s z, lx.symm⟩)
        have Lb : ∀ H3, Same H2 H3 → LenV K (.ref b) H3 es.length := fun H3 s => qb.elim (fun z => .inl ⟨_, s.seq z, ly.symm⟩) (fun z => .inr ⟨_, Same.seqT s z, ly.symm⟩)
        -- len(found) != len(due)
        refine ⟨_, rfl, _, es.length, rfl, La _ (Same.refl _), _, rfl, _, es.length, rfl, Lb _ (Same.refl _), rfl, _, rfl, iteNS rfl ?_⟩
        -- the comprehension
        refine ⟨_, rfl, _, es.length, rfl, Lb _ (Same.refl _), (es.length : Int), rfl, by omega, by omega, fun D nD => ?_⟩
        refine lc_range (lo := 0) (n := es.length) (fun i H' => Same H2 H' ∧ H' D = some (.lst [])) ⟨same_new nD _, upd_same⟩ ?_ ?_
        · rintro i H3 hi ⟨s4, eD⟩
          have hdi : es[i]? = some es[i] := List.getElem?_eq_getElem hi
          obtain ⟨u, hu, du⟩ := DpAll.get da hdi
          obtain ⟨v, hv, dv⟩ := DpAll.get db hdi
          have ei : (0 : Int) + (i : Int) = ((i : Nat) : Int) := Int.zero_add _
          refine ⟨rfl, _, rfl, _, rfl, ?_⟩
          have g1 : rIx K (.ref a) (.int (0 + (i : Int))) H3 = fun Q => rIx K (.ref a) (.int (0 + (i : Int))) H3 Q := rfl
          have ra : ∀ Q : VK, Q u H3 → rIx K (.ref a) (.int (0 + (i : Int))) H3 Q := fun Q q => qa.elim (fun z => .inl ⟨a, xs, _, u, rfl, rfl, s4.seq z, at_of ei hu, q⟩) (fun z => .inr (.inl ⟨a, xs, _, u, rfl, rfl, Same.seqT s4 z, at_of ei hu, q⟩))
          have rb : ∀ Q : VK, Q v H3 → rIx K (.ref b) (.int (0 + (i : Int))) H3 Q := fun Q q => qb.elim (fun z => .inl ⟨b, ys, _, v, rfl, rfl, s4.seq z, at_of ei hv, q⟩) (fun z => .inr (.inl ⟨b, ys, _, v, rfl, rfl, Same.seqT s4 z, at_of ei hv, q⟩))
          refine ra _ ?_
          refine ⟨_, rfl, _, rfl, rb _ ?_⟩
          refine ⟨u, v, es[i], n', rfl, rfl, Dp.same s4 du, Dp.same s4 dv, hok _ (List.getElem_mem hi), fun H4 s5 => ?_⟩
          refine ⟨_, rfl, iteF ?_⟩
          exact ⟨s4.trans s5, s5 _ _ eD⟩
        · rintro H3 ⟨s4, eD⟩
          refine ⟨(by show 0 ≤ sizeLine; decide), fun l nl => ?_⟩
          have s5 := same_new nl (.lst [])
          refine ⟨.list [], .list [], .lst (.inl (.inl (s5 _ _ eD))) .nil, .lst (.inl (.inl upd_same)) .nil, by decide +kernel, by decide +kernel, ?_⟩
          have e : PyData.eqv (.list []) (.list []) = true := by decide +kernel
          rw [e]
          exact q _ (s3.trans (s4.trans s5))
      | false =>
        refine iteF ?_
        have cS : ∀ H3 (Q : VK), Same H H3 → Q (.bl true) H3 → (tOp rEq (tCB (rIsi K) (tCons (tVar 0) (tCons (tC (V.ty "str")) tNil))) (tCB (rIsi K) (tCons (tVar 1) (tCons (tC (V.ty "str")) tNil)))) [some x, some y, none] H3 Q := fun H3 Q s q => by
          refine ⟨_, rfl, _, _, _, _, _, rfl, .ty _, Dp.ty (Dp.same s hx), kS d, _, rfl, _, _, _, _, _, rfl, .ty _, Dp.ty (Dp.same s hy), kS d, rfl, ?_⟩
          rw [decide_eq_true rfl]
          exact q
        have cB : ∀ H3 (Q : VK), Same H H3 → Q (.bl true) H3 → (tOp rEq (tCB (rIsi K) (tCons (tVar 0) (tCons (tC (V.ty "bool")) tNil))) (tCB (rIsi K) (tCons (tVar 1) (tCons (tC (V.ty "bool")) tNil)))) [some x, some y, none] H3 Q := fun H3 Q s q => by
          refine ⟨_, rfl, _, _, _, _, _, rfl, .ty _, Dp.ty (Dp.same s hx), kB d, _, rfl, _, _, _, _, _, rfl, .ty _, Dp.ty (Dp.same s hy), kB d, rfl, ?_⟩
          rw [decide_eq_true rfl]
          exact q
        have exy : x = y ∧ scal x y = true := by
          rcases flat hd0 with rfl | ⟨b, rfl⟩ | ⟨i, rfl⟩ | ⟨z, rfl⟩ <;> cases hx <;> cases hy <;> exact ⟨rfl, rfl⟩
        obtain ⟨rfl, hsc⟩ := exy
        -- due is None or isinstance(due, str)
        refine ⟨_, rfl, _, rfl, ?_⟩
        have fin : ∀ b : Bool, (b = true → isSD d = true ∨ x = .non) → (b = false → isID d = true) → (fun b H1 => if b = true then tRet (tAndV (tOp rEq (tVar 0) (tVar 1)) (tOp rEq (tCB (rIsi K) (tCons (tVar 0) (tCons (tC (V.ty "str")) tNil))) (tCB (rIsi K) (tCons (tVar 1) (tCons (tC (V.ty "str")) tNil)))))
            { nx := fun _ _ => False, rt := Q } [some x, some x, none] H1 else tRet (tAndV (tCB (rIsi K) (tCons (tVar 0) (tCons (tC (V.ty "int")) tNil))) (tAndV (tOp rEq (tCB (rIsi K) (tCons (tVar 0) (tCons (tC (V.ty "bool")) tNil))) (tCB (rIsi K) (tCons (tVar 1) (tCons (tC (V.ty "bool")) tNil)))) (tOp rEq (tVar 0) (tVar 1)))) { nx := fun _ _ => False, rt := Q } [some x, some x, none] H1) b (upd H p (.tup [.ty "tuple", .ty "list"])) := by
          intro b h1 h2
          cases b with
          | true =>
            refine iteT ?_
            refine ⟨_, rfl, _, rfl, hsc, _, rfl, iteDT rfl ?_⟩
            exact cS _ _ s1 (q _ s1)
          | false =>
            refine iteF ?_
            refine ⟨_, rfl, _, _, _, _, _, rfl, .ty _, Dp.ty x1, kI d, _, rfl, ?_⟩
            rw [h2 rfl]
            refine iteT (cB _ _ s1 ⟨_, rfl, iteT ⟨_, rfl, _, rfl, hsc, ?_⟩⟩)
            rw [decide_eq_true rfl]
            exact q _ s1
        by_cases c : x = .non
        · exact iteDT c (fin true (fun _ => .inr c) (fun z => nomatch z))
        · refine iteDF c ?_
          refine ⟨_, rfl, _, _, _, _, _, rfl, .ty _, Dp.ty y1, kS d, _, rfl, fin _ (fun z => .inl z) (fun z => ?_)⟩
          rcases flat hd0 with rfl | ⟨b, rfl⟩ | ⟨i, rfl⟩ | ⟨w, rfl⟩
          · cases hx
            exact absurd rfl c
          · rfl
          · rfl
          · cases z
  exact ⟨f, fd, key 5, gF, F.kp, bF⟩
end

abbrev s__law_frac : Stmt := topS 32
theorem sc__law_frac : FnScope ["_law_number", "_law_parts", "_law_one", "_law_two"] ["_law_number", "_law_parts"] (defScope s__law_frac) := ⟨rfl, rfl, rfl, by decide +kernel, rfl, by decide +kernel, by decide +kernel⟩
def sp__law_frac (K : PySem.W.Frag) : Sp := fun vs H Q _ => ∃ (n d : Int) (b : Nat), vs = [.int n, .int d] ∧ 0 < d ∧ d.natAbs < 2 ^ b ∧ b ≤ 8900 ∧
  ∀ (r : Addr) (H' : Hp), Same H H' → H r = none → RatAt K H' r (Rat.divInt n d) → Q (.ref r) H'
theorem gcd_step (a b : Nat) : Nat.gcd b (a % b) = Nat.gcd a b := by
  rw [Nat.gcd_comm b (a % b), ← Nat.gcd_rec, Nat.gcd_comm]
section
variable {P : Program} {w : World} {K : PySem.W.Frag} {mg : Str → Option Value} {base : Heap}
theorem ok__law_frac (A : At K mg "_law_frac" s__law_frac ["_law_number", "_law_parts"]) (B : Bn mg) : CalE P w K mg base "_law_frac" ["_law_number", "_law_parts"] 1 (sp__law_frac K) := by
  obtain ⟨f, fd, F, gF, bF⟩ := A
  refine ⟨f, fd, F.ok sc__law_frac (fun vs H Q E h => ?_) (fun cdv A outer s H vs Q E hr h => ?_), gF, F.kp, bF⟩
  · repeat (first | (obtain ⟨rfl, _⟩ := h; rfl) | (obtain ⟨_, h⟩ := h))
  · obtain ⟨n, d, b, rfl, d0, hb, b9, k⟩ := h
    refine ⟨_, (pss_cons (ps_par (i := 2) (j := 3) (by rfl) sc__law_frac.nd rfl rfl (by decide) rfl rfl (pa_cons (pe_callB call_abs (by rfl) B.abs_ (by decide +kernel) (pa_cons (pv 0) pa_nil)) (pa_cons (pe_callB call_abs (by rfl) B.abs_ (by decide +kernel) (pa_cons (pv 1) pa_nil)) pa_nil)) (by rfl))
      (pss_cons (ps_while PassesOwn.never (pt_cmpR op_gt (pv 3) pe_int (nomark _))
      (pss_one (ps_par (i := 2) (j := 3) (by rfl) sc__law_frac.nd rfl rfl (by decide) rfl rfl (pa_cons (pv 3) (pa_cons (pe_op op_mod (pe_callTy call_int1 (by rfl) B.int_ (by decide +kernel) (pa_cons (pv 2) pa_nil)) (pv 3)) pa_nil)) (by rfl))))
      (pss_cons (ps_if (pt_cmpR op_lt (pv 1) pe_int (nomark _))
      (pss_one (ps_set (i := 2) sc__law_frac.nd rfl (.inl rfl) (pe_un un_neg (pv 2))))
      pss_nil)
      (pss_one (ps_ret (pe_tup (pa_cons (pe_op op_fdivW (pv 0) (pv 2)) (pa_cons (pe_op op_fdivW (pv 1) (pv 2)) pa_nil)))))))), ?_⟩
    -- one, two = abs(number), abs(parts)
    refine ⟨_, rfl, _, rfl, _, rfl, _, rfl, _, _, rfl, ?_⟩
    refine ⟨fun m σ H2 => ∃ (x y : Nat), m = y ∧ σ = [some (.int n), some (.int d), some (.int x), some (.int y)] ∧ Nat.gcd x y = Int.gcd n d ∧ H2 = H, ⟨d.natAbs, n.natAbs, d.natAbs, rfl, ?_, rfl, rfl⟩, ?_⟩
    · have e1 : (if n < 0 then -n else n) = (n.natAbs : Int) := by split <;> omega
      have e2 : (if d < 0 then -d else d) = (d.natAbs : Int) := by split <;> omega
      show [_, _, some (V.int (if n < 0 then -n else n)), some (V.int (if d < 0 then -d else d))] = _
      rw [e1, e2]
    rintro m σ H2 ⟨x, y, rfl, rfl, hg, rfl⟩
    refine ⟨_, rfl, _, _, rfl, rfl, _, rfl, ?_⟩
    refine ite2 (fun c => ?_) (fun c => ?_)
    · have c' : 0 < m := Int.ofNat_lt.mp (of_decide_eq_true c)
      refine ⟨fun σ' H' => ∃ (x y : Nat), y < m ∧ σ' = [some (.int n), some (.int d), some (.int x), some (.int y)] ∧ Nat.gcd x y = Int.gcd n d ∧ H' = H2, fun σ' H' ⟨x, y, l, e1, e2, e3⟩ => ⟨y, l, x, y, rfl, e1, e2, e3⟩, ?_⟩
      refine ⟨_, rfl, _, rfl, .inl ⟨_, rfl, _, rfl, _, _, rfl, rfl, (by omega : (0 : Int) < (m : Int)), _, _, rfl, ?_⟩⟩
      exact ⟨m, x % m, Nat.mod_lt _ c', rfl, by rw [gcd_step, hg], rfl⟩
    · have c' : m = 0 := by
        have : ¬ ((0 : Int) < (m : Int)) := fun z => c (decide_eq_true z)
        omega
      subst c'
      rw [Nat.gcd_zero_right] at hg
      subst hg
      -- if parts < 0
      refine ⟨_, rfl, _, _, rfl, rfl, _, rfl, iteDF (by omega) ?_⟩
      have hg0 : (0 : Int) < (Int.gcd n d : Int) := Int.ofNat_lt.mpr (Int.gcd_pos_of_ne_zero_right n (by omega))
      have hgb : ((Int.gcd n d : Int)).natAbs < 2 ^ (b + 1) := by
        rw [Int.natAbs_natCast]
        refine Nat.lt_of_le_of_lt (Nat.le_of_dvd (by omega) (Int.gcd_dvd_natAbs_right n d)) (Nat.lt_of_lt_of_le hb (Nat.pow_le_pow_right (by decide) (by omega)))
      have hw : ∀ z, CDivW z (Int.gcd n d : Int) := fun z => wide_div hg0 hgb (by omega) (by omega)
      refine ⟨_, rfl, _, rfl, _, _, rfl, rfl, hw _, _, rfl, _, rfl, _, _, rfl, rfl, hw _, (by show 2 ≤ sizeLine; decide), fun p np => ?_⟩
      refine k p _ (same_new np _) np ?_
      unfold RatAt
      rw [frac_num d0, frac_den d0]
      exact .inl (.inl upd_same)
end

abbrev s__law_double : Stmt := topS 34
theorem sc__law_double : FnScope ["_law_times", "_law_found", "_law_again"] ["_law_times"] (defScope s__law_double) := ⟨rfl, rfl, rfl, by decide +kernel, rfl, by decide +kernel, by decide +kernel⟩
def sp__law_double (K : PySem.W.Frag) : Sp := fun vs H Q _ => ∃ t : Nat, vs = [.int (t : Nat)] ∧ t ≤ 1000 ∧ Q (.int ((2 ^ t : Nat) : Int)) H
section
variable {P : Program} {w : World} {K : PySem.W.Frag} {mg : Str → Option Value} {base : Heap}
theorem ok__law_double (A : At K mg "_law_double" s__law_double ["_law_times"]) (B : Bn mg) : CalE P w K mg base "_law_double" ["_law_times"] 1 (sp__law_double K) := by
  obtain ⟨f, fd, F, gF, bF⟩ := A
  refine ⟨f, fd, F.ok sc__law_double (fun vs H Q E h => ?_) (fun cdv A outer s H vs Q E hr h => ?_), gF, F.kp, bF⟩
  · repeat (first | (obtain ⟨rfl, _⟩ := h; rfl) | (obtain ⟨_, h⟩ := h))
  · obtain ⟨t, rfl, ht, k⟩ := h
    refine ⟨_, (pss_cons (ps_set (i := 1) sc__law_double.nd rfl (.inl rfl) pe_int)
      (pss_cons (ps_for PassesOwn.never rfl (pi_range1 (by rfl) B.range_ (pa_cons (pv 0) pa_nil)) (pg_name (i := 2) sc__law_double.nd rfl (.inl rfl))
      (pss_one (ps_set (i := 1) sc__law_double.nd rfl (.inl rfl) (pe_op op_mul (pv 1) pe_int))))
      (pss_one (ps_ret (pv 1))))), ?_⟩
    refine ⟨_, rfl, _, rfl, by omega, by omega, for_range (lo := 0) (n := t) (fun i σ H2 => ∃ v, σ = [some (.int (t : Nat)), some (.int ((2 ^ i : Nat) : Int)), v] ∧ H2 = H) ⟨_, rfl, rfl⟩ ?_ ?_⟩
    · rintro i σ H2 hi ⟨v, rfl, rfl⟩
      refine ⟨_, rfl, _, _, rfl, rfl, .inr (by omega), ?_⟩
      have e : ((2 ^ i : Nat) : Int) * 2 = ((2 ^ (i + 1) : Nat) : Int) := by
        rw [Nat.pow_succ, Int.natCast_mul]
        rfl
      refine ⟨some (.int (0 + (i : Nat))), ?_, rfl⟩
      show [_, some (V.int (((2 ^ i : Nat) : Int) * 2)), _] = _
      rw [e]
    · rintro σ H2 ⟨v, rfl, rfl⟩
      exact ⟨_, rfl, k⟩
end

abbrev s__law_word : Stmt := topS 35
theorem sc__law_word : FnScope ["_law_step", "_law_number", "_law_many", "_law_rest", "_law_found", "_law_short", "_law_spot"] ["_law_step", "_law_number"] (defScope s__law_word) := ⟨rfl, rfl, rfl, by decide +kernel, rfl, by decide +kernel, by decide +kernel⟩
def sp__law_word (K : PySem.W.Frag) : Sp := fun vs H Q _ => ∃ m n : Nat, vs = [.int (m : Nat), .int (n : Nat)] ∧ 1 ≤ m ∧ m ≤ 64 ∧ n / m ≤ 5000 ∧ Q (.str (tx (wordB m n))) H
section
variable {P : Program} {w : World} {K : PySem.W.Frag} {mg : Str → Option Value} {base : Heap}
theorem ok__law_word (A : At K mg "_law_word" s__law_word ["_law_step", "_law_number"]) (B : Bn mg) (H__law_double : CalE P w K mg base "_law_double" ["_law_times"] 1 (sp__law_double K)) : CalE P w K mg base "_law_word" ["_law_step", "_law_number"] 2 (sp__law_word K) := by
  obtain ⟨f, fd, F, gF, bF⟩ := A
  obtain ⟨f__law_double, fd__law_double, G__law_double⟩ := H__law_double
  refine ⟨f, fd, F.ok sc__law_word (fun vs H Q E h => ?_) (fun cdv A outer s H vs Q E hr h => ?_), gF, F.kp, bF⟩
  · repeat (first | (obtain ⟨rfl, _⟩ := h; rfl) | (obtain ⟨_, h⟩ := h))
  · obtain ⟨m, n, rfl, hm, h64, hn, k⟩ := h
    have h6 := wide_64 h64
    have hm0 : (0 : Int) < (m : Int) := by omega
    have hmb : ((m : Int)).natAbs < 2 ^ 7 := by omega
    have ed : (n : Int) / (m : Int) = ((n / m : Nat) : Int) := (Int.natCast_ediv n m).symm
    have em : (n : Int) % (m : Int) = ((n % m : Nat) : Int) := (Int.natCast_emod n m).symm
    have e1 : repS ("1" : Str) ((n : Int) / (m : Int)).toNat ++ ("0" : Str) = tx (List.replicate (n / m) true ++ [false]) := by rw [ed, Int.toNat_natCast, tx_one, tx_zero, tx_rep, tx_app]
    have l1 : ("1" : Str).length = 1 := by decide +kernel
    have ht : ((n : Int) / (m : Int)).toNat = n / m := by rw [ed, Int.toNat_natCast]
    refine ⟨_, (pss_cons (ps_par (i := 2) (j := 3) (by rfl) sc__law_word.nd rfl rfl (by decide) rfl rfl (pa_cons pe_int (pa_cons (pe_op op_mod (pe_callTy call_int1 (by rfl) B.int_ (by decide +kernel) (pa_cons (pv 1) pa_nil)) (pv 0)) pa_nil)) (by rfl))
      (pss_cons (ps_set (i := 4) sc__law_word.nd rfl (.inl rfl) (pe_op op_add_str (pe_op op_mul_str pe_str (pe_op op_fdivW (pv 1) (pv 0))) pe_str))
      (pss_cons (ps_while PassesOwn.never (pt_cmpR op_lt (pe_call G__law_double.ok (hr.mono (by first | decide | exact Nat.le_refl _)) (by rfl) G__law_double.g G__law_double.kp G__law_double.b .nil pass0 (pa_cons (pv 2) pa_nil)) (pv 0) (nomark _))
      (pss_one (ps_set (i := 2) sc__law_word.nd rfl (.inl rfl) (pe_op op_add (pv 2) pe_int))))
      (pss_cons (ps_set (i := 5) sc__law_word.nd rfl (.inl rfl) (pe_op op_sub (pe_call G__law_double.ok (hr.mono (by first | decide | exact Nat.le_refl _)) (by rfl) G__law_double.g G__law_double.kp G__law_double.b .nil pass0 (pa_cons (pv 2) pa_nil)) (pv 0)))
      (pss_cons (ps_if (pt_cmpR op_ge (pv 3) (pv 5) (nomark _))
      (pss_one (ps_set (i := 3) sc__law_word.nd rfl (.inl rfl) (pe_op op_add (pv 3) (pv 5))))
      (pss_one (ps_set (i := 2) sc__law_word.nd rfl (.inl rfl) (pe_op op_sub (pv 2) pe_int))))
      (pss_cons (ps_for PassesOwn.never rfl (pi_range1 (by rfl) B.range_ (pa_cons (pv 2) pa_nil)) (pg_name (i := 6) sc__law_word.nd rfl (.inl rfl))
      (pss_one (ps_set (i := 4) sc__law_word.nd rfl (.inl rfl) (pe_op op_add_str (pv 4) (pe_ifExp (pt_cmpR op_eq (pe_op op_mod (pe_callTy call_int1 (by rfl) B.int_ (by decide +kernel) (pa_cons (pe_op op_fdivW (pv 3) (pe_call G__law_double.ok (hr.mono (by first | decide | exact Nat.le_refl _)) (by rfl) G__law_double.g G__law_double.kp G__law_double.b .nil pass0 (pa_cons (pe_op op_sub (pe_op op_sub (pv 2) pe_int) (pv 6)) pa_nil))) pa_nil)) pe_int) pe_int (nomark _)) pe_str pe_str)))))
      (pss_one (ps_ret (pv 4))))))))), ?_⟩
    -- many, rest = 0, int(number) % step
    refine ⟨_, rfl, .inl ⟨_, rfl, _, rfl, _, _, rfl, rfl, hm0, _, _, rfl, ?_⟩⟩
    -- found = "1" * (number // step) + "0"
    refine ⟨_, rfl, _, rfl, _, _, rfl, rfl, wide_div hm0 hmb (by decide) (by decide), _, _, rfl, rfl, by omega, by omega, by rw [l1, ht]; omega, _, _, rfl, rfl, ?_, ?_⟩
    · rw [ed, Int.toNat_natCast, tx_one, tx_rep, tx_zero, tx_len, tx_len, List.length_replicate]
      have := sizeLine_eq
      show n / m + 1 ≤ sizeLine
      omega
    rw [e1]
    -- while double(many) < step
    refine ⟨fun x σ H2 => ∃ c : Nat, x = 6 - c ∧ σ = [some (.int (m : Nat)), some (.int (n : Nat)), some (.int (c : Nat)), some (.int ((n % m : Nat) : Int)), some (.str (tx (List.replicate (n / m) true ++ [false]))), none, none] ∧ (∀ d, d < c → 2 ^ d < m) ∧ c ≤ 6 ∧ H2 = H, ⟨6, 0, rfl, ?_, fun d h => by omega, by decide, rfl⟩, ?_⟩
    · show [_, _, _, some (V.int ((n : Int) % (m : Int))), _, _, _] = _
      rw [em]
      rfl
    rintro x σ H2 ⟨c, rfl, rfl, hc, c6, rfl⟩
    refine ⟨_, rfl, c, rfl, by omega, _, rfl, _, _, rfl, rfl, _, rfl, ite2 (fun z => ?_) (fun z => ?_)⟩
    · have z' : 2 ^ c < m := Int.ofNat_lt.mp (of_decide_eq_true z)
      have c5 : c < 6 := by
        refine Nat.not_le.mp fun y => ?_
        have : c = 6 := by omega
        subst this
        omega
      refine ⟨fun σ' H' => ∃ c' : Nat, c' = c + 1 ∧ σ' = [some (.int (m : Nat)), some (.int (n : Nat)), some (.int (c' : Nat)), some (.int ((n % m : Nat) : Int)), some (.str (tx (List.replicate (n / m) true ++ [false]))), none, none] ∧ H' = H2, fun σ' H' ⟨c', e0, e1, e2⟩ => ⟨6 - c', by omega, c', rfl, e1, fun d hd => ?_, by omega, e2⟩, ?_⟩
      · by_cases hd' : d = c
        · exact hd' ▸ z'
        · exact hc d (by omega)
      exact ⟨_, rfl, _, _, rfl, rfl, c + 1, rfl, rfl, rfl⟩
    · have z' : m ≤ 2 ^ c := Nat.not_lt.mp fun y => z (decide_eq_true (Int.ofNat_lt.mpr y))
      have ew := wide_eq z' hc
      have hs : ((2 ^ c : Nat) : Int) - (m : Int) = ((shortN m : Nat) : Int) := by
        unfold shortN
        rw [ew]
        omega
      -- short = double(many) - step
      refine ⟨_, rfl, c, rfl, by omega, _, rfl, _, _, rfl, rfl, ?_⟩
      -- if rest >= short
      refine ⟨_, rfl, _, rfl, _, _, rfl, rfl, _, rfl, ite2 (fun y => ?_) (fun y => ?_)⟩
      · have y' : ¬ n % m < shortN m := by
          have := of_decide_eq_true y
          rw [hs] at this
          omega
        refine ⟨_, rfl, _, rfl, _, _, rfl, rfl, ?_⟩

        -- the figures
        refine ⟨_, rfl, _, rfl, by omega, by omega, ?_⟩
        rw [show ((c : Int)).toNat = wideN m by omega]
        refine for_range (lo := 0) (n := (wideN m)) (fun i σ H3 => ∃ v, σ = [some (.int (m : Nat)), some (.int (n : Nat)), some (.int ((wideN m) : Nat)), some (.int ((n % m + shortN m) : Nat)), some (.str (tx (List.replicate (n / m) true ++ [false] ++ (fig (n % m + shortN m) (wideN m)).take i))), some (.int (shortN m : Nat)), v] ∧ H3 = H2) ⟨none, ?_, rfl⟩ ?_ ?_
        · show [some (V.int (m : Int)), some (V.int (n : Int)), some (V.int (c : Int)), some (V.int (((n % m : Nat) : Int) + (((2 ^ c : Nat) : Int) - (m : Int)))), some (V.str (tx (List.replicate (n / m) true ++ [false]))), some (V.int (((2 ^ c : Nat) : Int) - (m : Int))), none] = _
          rw [hs, ew, ← Int.natCast_add, List.take_zero, List.append_nil]
        · rintro i σ H3 hi ⟨v, rfl, rfl⟩
          refine ⟨_, rfl, _, rfl, _, rfl, _, _, rfl, rfl, _, rfl, _, _, rfl, rfl, (wideN m) - 1 - i, ?_, by omega, ?_⟩
          · show [V.int ((((wideN m) : Nat) : Int) - 1 - (0 + (i : Int)))] = _
            rw [show ((((wideN m) : Nat) : Int) - 1 - (0 + (i : Int))) = (((wideN m) - 1 - i : Nat) : Int) by omega]
          have hp : (0 : Int) < ((2 ^ ((wideN m) - 1 - i) : Nat) : Int) := Int.ofNat_lt.mpr (Nat.pow_pos (by decide))
          have hb : (((2 ^ ((wideN m) - 1 - i) : Nat) : Int)).natAbs < 2 ^ 7 := by
            rw [Int.natAbs_natCast]
            exact Nat.pow_lt_pow_right (by decide) (by omega)
          refine ⟨_, _, rfl, rfl, wide_div hp hb (by decide) (by decide), .inl ⟨_, rfl, _, _, rfl, rfl, (by decide : (0 : Int) < 2), rfl, _, rfl, ?_⟩⟩
          have ft := fig_take (n % m + shortN m) (wideN m) i hi
          have ll : (List.replicate (n / m) true ++ [false] ++ (fig (n % m + shortN m) (wideN m)).take i).length ≤ n / m + 1 + (wideN m) := by
            simp
            omega
          have go : ∀ b : Bool, b = ((n % m + shortN m) / 2 ^ ((wideN m) - 1 - i) % 2 == 1) → tx (List.replicate (n / m) true ++ [false] ++ (fig (n % m + shortN m) (wideN m)).take i) ++ tx [b] = tx (List.replicate (n / m) true ++ [false] ++ (fig (n % m + shortN m) (wideN m)).take (i + 1)) := by
            rintro b rfl
            rw [tx_app, ft, List.append_assoc, List.append_assoc]
          have bi := bit_int (n % m + shortN m) ((wideN m) - 1 - i)
          refine ite2 (fun z => ?_) (fun z => ?_)
          · have z' := bi.mp (V.int.inj (of_decide_eq_true z))
            have e := go true z'.symm
            refine ⟨_, _, rfl, rfl, ?_, ?_⟩
            · rw [tx_one, tx_len, tx_len]
              show _ + 1 ≤ sizeLine
              have := sizeLine_eq
              omega
            · refine ⟨some (.int (0 + (i : Int))), ?_, rfl⟩
              show [_, _, _, _, some (V.str (tx (List.replicate (n / m) true ++ [false] ++ (fig (n % m + shortN m) (wideN m)).take i) ++ ("1" : Str))), _, _] = _
              rw [tx_one, e]
          · have z' : ((n % m + shortN m) / 2 ^ ((wideN m) - 1 - i) % 2 == 1) = false := Bool.eq_false_iff.mpr fun y => z (decide_eq_true (congrArg V.int (bi.mpr y)))
            have e := go false z'.symm
            refine ⟨_, _, rfl, rfl, ?_, ?_⟩
            · rw [tx_zero, tx_len, tx_len]
              show _ + 1 ≤ sizeLine
              have := sizeLine_eq
              omega
            · refine ⟨some (.int (0 + (i : Int))), ?_, rfl⟩
              show [_, _, _, _, some (V.str (tx (List.replicate (n / m) true ++ [false] ++ (fig (n % m + shortN m) (wideN m)).take i) ++ ("0" : Str))), _, _] = _
              rw [tx_zero, e]
        · rintro σ H3 ⟨v, rfl, rfl⟩
          refine ⟨_, rfl, ?_⟩
          rw [List.take_of_length_le (by rw [fig_len]; exact Nat.le_refl _), List.append_assoc]
          have ew : wordB m n = List.replicate (n / m) true ++ ([false] ++ fig (n % m + shortN m) (wideN m)) := by
            unfold wordB
            rw [show restB m (n % m) = fig (n % m + shortN m) (wideN m) from if_neg y']
            rfl
          rw [← ew]
          exact k
      · have y' : n % m < shortN m := by
          refine Nat.not_le.mp fun z2 => y (decide_eq_true ?_)
          show ((2 ^ c : Nat) : Int) - (m : Int) ≤ ((n % m : Nat) : Int)
          rw [hs]
          omega
        have c1 : 1 ≤ c := by
          refine Nat.not_lt.mp fun z2 => ?_
          have c0 : c = 0 := by omega
          have := short_zero (ew.trans c0) hm
          subst this
          rw [Nat.mod_one] at y'
          unfold shortN at y'
          rw [ew, c0] at y'
          omega
        refine ⟨_, rfl, _, _, rfl, rfl, ?_⟩

        -- the figures
        refine ⟨_, rfl, _, rfl, by omega, by omega, ?_⟩
        rw [show ((c : Int) - 1).toNat = wideN m - 1 by omega]
        refine for_range (lo := 0) (n := (wideN m - 1)) (fun i σ H3 => ∃ v, σ = [some (.int (m : Nat)), some (.int (n : Nat)), some (.int ((wideN m - 1) : Nat)), some (.int ((n % m) : Nat)), some (.str (tx (List.replicate (n / m) true ++ [false] ++ (fig (n % m) (wideN m - 1)).take i))), some (.int (shortN m : Nat)), v] ∧ H3 = H2) ⟨none, ?_, rfl⟩ ?_ ?_
        · show [some (V.int (m : Int)), some (V.int (n : Int)), some (V.int ((c : Int) - 1)), some (V.int ((n % m : Nat) : Int)), some (V.str (tx (List.replicate (n / m) true ++ [false]))), some (V.int (((2 ^ c : Nat) : Int) - (m : Int))), none] = _
          rw [hs, ew, show ((c : Int) - 1) = ((c - 1 : Nat) : Int) by omega, List.take_zero, List.append_nil]
        · rintro i σ H3 hi ⟨v, rfl, rfl⟩
          refine ⟨_, rfl, _, rfl, _, rfl, _, _, rfl, rfl, _, rfl, _, _, rfl, rfl, (wideN m - 1) - 1 - i, ?_, by omega, ?_⟩
          · show [V.int ((((wideN m - 1) : Nat) : Int) - 1 - (0 + (i : Int)))] = _
            rw [show ((((wideN m - 1) : Nat) : Int) - 1 - (0 + (i : Int))) = (((wideN m - 1) - 1 - i : Nat) : Int) by omega]
          have hp : (0 : Int) < ((2 ^ ((wideN m - 1) - 1 - i) : Nat) : Int) := Int.ofNat_lt.mpr (Nat.pow_pos (by decide))
          have hb : (((2 ^ ((wideN m - 1) - 1 - i) : Nat) : Int)).natAbs < 2 ^ 7 := by
            rw [Int.natAbs_natCast]
            exact Nat.pow_lt_pow_right (by decide) (by omega)
          refine ⟨_, _, rfl, rfl, wide_div hp hb (by decide) (by decide), .inl ⟨_, rfl, _, _, rfl, rfl, (by decide : (0 : Int) < 2), rfl, _, rfl, ?_⟩⟩
          have ft := fig_take (n % m) (wideN m - 1) i hi
          have ll : (List.replicate (n / m) true ++ [false] ++ (fig (n % m) (wideN m - 1)).take i).length ≤ n / m + 1 + (wideN m - 1) := by
            simp
            omega
          have go : ∀ b : Bool, b = ((n % m) / 2 ^ ((wideN m - 1) - 1 - i) % 2 == 1) → tx (List.replicate (n / m) true ++ [false] ++ (fig (n % m) (wideN m - 1)).take i) ++ tx [b] = tx (List.replicate (n / m) true ++ [false] ++ (fig (n % m) (wideN m - 1)).take (i + 1)) := by
            rintro b rfl
            rw [tx_app, ft, List.append_assoc, List.append_assoc]
          have bi := bit_int (n % m) ((wideN m - 1) - 1 - i)
          refine ite2 (fun z => ?_) (fun z => ?_)
          · have z' := bi.mp (V.int.inj (of_decide_eq_true z))
            have e := go true z'.symm
            refine ⟨_, _, rfl, rfl, ?_, ?_⟩
            · rw [tx_one, tx_len, tx_len]
              show _ + 1 ≤ sizeLine
              have := sizeLine_eq
              omega
            · refine ⟨some (.int (0 + (i : Int))), ?_, rfl⟩
              show [_, _, _, _, some (V.str (tx (List.replicate (n / m) true ++ [false] ++ (fig (n % m) (wideN m - 1)).take i) ++ ("1" : Str))), _, _] = _
              rw [tx_one, e]
          · have z' : ((n % m) / 2 ^ ((wideN m - 1) - 1 - i) % 2 == 1) = false := Bool.eq_false_iff.mpr fun y => z (decide_eq_true (congrArg V.int (bi.mpr y)))
            have e := go false z'.symm
            refine ⟨_, _, rfl, rfl, ?_, ?_⟩
            · rw [tx_zero, tx_len, tx_len]
              show _ + 1 ≤ sizeLine
              have := sizeLine_eq
              omega
            · refine ⟨some (.int (0 + (i : Int))), ?_, rfl⟩
              show [_, _, _, _, some (V.str (tx (List.replicate (n / m) true ++ [false] ++ (fig (n % m) (wideN m - 1)).take i) ++ ("0" : Str))), _, _] = _
              rw [tx_zero, e]
        · rintro σ H3 ⟨v, rfl, rfl⟩
          refine ⟨_, rfl, ?_⟩
          rw [List.take_of_length_le (by rw [fig_len]; exact Nat.le_refl _), List.append_assoc]
          have ew : wordB m n = List.replicate (n / m) true ++ ([false] ++ fig (n % m) (wideN m - 1)) := by
            unfold wordB
            rw [show restB m (n % m) = fig (n % m) (wideN m - 1) from if_pos y']
            rfl
          rw [← ew]
          exact k
end

abbrev s__law_mean : Stmt := topS 38
theorem sc__law_mean : FnScope ["_law_step", "_law_ratio_here", "_law_over", "_law_under", "_law_part", "_law_rest"] ["_law_step", "_law_ratio_here"] (defScope s__law_mean) := ⟨rfl, rfl, rfl, by decide +kernel, rfl, by decide +kernel, by decide +kernel⟩
def sp__law_mean (K : PySem.W.Frag) : Sp := fun vs H Q _ => ∃ (a : Addr) (m p q : Nat), vs = [.int (m : Nat), .ref a] ∧ SqT K H a [.int (p : Nat), .int (q : Nat)] ∧ IsRat p q ∧ 1 ≤ m ∧ m ≤ 64 ∧
  ∀ (r : Addr) (H' : Hp), Same H H' → H r = none → RatAt K H' r (meanR m (rat p q)) → Q (.ref r) H'
section
variable {P : Program} {w : World} {K : PySem.W.Frag} {mg : Str → Option Value} {base : Heap}
theorem ok__law_mean (A : At K mg "_law_mean" s__law_mean ["_law_step", "_law_ratio_here"]) (B : Bn mg) (H__law_word : CalE P w K mg base "_law_word" ["_law_step", "_law_number"] 2 (sp__law_word K)) (H__law_frac : CalE P w K mg base "_law_frac" ["_law_number", "_law_parts"] 1 (sp__law_frac K)) : CalE P w K mg base "_law_mean" ["_law_step", "_law_ratio_here"] 3 (sp__law_mean K) := by
  obtain ⟨f, fd, F, gF, bF⟩ := A
  obtain ⟨f__law_word, fd__law_word, G__law_word⟩ := H__law_word
  obtain ⟨f__law_frac, fd__law_frac, G__law_frac⟩ := H__law_frac
  refine ⟨f, fd, F.ok sc__law_mean (fun vs H Q E h => ?_) (fun cdv A outer s H vs Q E hr h => ?_), gF, F.kp, bF⟩
  · repeat (first | (obtain ⟨rfl, _⟩ := h; rfl) | (obtain ⟨_, h⟩ := h))
  · obtain ⟨a, m, p, q, rfl, hS, hr0, h1, h64, k⟩ := h
    have hq := hr0.q30
    have hp := hr0.p1
    have hpq := hr0.pq
    refine ⟨_, (pss_cons (ps_asg (pe_tup (pa_cons pe_int (pa_cons pe_int (pa_cons pe_int pa_nil)))) (pg_tup (by rfl) (pgs_cons (pg_name (i := 2) sc__law_mean.nd rfl (.inl rfl)) (pgs_cons (pg_name (i := 3) sc__law_mean.nd rfl (.inl rfl)) (pgs_cons (pg_name (i := 4) sc__law_mean.nd rfl (.inl rfl)) pgs_nil)))))
      (pss_cons (ps_for PassesOwn.never rfl (pi_range1 (by rfl) B.range_ (pa_cons (pv 0) pa_nil)) (pg_name (i := 5) sc__law_mean.nd rfl (.inl rfl))
      (pss_cons (ps_set (i := 2) sc__law_mean.nd rfl (.inl rfl) (pe_op op_add (pe_op op_mul (pv 2) (pe_ix (ix_tup_ K) (pv 1) pe_int (fun _ _ => rfl))) (pe_op op_mul (pe_op op_mul (pe_op op_sub (pe_ix (ix_tup_ K) (pv 1) pe_int (fun _ _ => rfl)) (pe_ix (ix_tup_ K) (pv 1) pe_int (fun _ _ => rfl))) (pv 4)) (pe_callB call_len_str_ (by rfl) B.len_ (by decide +kernel) (pa_cons (pe_call G__law_word.ok (hr.mono (by first | decide | exact Nat.le_refl _)) (by rfl) G__law_word.g G__law_word.kp G__law_word.b .nil pass0 (pa_cons (pv 0) (pa_cons (pv 5) pa_nil))) pa_nil)))))
      (pss_one (ps_par (i := 3) (j := 4) (by rfl) sc__law_mean.nd rfl rfl (by decide) rfl rfl (pa_cons (pe_op op_mul (pv 3) (pe_ix (ix_tup_ K) (pv 1) pe_int (fun _ _ => rfl))) (pa_cons (pe_op op_mul (pv 4) (pe_ix (ix_tup_ K) (pv 1) pe_int (fun _ _ => rfl))) pa_nil)) (by rfl)))))
      (pss_one (ps_ret (pe_call G__law_frac.ok (hr.mono (by first | decide | exact Nat.le_refl _)) (by rfl) G__law_frac.g G__law_frac.kp G__law_frac.b .nil pass0 (pa_cons (pe_op op_add (pv 2) (pv 4)) (pa_cons (pe_op op_sub (pv 3) (pv 4)) pa_nil))))))), ?_⟩
    refine ⟨(by show 3 ≤ sizeLine; decide), fun T nT => ?_⟩
    have s0 := same_new nT (.tup [.int 0, .int 1, .int 1])
    have hS := Same.seqT s0 hS
    refine ⟨T, _, rfl, .inl (.inl upd_same), rfl, _, _, rfl, _, _, rfl, _, _, rfl, rfl, ?_⟩
    have k : ∀ (r : Addr) (H' : Hp), Same (upd H T (.tup [.int 0, .int 1, .int 1])) H' → (upd H T (.tup [.int 0, .int 1, .int 1])) r = none → RatAt K H' r (meanR m (rat p q)) → Q (.ref r) H' := fun r H' s n => k r H' (s0.trans s) (s0.free n)
    generalize upd H T (.tup [.int 0, .int 1, .int 1]) = H at *
    refine ⟨_, rfl, _, rfl, by omega, by omega, for_range (lo := 0) (n := m) (fun i σ H2 => ∃ v, σ = [some (.int (m : Nat)), some (.ref a), some (.int (ovI p q (lenI m) i)), some (.int ((q : Int) ^ i)), some (.int ((p : Int) ^ i)), v] ∧ H2 = H) ⟨_, rfl, rfl⟩ ?_ ?_⟩
    · rintro i σ H2 hi ⟨v, rfl, rfl⟩
      have ei : (0 : Int) + (i : Int) = ((i : Nat) : Int) := Int.zero_add _
      have hl : (wordB m i).length ≤ 100 := by
        have := rest_len_le m (i % m)
        have := wide_64 h64
        rw [word_len, Nat.div_eq_of_lt hi]
        omega
      refine ⟨_, rfl, _, rfl, a, _, 1, _, rfl, rfl, hS, rfl, _, _, rfl, rfl, .inr (by omega), _, rfl, a, _, 1, _, rfl, rfl, hS, rfl, _, rfl, a, _, 0, _, rfl, rfl, hS, rfl, _, _, rfl, rfl, _, rfl, _, _, rfl, rfl, .inl (by omega), ?_⟩
      refine ⟨_, rfl, _, rfl, m, i, ?_, h1, h64, by rw [Nat.div_eq_of_lt hi]; omega, ?_⟩
      · show [V.int (m : Int), V.int (0 + (i : Int))] = _
        rw [ei]
      refine ⟨_, rfl, (by rw [tx_len]; have := sizeLine_eq; omega), _, _, rfl, rfl, .inr ?_, _, _, rfl, rfl, ?_⟩
      · rw [tx_len]
        omega
      rw [tx_len]
      refine ⟨_, rfl, _, rfl, a, _, 1, _, rfl, rfl, hS, rfl, _, _, rfl, rfl, .inr (by omega), _, rfl, _, rfl, a, _, 0, _, rfl, rfl, hS, rfl, _, _, rfl, rfl, .inr (by omega), _, _, rfl, ?_⟩
      exact ⟨_, rfl, rfl⟩
    · rintro σ H2 ⟨v, rfl, rfl⟩
      have hgt := pow_gt hpq h1
      refine ⟨_, rfl, _, rfl, _, _, rfl, rfl, _, rfl, _, rfl, _, _, rfl, rfl, ?_⟩
      have hp0 : (0 : Int) < (p : Int) ^ m := Int.pow_pos (by omega)
      have hsm : ((q : Int) ^ m - (p : Int) ^ m).natAbs < 2 ^ (5 * m + 1) := by
        have := pow_small hq (t := m)
        omega
      refine ⟨_, _, 5 * m + 1, rfl, by omega, hsm, by omega, fun r H' s n R => ?_⟩
      rw [law_mean hr0 h1] at R
      exact k r H' s n R
end

abbrev s_is_integer : Stmt := topS 7
theorem sc_is_integer : FnScope ["thing", "low", "high"] ["thing", "low", "high"] (defScope s_is_integer) := ⟨rfl, rfl, rfl, by decide +kernel, rfl, by decide +kernel, by decide +kernel⟩
/-- the values of «any value» -/
inductive AnyV (K : PySem.W.Frag) (H : Hp) : V → Prop
  | non : AnyV K H .non
  | bl (b : Bool) : AnyV K H (.bl b)
  | int (i : Int) : AnyV K H (.int i)
  | str (x : Str) : AnyV K H (.str x)
  | lst {a : Addr} (h : TyX K H (.ref a) (.type "list")) : AnyV K H (.ref a)
  | tup {a : Addr} (h : TyX K H (.ref a) (.type "tuple")) : AnyV K H (.ref a)
  | dct {a : Addr} (h : TyX K H (.ref a) (.type "dict")) : AnyV K H (.ref a)
def isI (x : V) (lo hi : Int) : Bool := match x with
  | .int n => decide (lo ≤ n) && decide (n ≤ hi)
  | _ => false
theorem isI_yes {n lo hi : Int} (h : lo ≤ n) (h' : n ≤ hi) : isI (.int n) lo hi = true := by
  show (decide (lo ≤ n) && decide (n ≤ hi)) = true
  rw [decide_eq_true h, decide_eq_true h']
  rfl
def sp_is_integer (K : PySem.W.Frag) : Sp := fun vs H Q _ => ∃ (x : V) (lo hi : Int), vs = [x, .int lo, .int hi] ∧ AnyV K H x ∧ Q (.bl (isI x lo hi)) H
section
variable {P : Program} {w : World} {K : PySem.W.Frag} {mg : Str → Option Value} {base : Heap}
theorem ok_is_integer (A : At K mg "is_integer" s_is_integer ["thing", "low", "high"]) (B : Bn mg) : CalE P w K mg base "is_integer" ["thing", "low", "high"] 1 (sp_is_integer K) := by
  obtain ⟨f, fd, F, gF, bF⟩ := A
  refine ⟨f, fd, F.ok sc_is_integer (fun vs H Q E h => ?_) (fun cdv A outer s H vs Q E hr h => ?_), gF, F.kp, bF⟩
  · repeat (first | (obtain ⟨rfl, _⟩ := h; rfl) | (obtain ⟨_, h⟩ := h))
  · obtain ⟨x, lo, hi, rfl, hx, q⟩ := h
    refine ⟨_, (pss_one (ps_ret (pe_and (pe_callB (call_isi_ K) (by rfl) B.isinstance_ (by decide +kernel) (pa_cons (pv 0) (pa_cons (pe_bltn (v := .ty "int") (by rfl) B.int_ (by decide +kernel) rfl) pa_nil))) (pe_and (pe_not (pe_callB (call_isi_ K) (by rfl) B.isinstance_ (by decide +kernel) (pa_cons (pv 0) (pa_cons (pe_bltn (v := .ty "bool") (by rfl) B.bool_ (by decide +kernel) rfl) pa_nil)))) (pe_one (pe_chain op_le op_le (pv 1) (pv 0) (pv 2))))))), ?_⟩
    have no : ∀ T : String, TyX K H x (.type T) → kitB T "int" = some false → isI x lo hi = false → (tRet (tAndV (tCB (rIsi K) (tCons (tVar 0) (tCons (tC (.ty "int")) tNil))) (tAndV (tNotV (tCB (rIsi K) (tCons (tVar 0) (tCons (tC (.ty "bool")) tNil)))) (tChain (rI0 fun i j => .bl (decide (i ≤ j))) (rI0 fun i j => .bl (decide (i ≤ j))) (tVar 1) (tVar 0) (tVar 2))))) { nx := fun _ H' => Q .non H', rt := Q } (start ["thing", "low", "high"] [x, .int lo, .int hi]) H := fun T hT hk hi => by
      refine ⟨_, rfl, _, _, _, _, false, rfl, .ty _, hT, kit_ty hk, _, rfl, iteF ?_⟩
      rw [hi] at q
      exact q
    cases hx with
    | non => exact no _ (.base .non) (by decide +kernel) rfl
    | str z => exact no _ (.base (.str z)) (by decide +kernel) rfl
    | lst h => exact no _ h (by decide +kernel) rfl
    | tup h => exact no _ h (by decide +kernel) rfl
    | dct h => exact no _ h (by decide +kernel) rfl
    | bl b =>
      refine ⟨_, rfl, _, _, _, _, true, rfl, .ty _, .base (.bl b), kit_ty (by decide +kernel), _, rfl, iteT ?_⟩
      refine ⟨_, rfl, _, _, _, _, true, rfl, .ty _, .base (.bl b), kit_ty (by decide +kernel), _, rfl, _, rfl, iteF ?_⟩
      exact q
    | int n =>
      refine ⟨_, rfl, _, _, _, _, true, rfl, .ty _, .base (.int n), kit_ty (by decide +kernel), _, rfl, iteT ?_⟩
      refine ⟨_, rfl, _, _, _, _, false, rfl, .ty _, .base (.int n), kit_ty (by decide +kernel), _, rfl, _, rfl, iteT ?_⟩
      refine ⟨_, rfl, _, rfl, _, _, rfl, rfl, _, rfl, ?_⟩
      have e : isI (.int n) lo hi = (decide (lo ≤ n) && decide (n ≤ hi)) := rfl
      rw [e] at q
      by_cases c : lo ≤ n
      · rw [decide_eq_true c]
        rw [decide_eq_true c, Bool.true_and] at q
        exact iteT ⟨_, rfl, _, _, rfl, rfl, q⟩
      · rw [decide_eq_false c]
        rw [decide_eq_false c, Bool.false_and] at q
        exact iteF q
end

abbrev s_is_ratio : Stmt := topS 19
theorem sc_is_ratio : FnScope ["thing"] ["thing"] (defScope s_is_ratio) := ⟨rfl, rfl, rfl, by decide +kernel, rfl, by decide +kernel, by decide +kernel⟩
def sp_is_ratio (K : PySem.W.Frag) : Sp := fun vs H Q _ => ∃ (a : Addr) (p q : Nat), vs = [.ref a] ∧ SqT K H a [.int (p : Nat), .int (q : Nat)] ∧ IsRat p q ∧ Q (.bl true) H
section
variable {P : Program} {w : World} {K : PySem.W.Frag} {mg : Str → Option Value} {base : Heap}
theorem ok_is_ratio (A : At K mg "is_ratio" s_is_ratio ["thing"]) (B : Bn mg) (H_is_integer : CalE P w K mg base "is_integer" ["thing", "low", "high"] 1 (sp_is_integer K)) (K_MOST_PARTS : ∃ v, mg "MOST_PARTS" = some v ∧ RelV (.int 30) v) : CalE P w K mg base "is_ratio" ["thing"] 2 (sp_is_ratio K) := by
  obtain ⟨f, fd, F, gF, bF⟩ := A
  obtain ⟨f_is_integer, fd_is_integer, G_is_integer⟩ := H_is_integer
  obtain ⟨v_MOST_PARTS, C_MOST_PARTS⟩ := K_MOST_PARTS
  refine ⟨f, fd, F.ok sc_is_ratio (fun vs H Q E h => ?_) (fun cdv A outer s H vs Q E hr h => ?_), gF, F.kp, bF⟩
  · repeat (first | (obtain ⟨rfl, _⟩ := h; rfl) | (obtain ⟨_, h⟩ := h))
  · obtain ⟨a, p, q, rfl, hS, hr0, k⟩ := h
    obtain ⟨_, rfl⟩ := C_MOST_PARTS.2
    have hp := hr0.p1
    have hpq := hr0.pq
    have hq := hr0.q30
    refine ⟨_, (pss_cons (ps_if (PW.pt (pw_or (pt_not (pt_val (pe_callB (call_isi_ K) (by rfl) B.isinstance_ (by decide +kernel) (pa_cons (pv 0) (pa_cons (pe_bltn (v := .ty "tuple") (by rfl) B.tuple_ (by decide +kernel) rfl) pa_nil))))) (pw_or1 (pt_cmpR op_ne (pe_callB (call_len_seq_ K) (by rfl) B.len_ (by decide +kernel) (pa_cons (pv 0) pa_nil)) pe_int (nomark _)))))
      (pss_one (ps_ret pe_bl))
      pss_nil)
      (pss_one (ps_ret (pe_and (pe_call G_is_integer.ok (hr.mono (by first | decide | exact Nat.le_refl _)) (by rfl) G_is_integer.g G_is_integer.kp G_is_integer.b .nil pass0 (pa_cons (pe_ix (ix_tup_ K) (pv 0) pe_int (fun _ _ => rfl)) (pa_cons pe_int (pa_cons (pe_glob (by rfl) C_MOST_PARTS.1 C_MOST_PARTS.2) pa_nil)))) (pe_one (pe_call G_is_integer.ok (hr.mono (by first | decide | exact Nat.le_refl _)) (by rfl) G_is_integer.g G_is_integer.kp G_is_integer.b .nil pass0 (pa_cons (pe_ix (ix_tup_ K) (pv 0) pe_int (fun _ _ => rfl)) (pa_cons pe_int (pa_cons (pe_op op_sub (pe_ix (ix_tup_ K) (pv 0) pe_int (fun _ _ => rfl)) pe_int) pa_nil))))))))), ?_⟩
    refine ⟨_, rfl, _, _, _, _, true, rfl, .ty _, tyT hS, kit_ty (by decide +kernel), _, rfl, iteF ?_⟩
    refine ⟨_, rfl, a, _, rfl, .inr hS, rfl, _, rfl, iteNS rfl ?_⟩
    refine ⟨_, rfl, a, _, 1, _, rfl, rfl, hS, rfl, _, _, _, rfl, .int _, ?_⟩
    rw [isI_yes (by omega) (by omega)]
    refine ⟨_, rfl, iteT ?_⟩
    refine ⟨_, rfl, a, _, 0, _, rfl, rfl, hS, rfl, _, rfl, a, _, 1, _, rfl, rfl, hS, rfl, _, _, rfl, rfl, _, _, _, rfl, .int _, ?_⟩
    rw [isI_yes (by omega) (by omega)]
    exact k
end

abbrev s_divisor : Stmt := topS 5
theorem sc_divisor : FnScope ["one", "two"] ["one", "two"] (defScope s_divisor) := ⟨rfl, rfl, rfl, by decide +kernel, rfl, by decide +kernel, by decide +kernel⟩
theorem gcd_step2 (a b : Nat) : Nat.gcd b (a % b) = Nat.gcd a b := by
  rw [Nat.gcd_comm b (a % b), ← Nat.gcd_rec, Nat.gcd_comm]
def sp_divisor (K : PySem.W.Frag) : Sp := fun vs H Q _ => ∃ (n d : Int), vs = [.int n, .int d] ∧ Q (.int (Int.gcd n d : Int)) H
section
variable {P : Program} {w : World} {K : PySem.W.Frag} {mg : Str → Option Value} {base : Heap}
theorem ok_divisor (A : At K mg "divisor" s_divisor ["one", "two"]) (B : Bn mg) : CalE P w K mg base "divisor" ["one", "two"] 1 (sp_divisor K) := by
  obtain ⟨f, fd, F, gF, bF⟩ := A
  refine ⟨f, fd, F.ok sc_divisor (fun vs H Q E h => ?_) (fun cdv A outer s H vs Q E hr h => ?_), gF, F.kp, bF⟩
  · repeat (first | (obtain ⟨rfl, _⟩ := h; rfl) | (obtain ⟨_, h⟩ := h))
  · obtain ⟨n, d, rfl, k⟩ := h
    refine ⟨_, (pss_cons (ps_par (i := 0) (j := 1) (by rfl) sc_divisor.nd rfl rfl (by decide) rfl rfl (pa_cons (pe_callB call_abs (by rfl) B.abs_ (by decide +kernel) (pa_cons (pv 0) pa_nil)) (pa_cons (pe_callB call_abs (by rfl) B.abs_ (by decide +kernel) (pa_cons (pv 1) pa_nil)) pa_nil)) (by rfl))
      (pss_cons (ps_while PassesOwn.never (pt_cmpR op_gt (pv 1) pe_int (nomark _))
      (pss_one (ps_par (i := 0) (j := 1) (by rfl) sc_divisor.nd rfl rfl (by decide) rfl rfl (pa_cons (pv 1) (pa_cons (pe_op op_mod (pv 0) (pv 1)) pa_nil)) (by rfl))))
      (pss_one (ps_ret (pv 0))))), ?_⟩
    refine ⟨_, rfl, _, rfl, _, rfl, _, rfl, _, _, rfl, ?_⟩
    refine ⟨fun m σ H2 => ∃ (x y : Nat), m = y ∧ σ = [some (.int x), some (.int y)] ∧ Nat.gcd x y = Int.gcd n d ∧ H2 = H, ⟨d.natAbs, n.natAbs, d.natAbs, rfl, ?_, rfl, rfl⟩, ?_⟩
    · have e1 : (if n < 0 then -n else n) = (n.natAbs : Int) := by split <;> omega
      have e2 : (if d < 0 then -d else d) = (d.natAbs : Int) := by split <;> omega
      show [some (V.int (if n < 0 then -n else n)), some (V.int (if d < 0 then -d else d))] = _
      rw [e1, e2]
    rintro m σ H2 ⟨x, y, rfl, rfl, hg, rfl⟩
    refine ⟨_, rfl, _, _, rfl, rfl, _, rfl, ?_⟩
    refine ite2 (fun c => ?_) (fun c => ?_)
    · have c' : 0 < m := Int.ofNat_lt.mp (of_decide_eq_true c)
      refine ⟨fun σ' H' => ∃ (x y : Nat), y < m ∧ σ' = [some (.int x), some (.int y)] ∧ Nat.gcd x y = Int.gcd n d ∧ H' = H2, fun σ' H' ⟨x, y, l, e1, e2, e3⟩ => ⟨y, l, x, y, rfl, e1, e2, e3⟩, ?_⟩
      refine ⟨_, rfl, _, rfl, _, rfl, _, _, rfl, rfl, (by omega : (0 : Int) < (m : Int)), _, _, rfl, ?_⟩
      exact ⟨m, x % m, Nat.mod_lt _ c', rfl, by rw [gcd_step2, hg], rfl⟩
    · have c' : m = 0 := by
        have : ¬ ((0 : Int) < (m : Int)) := fun z => c (decide_eq_true z)
        omega
      subst c'
      rw [Nat.gcd_zero_right] at hg
      subst hg
      exact ⟨_, rfl, k⟩
end

abbrev s_fraction : Stmt := topS 6
theorem sc_fraction : FnScope ["number", "parts", "common"] ["number", "parts"] (defScope s_fraction) := ⟨rfl, rfl, rfl, by decide +kernel, rfl, by decide +kernel, by decide +kernel⟩
def sp_fraction (K : PySem.W.Frag) : Sp := fun vs H Q _ => ∃ (n d : Int) (b : Nat), vs = [.int n, .int d] ∧ 0 < d ∧ d.natAbs < 2 ^ b ∧ b ≤ 8900 ∧
  ∀ (r : Addr) (H' : Hp), Same H H' → H r = none → RatAt K H' r (Rat.divInt n d) → Q (.ref r) H'
section
variable {P : Program} {w : World} {K : PySem.W.Frag} {mg : Str → Option Value} {base : Heap}
theorem ok_fraction (A : At K mg "fraction" s_fraction ["number", "parts"]) (B : Bn mg) (H_divisor : CalE P w K mg base "divisor" ["one", "two"] 1 (sp_divisor K)) : CalE P w K mg base "fraction" ["number", "parts"] 2 (sp_fraction K) := by
  obtain ⟨f, fd, F, gF, bF⟩ := A
  obtain ⟨f_divisor, fd_divisor, G_divisor⟩ := H_divisor
  refine ⟨f, fd, F.ok sc_fraction (fun vs H Q E h => ?_) (fun cdv A outer s H vs Q E hr h => ?_), gF, F.kp, bF⟩
  · repeat (first | (obtain ⟨rfl, _⟩ := h; rfl) | (obtain ⟨_, h⟩ := h))
  · obtain ⟨n, d, b, rfl, d0, hb, b9, k⟩ := h
    refine ⟨_, (pss_cons (ps_set (i := 2) sc_fraction.nd rfl (.inl rfl) (pe_ifExp (pt_cmpR op_gt (pv 1) pe_int (nomark _)) (pe_call G_divisor.ok (hr.mono (by first | decide | exact Nat.le_refl _)) (by rfl) G_divisor.g G_divisor.kp G_divisor.b .nil pass0 (pa_cons (pv 0) (pa_cons (pv 1) pa_nil))) (pe_un un_neg (pe_call G_divisor.ok (hr.mono (by first | decide | exact Nat.le_refl _)) (by rfl) G_divisor.g G_divisor.kp G_divisor.b .nil pass0 (pa_cons (pv 0) (pa_cons (pv 1) pa_nil))))))
      (pss_one (ps_ret (pe_tup (pa_cons (pe_op op_fdivW (pv 0) (pv 2)) (pa_cons (pe_op op_fdivW (pv 1) (pv 2)) pa_nil)))))), ?_⟩
    refine ⟨_, rfl, _, _, rfl, rfl, _, rfl, iteDT d0 ?_⟩
    refine ⟨_, rfl, _, rfl, n, d, rfl, ?_⟩
    have hg0 : (0 : Int) < (Int.gcd n d : Int) := Int.ofNat_lt.mpr (Int.gcd_pos_of_ne_zero_right n (by omega))
    have hgb : ((Int.gcd n d : Int)).natAbs < 2 ^ (b + 1) := by
      rw [Int.natAbs_natCast]
      refine Nat.lt_of_le_of_lt (Nat.le_of_dvd (by omega) (Int.gcd_dvd_natAbs_right n d)) (Nat.lt_of_lt_of_le hb (Nat.pow_le_pow_right (by decide) (by omega)))
    have hw : ∀ z, CDivW z (Int.gcd n d : Int) := fun z => wide_div hg0 hgb (by omega) (by omega)
    refine ⟨_, rfl, _, rfl, _, _, rfl, rfl, hw _, _, rfl, _, rfl, _, _, rfl, rfl, hw _, (by show 2 ≤ sizeLine; decide), fun p np => ?_⟩
    refine k p _ (same_new np _) np ?_
    unfold RatAt
    rw [frac_num d0, frac_den d0]
    exact .inl (.inl upd_same)
end

abbrev s_minus : Stmt := topS 9
theorem sc_minus : FnScope ["one", "two"] ["one", "two"] (defScope s_minus) := ⟨rfl, rfl, rfl, by decide +kernel, rfl, by decide +kernel, by decide +kernel⟩
def sp_minus (K : PySem.W.Frag) : Sp := fun vs H Q _ => ∃ (u v : Addr) (r s : Rat) (b c : Nat), vs = [.ref u, .ref v] ∧ RatAt K H u r ∧ RatAt K H v s ∧ Bd r b ∧ Bd s c ∧ b + c ≤ 8900 ∧ 
  ∀ (p : Addr) (H' : Hp), Same H H' → H p = none → RatAt K H' p (r - s) → Q (.ref p) H'
section
variable {P : Program} {w : World} {K : PySem.W.Frag} {mg : Str → Option Value} {base : Heap}
theorem ok_minus (A : At K mg "minus" s_minus ["one", "two"]) (B : Bn mg) (H_fraction : CalE P w K mg base "fraction" ["number", "parts"] 2 (sp_fraction K)) : CalE P w K mg base "minus" ["one", "two"] 3 (sp_minus K) := by
  obtain ⟨f, fd, F, gF, bF⟩ := A
  obtain ⟨f_fraction, fd_fraction, G_fraction⟩ := H_fraction
  refine ⟨f, fd, F.ok sc_minus (fun vs H Q E h => ?_) (fun cdv A outer s H vs Q E hr h => ?_), gF, F.kp, bF⟩
  · repeat (first | (obtain ⟨rfl, _⟩ := h; rfl) | (obtain ⟨_, h⟩ := h))
  · obtain ⟨u, v, r, s, b, c, rfl, hu, hv, br, bs, hbc, k⟩ := h
    refine ⟨_, (pss_one (ps_ret (pe_call G_fraction.ok (hr.mono (by first | decide | exact Nat.le_refl _)) (by rfl) G_fraction.g G_fraction.kp G_fraction.b .nil pass0 (pa_cons (pe_op op_sub (pe_op op_mulW (pe_ix (ix_tup_ K) (pv 0) pe_int (fun _ _ => rfl)) (pe_ix (ix_tup_ K) (pv 1) pe_int (fun _ _ => rfl))) (pe_op op_mulW (pe_ix (ix_tup_ K) (pv 1) pe_int (fun _ _ => rfl)) (pe_ix (ix_tup_ K) (pv 0) pe_int (fun _ _ => rfl)))) (pa_cons (pe_op op_mulW (pe_ix (ix_tup_ K) (pv 0) pe_int (fun _ _ => rfl)) (pe_ix (ix_tup_ K) (pv 1) pe_int (fun _ _ => rfl))) pa_nil))))), ?_⟩
    have hu' := hu
    have hv' := hv
    unfold RatAt at hu' hv'
    refine ⟨_, rfl, u, _, 0, _, rfl, rfl, hu', rfl, _, rfl, v, _, 1, _, rfl, rfl, hv', rfl, _, _, rfl, rfl, bd_w br.1 (bd_den bs) (by omega), ?_⟩
    refine ⟨_, rfl, v, _, 0, _, rfl, rfl, hv', rfl, _, rfl, u, _, 1, _, rfl, rfl, hu', rfl, _, _, rfl, rfl, bd_w bs.1 (bd_den br) (by omega), _, _, rfl, rfl, ?_⟩
    refine ⟨_, rfl, u, _, 1, _, rfl, rfl, hu', rfl, _, rfl, v, _, 1, _, rfl, rfl, hv', rfl, _, _, rfl, rfl, bd_w (bd_den br) (bd_den bs) (by omega), ?_⟩
    refine ⟨_, _, b + c, rfl, Int.mul_pos (den_pos r) (den_pos s), bd_mul (bd_den br) (bd_den bs), hbc, fun p H' sm np hp => k p H' sm np ?_⟩
    rw [rat_sub] at hp
    exact hp
end

abbrev s_power_of_two : Stmt := topS 15
theorem sc_power_of_two : FnScope ["times"] ["times"] (defScope s_power_of_two) := ⟨rfl, rfl, rfl, by decide +kernel, rfl, by decide +kernel, by decide +kernel⟩
def sp_power_of_two (K : PySem.W.Frag) : Sp := fun vs H Q _ => ∃ t : Nat, vs = [.int (t : Nat)] ∧ t ≤ 1000 ∧ Q (.int ((2 ^ t : Nat) : Int)) H
section
variable {P : Program} {w : World} {K : PySem.W.Frag} {mg : Str → Option Value} {base : Heap}
theorem ok_power_of_two (A : At K mg "power_of_two" s_power_of_two ["times"]) (B : Bn mg) : CalE P w K mg base "power_of_two" ["times"] 1 (sp_power_of_two K) := by
  obtain ⟨f, fd, F, gF, bF⟩ := A
  refine ⟨f, fd, F.ok sc_power_of_two (fun vs H Q E h => ?_) (fun cdv A outer s H vs Q E hr h => ?_), gF, F.kp, bF⟩
  · repeat (first | (obtain ⟨rfl, _⟩ := h; rfl) | (obtain ⟨_, h⟩ := h))
  · obtain ⟨t, rfl, ht, k⟩ := h
    refine ⟨_, (pss_one (ps_ret (pe_op op_shl pe_int (pv 0)))), ?_⟩
    refine ⟨_, rfl, _, _, rfl, rfl, ⟨by omega, by omega, by decide⟩, ?_⟩
    have e : (1 : Int) * 2 ^ ((t : Int)).toNat = ((2 ^ t : Nat) : Int) := by
      rw [Int.one_mul, Int.toNat_natCast, Int.natCast_pow]
      rfl
    show Q (.int ((1 : Int) * 2 ^ ((t : Int)).toNat)) H
    rw [e]
    exact k
end

abbrev s_wide : Stmt := topS 14
theorem sc_wide : FnScope ["step", "found"] ["step"] (defScope s_wide) := ⟨rfl, rfl, rfl, by decide +kernel, rfl, by decide +kernel, by decide +kernel⟩
def sp_wide (K : PySem.W.Frag) : Sp := fun vs H Q _ => ∃ m : Nat, vs = [.int (m : Nat)] ∧ m ≤ 64 ∧ Q (.int (wideN m : Nat)) H
section
variable {P : Program} {w : World} {K : PySem.W.Frag} {mg : Str → Option Value} {base : Heap}
theorem ok_wide (A : At K mg "wide" s_wide ["step"]) (B : Bn mg) (H_power_of_two : CalE P w K mg base "power_of_two" ["times"] 1 (sp_power_of_two K)) : CalE P w K mg base "wide" ["step"] 2 (sp_wide K) := by
  obtain ⟨f, fd, F, gF, bF⟩ := A
  obtain ⟨f_power_of_two, fd_power_of_two, G_power_of_two⟩ := H_power_of_two
  refine ⟨f, fd, F.ok sc_wide (fun vs H Q E h => ?_) (fun cdv A outer s H vs Q E hr h => ?_), gF, F.kp, bF⟩
  · repeat (first | (obtain ⟨rfl, _⟩ := h; rfl) | (obtain ⟨_, h⟩ := h))
  · obtain ⟨m, rfl, hm, k⟩ := h
    have h6 := wide_64 hm
    refine ⟨_, (pss_cons (ps_set (i := 1) sc_wide.nd rfl (.inl rfl) pe_int)
      (pss_cons (ps_while PassesOwn.never (pt_cmpR op_lt (pe_call G_power_of_two.ok (hr.mono (by first | decide | exact Nat.le_refl _)) (by rfl) G_power_of_two.g G_power_of_two.kp G_power_of_two.b .nil pass0 (pa_cons (pv 1) pa_nil)) (pv 0) (nomark _))
      (pss_one (ps_aug (i := 1) sc_wide.nd rfl (.inl rfl) pe_int ip_add)))
      (pss_one (ps_ret (pv 1))))), ?_⟩
    refine ⟨fun n σ H2 => ∃ c : Nat, n = 6 - c ∧ σ = [some (.int (m : Nat)), some (.int (c : Nat))] ∧ (∀ d, d < c → 2 ^ d < m) ∧ c ≤ 6 ∧ H2 = H, ⟨6, 0, rfl, rfl, fun d h => by omega, by decide, rfl⟩, ?_⟩
    rintro n σ H2 ⟨c, rfl, rfl, hc, c6, rfl⟩
    refine ⟨_, rfl, c, rfl, by omega, _, rfl, _, _, rfl, rfl, _, rfl, ite2 (fun z => ?_) (fun z => ?_)⟩
    · have z' : 2 ^ c < m := Int.ofNat_lt.mp (of_decide_eq_true z)
      have c5 : c < 6 := by
        refine Nat.not_le.mp fun y => ?_
        have : c = 6 := by omega
        subst this
        omega
      refine ⟨fun σ' H' => ∃ c' : Nat, c' = c + 1 ∧ σ' = [some (.int (m : Nat)), some (.int (c' : Nat))] ∧ H' = H2, fun σ' H' ⟨c', e0, e1, e2⟩ => ⟨6 - c', by omega, c', rfl, e1, fun d hd => ?_, by omega, e2⟩, ?_⟩
      · by_cases hd' : d = c
        · exact hd' ▸ z'
        · exact hc d (by omega)
      exact ⟨_, rfl, _, _, rfl, rfl, c + 1, rfl, rfl, rfl⟩
    · have z' : m ≤ 2 ^ c := Nat.not_lt.mp fun y => z (decide_eq_true (Int.ofNat_lt.mpr y))
      rw [wide_eq z' hc] at k
      exact ⟨_, rfl, k⟩
end

abbrev s_power : Stmt := topS 21
theorem sc_power : FnScope ["ratio", "times", "over", "under", "again"] ["ratio", "times"] (defScope s_power) := ⟨rfl, rfl, rfl, by decide +kernel, rfl, by decide +kernel, by decide +kernel⟩
def sp_power (K : PySem.W.Frag) : Sp := fun vs H Q _ => ∃ (a : Addr) (p q t : Nat), vs = [.ref a, .int (t : Nat)] ∧ SqT K H a [.int (p : Nat), .int (q : Nat)] ∧ IsRat p q ∧ t ≤ 1000 ∧
  ∀ (r : Addr) (H' : Hp), Same H H' → H r = none → RatAt K H' r (rat p q ^ t) → Q (.ref r) H'
section
variable {P : Program} {w : World} {K : PySem.W.Frag} {mg : Str → Option Value} {base : Heap}
theorem ok_power (A : At K mg "power" s_power ["ratio", "times"]) (B : Bn mg) (H_fraction : CalE P w K mg base "fraction" ["number", "parts"] 2 (sp_fraction K)) : CalE P w K mg base "power" ["ratio", "times"] 3 (sp_power K) := by
  obtain ⟨f, fd, F, gF, bF⟩ := A
  obtain ⟨f_fraction, fd_fraction, G_fraction⟩ := H_fraction
  refine ⟨f, fd, F.ok sc_power (fun vs H Q E h => ?_) (fun cdv A outer s H vs Q E hr h => ?_), gF, F.kp, bF⟩
  · repeat (first | (obtain ⟨rfl, _⟩ := h; rfl) | (obtain ⟨_, h⟩ := h))
  · obtain ⟨a, p, q, t, rfl, hS, hr0, ht, k⟩ := h
    have hp := hr0.p1
    have hpq := hr0.pq
    have hq := hr0.q30
    refine ⟨_, (pss_cons (ps_asg (pe_tup (pa_cons pe_int (pa_cons pe_int pa_nil))) (pg_tup (by rfl) (pgs_cons (pg_name (i := 2) sc_power.nd rfl (.inl rfl)) (pgs_cons (pg_name (i := 3) sc_power.nd rfl (.inl rfl)) pgs_nil))))
      (pss_cons (ps_for PassesOwn.never rfl (pi_range1 (by rfl) B.range_ (pa_cons (pv 1) pa_nil)) (pg_name (i := 4) sc_power.nd rfl (.inl rfl))
      (pss_one (ps_par (i := 2) (j := 3) (by rfl) sc_power.nd rfl rfl (by decide) rfl rfl (pa_cons (pe_op op_mul (pv 2) (pe_ix (ix_tup_ K) (pv 0) pe_int (fun _ _ => rfl))) (pa_cons (pe_op op_mul (pv 3) (pe_ix (ix_tup_ K) (pv 0) pe_int (fun _ _ => rfl))) pa_nil)) (by rfl))))
      (pss_one (ps_ret (pe_call G_fraction.ok (hr.mono (by first | decide | exact Nat.le_refl _)) (by rfl) G_fraction.g G_fraction.kp G_fraction.b .nil pass0 (pa_cons (pv 2) (pa_cons (pv 3) pa_nil))))))), ?_⟩
    refine ⟨(by show 2 ≤ sizeLine; decide), fun T nT => ?_⟩
    have s0 := same_new nT (.tup [.int 1, .int 1])
    have hS := Same.seqT s0 hS
    refine ⟨T, _, rfl, .inl (.inl upd_same), rfl, _, _, rfl, _, _, rfl, rfl, ?_⟩
    have k : ∀ (r : Addr) (H' : Hp), Same (upd H T (.tup [.int 1, .int 1])) H' → (upd H T (.tup [.int 1, .int 1])) r = none → RatAt K H' r (rat p q ^ t) → Q (.ref r) H' := fun r H' s n => k r H' (s0.trans s) (s0.free n)
    generalize upd H T (.tup [.int 1, .int 1]) = H at *
    refine ⟨_, rfl, _, rfl, by omega, by omega, for_range (lo := 0) (n := t) (fun i σ H2 => ∃ v, σ = [some (.ref a), some (.int (t : Nat)), some (.int ((p : Int) ^ i)), some (.int ((q : Int) ^ i)), v] ∧ H2 = H) ⟨_, rfl, rfl⟩ ?_ ?_⟩
    · rintro i σ H2 hi ⟨v, rfl, rfl⟩
      refine ⟨_, rfl, _, rfl, a, _, 0, _, rfl, rfl, hS, rfl, _, _, rfl, rfl, .inr (by omega), _, rfl, _, rfl, a, _, 1, _, rfl, rfl, hS, rfl, _, _, rfl, rfl, .inr (by omega), _, _, rfl, ?_⟩
      exact ⟨_, rfl, rfl⟩
    · rintro σ H2 ⟨v, rfl, rfl⟩
      refine ⟨_, rfl, _, rfl, _, _, 5 * t + 1, rfl, Int.pow_pos (by omega), pow_small hq, by omega, fun r H' s nr hR => ?_⟩
      rw [rat_pow p q (by omega)] at hR
      exact k r H' s nr hR
end

abbrev s_plus : Stmt := topS 8
theorem sc_plus : FnScope ["one", "two"] ["one", "two"] (defScope s_plus) := ⟨rfl, rfl, rfl, by decide +kernel, rfl, by decide +kernel, by decide +kernel⟩
def sp_plus (K : PySem.W.Frag) : Sp := fun vs H Q _ => ∃ (u v : Addr) (r s : Rat) (b c : Nat), vs = [.ref u, .ref v] ∧ RatAt K H u r ∧ RatAt K H v s ∧ Bd r b ∧ Bd s c ∧ b + c ≤ 8900 ∧ 
  ∀ (p : Addr) (H' : Hp), Same H H' → H p = none → RatAt K H' p (r + s) → Q (.ref p) H'
section
variable {P : Program} {w : World} {K : PySem.W.Frag} {mg : Str → Option Value} {base : Heap}
theorem ok_plus (A : At K mg "plus" s_plus ["one", "two"]) (B : Bn mg) (H_fraction : CalE P w K mg base "fraction" ["number", "parts"] 2 (sp_fraction K)) : CalE P w K mg base "plus" ["one", "two"] 3 (sp_plus K) := by
  obtain ⟨f, fd, F, gF, bF⟩ := A
  obtain ⟨f_fraction, fd_fraction, G_fraction⟩ := H_fraction
  refine ⟨f, fd, F.ok sc_plus (fun vs H Q E h => ?_) (fun cdv A outer s H vs Q E hr h => ?_), gF, F.kp, bF⟩
  · repeat (first | (obtain ⟨rfl, _⟩ := h; rfl) | (obtain ⟨_, h⟩ := h))
  · obtain ⟨u, v, r, s, b, c, rfl, hu, hv, br, bs, hbc, k⟩ := h
    refine ⟨_, (pss_one (ps_ret (pe_call G_fraction.ok (hr.mono (by first | decide | exact Nat.le_refl _)) (by rfl) G_fraction.g G_fraction.kp G_fraction.b .nil pass0 (pa_cons (pe_op op_add (pe_op op_mulW (pe_ix (ix_tup_ K) (pv 0) pe_int (fun _ _ => rfl)) (pe_ix (ix_tup_ K) (pv 1) pe_int (fun _ _ => rfl))) (pe_op op_mulW (pe_ix (ix_tup_ K) (pv 1) pe_int (fun _ _ => rfl)) (pe_ix (ix_tup_ K) (pv 0) pe_int (fun _ _ => rfl)))) (pa_cons (pe_op op_mulW (pe_ix (ix_tup_ K) (pv 0) pe_int (fun _ _ => rfl)) (pe_ix (ix_tup_ K) (pv 1) pe_int (fun _ _ => rfl))) pa_nil))))), ?_⟩
    have hu' := hu
    have hv' := hv
    unfold RatAt at hu' hv'
    refine ⟨_, rfl, u, _, 0, _, rfl, rfl, hu', rfl, _, rfl, v, _, 1, _, rfl, rfl, hv', rfl, _, _, rfl, rfl, bd_w br.1 (bd_den bs) (by omega), ?_⟩
    refine ⟨_, rfl, v, _, 0, _, rfl, rfl, hv', rfl, _, rfl, u, _, 1, _, rfl, rfl, hu', rfl, _, _, rfl, rfl, bd_w bs.1 (bd_den br) (by omega), _, _, rfl, rfl, ?_⟩
    refine ⟨_, rfl, u, _, 1, _, rfl, rfl, hu', rfl, _, rfl, v, _, 1, _, rfl, rfl, hv', rfl, _, _, rfl, rfl, bd_w (bd_den br) (bd_den bs) (by omega), ?_⟩
    refine ⟨_, _, b + c, rfl, Int.mul_pos (den_pos r) (den_pos s), bd_mul (bd_den br) (bd_den bs), hbc, fun p H' sm np hp => k p H' sm np ?_⟩
    rw [rat_add] at hp
    exact hp
end

abbrev s_quotient : Stmt := topS 10
theorem sc_quotient : FnScope ["one", "two"] ["one", "two"] (defScope s_quotient) := ⟨rfl, rfl, rfl, by decide +kernel, rfl, by decide +kernel, by decide +kernel⟩
def sp_quotient (K : PySem.W.Frag) : Sp := fun vs H Q _ => ∃ (u v : Addr) (r s : Rat) (b c : Nat), vs = [.ref u, .ref v] ∧ RatAt K H u r ∧ RatAt K H v s ∧ Bd r b ∧ Bd s c ∧ b + c ≤ 8900 ∧ 0 < s ∧
  ∀ (p : Addr) (H' : Hp), Same H H' → H p = none → RatAt K H' p (r / s) → Q (.ref p) H'
section
variable {P : Program} {w : World} {K : PySem.W.Frag} {mg : Str → Option Value} {base : Heap}
theorem ok_quotient (A : At K mg "quotient" s_quotient ["one", "two"]) (B : Bn mg) (H_fraction : CalE P w K mg base "fraction" ["number", "parts"] 2 (sp_fraction K)) : CalE P w K mg base "quotient" ["one", "two"] 3 (sp_quotient K) := by
  obtain ⟨f, fd, F, gF, bF⟩ := A
  obtain ⟨f_fraction, fd_fraction, G_fraction⟩ := H_fraction
  refine ⟨f, fd, F.ok sc_quotient (fun vs H Q E h => ?_) (fun cdv A outer s H vs Q E hr h => ?_), gF, F.kp, bF⟩
  · repeat (first | (obtain ⟨rfl, _⟩ := h; rfl) | (obtain ⟨_, h⟩ := h))
  · obtain ⟨u, v, r, s, b, c, rfl, hu, hv, br, bs, hbc, s0, k⟩ := h
    refine ⟨_, (pss_one (ps_ret (pe_call G_fraction.ok (hr.mono (by first | decide | exact Nat.le_refl _)) (by rfl) G_fraction.g G_fraction.kp G_fraction.b .nil pass0 (pa_cons (pe_op op_mulW (pe_ix (ix_tup_ K) (pv 0) pe_int (fun _ _ => rfl)) (pe_ix (ix_tup_ K) (pv 1) pe_int (fun _ _ => rfl))) (pa_cons (pe_op op_mulW (pe_ix (ix_tup_ K) (pv 0) pe_int (fun _ _ => rfl)) (pe_ix (ix_tup_ K) (pv 1) pe_int (fun _ _ => rfl))) pa_nil))))), ?_⟩
    have hu' := hu
    have hv' := hv
    unfold RatAt at hu' hv'
    refine ⟨_, rfl, u, _, 0, _, rfl, rfl, hu', rfl, _, rfl, v, _, 1, _, rfl, rfl, hv', rfl, _, _, rfl, rfl, bd_w br.1 (bd_den bs) (by omega), ?_⟩
    refine ⟨_, rfl, u, _, 1, _, rfl, rfl, hu', rfl, _, rfl, v, _, 0, _, rfl, rfl, hv', rfl, _, _, rfl, rfl, bd_w (bd_den br) bs.1 (by omega), ?_⟩
    refine ⟨_, _, b + c, rfl, Int.mul_pos (den_pos r) (num_pos s0), bd_mul (bd_den br) bs.1, hbc, fun p H' sm np hp => k p H' sm np ?_⟩
    rw [rat_quot r s (Int.ne_of_gt (num_pos s0))] at hp
    exact hp
end

abbrev s_mean_by : Stmt := topS 24
theorem sc_mean_by : FnScope ["step", "ratio", "many", "whole", "left", "short", "rests"] ["step", "ratio"] (defScope s_mean_by) := ⟨rfl, rfl, rfl, by decide +kernel, rfl, by decide +kernel, by decide +kernel⟩
def sp_mean_by (K : PySem.W.Frag) : Sp := fun vs H Q _ => ∃ (a : Addr) (m p q : Nat), vs = [.int (m : Nat), .ref a] ∧ SqT K H a [.int (p : Nat), .int (q : Nat)] ∧ IsRat p q ∧ 1 ≤ m ∧ m ≤ 64 ∧
  ∀ (r : Addr) (H' : Hp), Same H H' → H r = none → RatAt K H' r (meanR m (rat p q)) → Bd (meanR m (rat p q)) 1700 → Q (.ref r) H'
theorem bd_small {z : Int} {b : Nat} (h : z.natAbs < 2 ^ b) (hb : 1 ≤ b) : Bd (z : Rat) b := ⟨h, by
  show 1 < 2 ^ b
  exact Nat.one_lt_pow (by omega) (by decide)⟩
section
variable {P : Program} {w : World} {K : PySem.W.Frag} {mg : Str → Option Value} {base : Heap}
theorem ok_mean_by (A : At K mg "mean_by" s_mean_by ["step", "ratio"]) (B : Bn mg) (H_wide : CalE P w K mg base "wide" ["step"] 2 (sp_wide K)) (H_power : CalE P w K mg base "power" ["ratio", "times"] 3 (sp_power K)) (H_minus : CalE P w K mg base "minus" ["one", "two"] 3 (sp_minus K)) (H_power_of_two : CalE P w K mg base "power_of_two" ["times"] 1 (sp_power_of_two K)) (H_quotient : CalE P w K mg base "quotient" ["one", "two"] 3 (sp_quotient K)) (H_plus : CalE P w K mg base "plus" ["one", "two"] 3 (sp_plus K)) : CalE P w K mg base "mean_by" ["step", "ratio"] 4 (sp_mean_by K) := by
  obtain ⟨f, fd, F, gF, bF⟩ := A
  obtain ⟨f_wide, fd_wide, G_wide⟩ := H_wide
  obtain ⟨f_power, fd_power, G_power⟩ := H_power
  obtain ⟨f_minus, fd_minus, G_minus⟩ := H_minus
  obtain ⟨f_power_of_two, fd_power_of_two, G_power_of_two⟩ := H_power_of_two
  obtain ⟨f_quotient, fd_quotient, G_quotient⟩ := H_quotient
  obtain ⟨f_plus, fd_plus, G_plus⟩ := H_plus
  refine ⟨f, fd, F.ok sc_mean_by (fun vs H Q E h => ?_) (fun cdv A outer s H vs Q E hr h => ?_), gF, F.kp, bF⟩
  · repeat (first | (obtain ⟨rfl, _⟩ := h; rfl) | (obtain ⟨_, h⟩ := h))
  · obtain ⟨a, m, p, q, rfl, hS, hr0, h1, h64, k⟩ := h
    have hq := hr0.q30
    have hp := hr0.p1
    have hpq := hr0.pq
    have h6 := wide_64 h64
    have hsh := short_lt h1
    have L0 := left_pos hr0 h1
    have b1 := Bd.pow (p := p) (q := q) (by omega) hq (by omega) m
    have b1' : Bd (rat p q ^ m) 321 := b1.mono (by omega)
    have b2 : Bd (rat p q ^ shortN m) 321 := (Bd.pow (p := p) (q := q) (by omega) hq (by omega) (shortN m)).mono (by omega)
    have b3 : Bd (1 : Rat) 1 := ⟨by decide, by decide⟩
    have b4 := Bd.sub b3 b1'
    refine ⟨_, (pss_cons (ps_set (i := 2) sc_mean_by.nd rfl (.inl rfl) (pe_call G_wide.ok (hr.mono (by first | decide | exact Nat.le_refl _)) (by rfl) G_wide.g G_wide.kp G_wide.b .nil pass0 (pa_cons (pv 0) pa_nil)))
      (pss_cons (ps_set (i := 3) sc_mean_by.nd rfl (.inl rfl) (pe_call G_power.ok (hr.mono (by first | decide | exact Nat.le_refl _)) (by rfl) G_power.g G_power.kp G_power.b .nil pass0 (pa_cons (pv 1) (pa_cons (pv 0) pa_nil))))
      (pss_cons (ps_set (i := 4) sc_mean_by.nd rfl (.inl rfl) (pe_call G_minus.ok (hr.mono (by first | decide | exact Nat.le_refl _)) (by rfl) G_minus.g G_minus.kp G_minus.b .nil pass0 (pa_cons (pe_tup (pa_cons pe_int (pa_cons pe_int pa_nil))) (pa_cons (pv 3) pa_nil))))
      (pss_cons (ps_set (i := 5) sc_mean_by.nd rfl (.inl rfl) (pe_op op_sub (pe_call G_power_of_two.ok (hr.mono (by first | decide | exact Nat.le_refl _)) (by rfl) G_power_of_two.g G_power_of_two.kp G_power_of_two.b .nil pass0 (pa_cons (pv 2) pa_nil)) (pv 0)))
      (pss_cons (ps_set (i := 6) sc_mean_by.nd rfl (.inl rfl) (pe_ifExp (pt_cmpR op_gt (pv 2) pe_int (nomark _)) (pe_call G_quotient.ok (hr.mono (by first | decide | exact Nat.le_refl _)) (by rfl) G_quotient.g G_quotient.kp G_quotient.b .nil pass0 (pa_cons (pe_call G_minus.ok (hr.mono (by first | decide | exact Nat.le_refl _)) (by rfl) G_minus.g G_minus.kp G_minus.b .nil pass0 (pa_cons (pe_call G_power.ok (hr.mono (by first | decide | exact Nat.le_refl _)) (by rfl) G_power.g G_power.kp G_power.b .nil pass0 (pa_cons (pv 1) (pa_cons (pv 5) pa_nil))) (pa_cons (pv 3) pa_nil))) (pa_cons (pv 4) pa_nil))) (pe_tup (pa_cons pe_int (pa_cons pe_int pa_nil)))))
      (pss_one (ps_ret (pe_call G_plus.ok (hr.mono (by first | decide | exact Nat.le_refl _)) (by rfl) G_plus.g G_plus.kp G_plus.b .nil pass0 (pa_cons (pe_call G_plus.ok (hr.mono (by first | decide | exact Nat.le_refl _)) (by rfl) G_plus.g G_plus.kp G_plus.b .nil pass0 (pa_cons (pe_tup (pa_cons (pe_callB (call_max2 rfl) (by rfl) B.max_ (by decide +kernel) (pa_cons pe_int (pa_cons (pv 2) pa_nil))) (pa_cons pe_int pa_nil))) (pa_cons (pe_call G_quotient.ok (hr.mono (by first | decide | exact Nat.le_refl _)) (by rfl) G_quotient.g G_quotient.kp G_quotient.b .nil pass0 (pa_cons (pv 3) (pa_cons (pv 4) pa_nil))) pa_nil))) (pa_cons (pv 6) pa_nil)))))))))), ?_⟩
    -- many, whole, left
    refine ⟨_, rfl, m, rfl, h64, ?_⟩
    refine ⟨_, rfl, _, rfl, a, p, q, m, rfl, hS, hr0, by omega, fun r1 H1 s1 n1 R1 => ?_⟩
    refine ⟨(by show 2 ≤ sizeLine; decide), fun t1 nt1 => ?_⟩
    have s2 := same_new nt1 (.tup [.int 1, .int 1])
    refine ⟨_, rfl, t1, r1, 1, rat p q ^ m, 1, 321, rfl, .inl (.inl upd_same), R1.same s2, b3, b1', by omega, fun r2 H2 s3 n3 R2 => ?_⟩
    have R1' := R1.same (s2.trans s3)
    have hS2 := Same.seqT (s1.trans (s2.trans s3)) hS
    have S2 := s1.trans (s2.trans s3)
    -- short
    refine ⟨_, rfl, wideN m, rfl, by omega, _, rfl, _, _, rfl, rfl, ?_⟩
    have es : ((2 ^ wideN m : Nat) : Int) - (m : Int) = ((shortN m : Nat) : Int) := by
      unfold shortN
      have := wide_le m
      omega
    -- rests
    have rest : ∀ (H3 : Hp) (r3 : Addr) (y : Rat), Same H2 H3 → RatAt K H3 r3 y → Bd y 970 → y = (if 0 < wideN m then (rat p q ^ shortN m - rat p q ^ m) / (1 - rat p q ^ m) else 0) →
        (tRet (tCall (sp_plus K) [] E0 (tCons (tCall (sp_plus K) [] E0 (tCons (tTup (tCons (tCB (fun xs H Q => ∃ i j, xs = [V.int i, V.int j] ∧ Q (V.int (if j > i then j else i)) H) (tCons (tC (.int 1)) (tCons (tVar 2) tNil))) (tCons (tC (.int 1)) tNil))) (tCons (tCall (sp_quotient K) [] E0 (tCons (tVar 3) (tCons (tVar 4) tNil))) tNil))) (tCons (tVar 6) tNil))))
          { nx := fun _ H' => Q .non H', rt := Q } [some (.int (m : Nat)), some (.ref a), some (.int (wideN m : Nat)), some (.ref r1), some (.ref r2), some (.int (shortN m : Nat)), some (.ref r3)] H3 := by
      intro H3 r3 y s4 R3 b5 ey
      refine ⟨_, rfl, _, _, rfl, (by show 2 ≤ sizeLine; decide), fun t4 nt4 => ?_⟩
      have s5 := same_new nt4 (.tup [.int (if (wideN m : Int) > 1 then (wideN m : Int) else 1), .int 1])
      have Rm : RatAt K (upd H3 t4 (.tup [.int (if (wideN m : Int) > 1 then (wideN m : Int) else 1), .int 1])) t4 ((if (wideN m : Int) > 1 then (wideN m : Int) else 1 : Int) : Rat) := .inl (.inl upd_same)
      have b6 : Bd ((if (wideN m : Int) > 1 then (wideN m : Int) else 1 : Int) : Rat) 3 := bd_small (by split <;> omega) (by decide)
      have bq := Bd.quot b1' b4 L0
      refine ⟨_, rfl, _, rfl, r1, r2, _, _, 321, 323, rfl, R1'.same (s4.trans s5), R2.same (s4.trans s5), b1', b4, by omega, L0, fun r5 H5 s6 n6 R5 => ?_⟩
      have ba := Bd.add b6 bq
      refine ⟨t4, r5, _, _, 3, 321 + 323, rfl, Rm.same s6, R5, b6, bq, by omega, fun r6 H6 s7 n7 R6 => ?_⟩
      refine ⟨_, rfl, r6, r3, _, _, 3 + (321 + 323) + 1, 970, rfl, R6, R3.same (s5.trans (s6.trans s7)), ba, b5, by omega, fun r7 H7 s8 n8 R7 => ?_⟩
      have bb := Bd.add ba b5
      rw [ey] at R7 bb
      have Sx := s4.trans (s5.trans (s6.trans s7))
      exact k r7 H7 (S2.trans (Sx.trans s8)) ((S2.trans Sx).free n8) R7 (bb.mono (by omega))
    refine ⟨_, rfl, _, _, rfl, rfl, _, rfl, ite2 (fun c => ?_) (fun c => ?_)⟩
    · have c' : 0 < wideN m := Int.ofNat_lt.mp (of_decide_eq_true c)
      refine ⟨_, rfl, _, rfl, a, p, q, shortN m, ?_, hS2, hr0, by omega, fun r3 H3 s4 n4 R3 => ?_⟩
      · show [V.ref a, V.int (((2 ^ wideN m : Nat) : Int) - (m : Int))] = _
        rw [es]
      refine ⟨_, rfl, r3, r1, _, _, 321, 321, rfl, R3, R1'.same s4, b2, b1', by omega, fun r4 H4 s5 n5 R4 => ?_⟩
      have b7 := Bd.sub b2 b1'
      refine ⟨_, rfl, r4, r2, _, _, 643, 323, rfl, R4, R2.same (s4.trans s5), b7, b4, by omega, L0, fun r5 H5 s6 n6 R5 => ?_⟩
      have := rest H5 r5 _ (s4.trans (s5.trans s6)) R5 ((Bd.quot b7 b4 L0).mono (by omega)) (by rw [if_pos c'])
      rw [← es] at this
      exact this
    · have c' : ¬ 0 < wideN m := fun z => c (decide_eq_true (Int.ofNat_lt.mpr z))
      refine ⟨(by show 2 ≤ sizeLine; decide), fun r5 n5 => ?_⟩
      have := rest (upd H2 r5 (.tup [.int 0, .int 1])) r5 0 (same_new n5 _) (.inl (.inl upd_same)) ⟨by decide, by decide⟩ (by rw [if_neg c'])
      rw [← es] at this
      exact this
end

abbrev s_best_by : Stmt := topS 22
theorem sc_best_by : FnScope ["ratio", "step", "over", "under"] ["ratio"] (defScope s_best_by) := ⟨rfl, rfl, rfl, by decide +kernel, rfl, by decide +kernel, by decide +kernel⟩
/-- s is the least step whose power and the next one are 1 together at most -/
def IsBest (x : Rat) (s : Nat) : Prop := 1 ≤ s ∧ FitsR x s ∧ ∀ t, 1 ≤ t → t < s → ¬ FitsR x t
theorem fits_int (p q s : Nat) (hq : 0 < q) : FitsR (rat p q) s ↔ p ^ s * (p + q) ≤ q ^ s * q := by
  have hQ : (0 : Rat) < ((q : Int) : Rat) := Rat.intCast_pos.mpr (by omega)
  unfold FitsR
  rw [← rat_pow p q hq s, ← rat_pow p q hq (s + 1), Rat.divInt_eq_div, Rat.divInt_eq_div]
  have e : (((p : Int) ^ s : Int) : Rat) / (((q : Int) ^ s : Int) : Rat) + (((p : Int) ^ (s + 1) : Int) : Rat) / (((q : Int) ^ (s + 1) : Int) : Rat) = ((((p ^ s * (p + q) : Nat) : Int)) : Rat) / ((((q ^ s * q : Nat) : Int)) : Rat) := by
    have h1 : (0 : Rat) < (((q : Int) ^ s : Int) : Rat) := Rat.intCast_pos.mpr (Int.pow_pos (by omega))
    have h2 := Rat.ne_of_gt h1
    have h3 := Rat.ne_of_gt hQ
    rw [Int.pow_succ, Int.pow_succ]
    rw [Int.natCast_mul, Int.natCast_mul, Int.natCast_add, Int.natCast_pow, Int.natCast_pow]
    simp only [Rat.intCast_mul, Rat.intCast_add]
    generalize (((p : Int) ^ s : Int) : Rat) = a at *
    generalize (((q : Int) ^ s : Int) : Rat) = b at *
    generalize ((p : Int) : Rat) = c at *
    generalize ((q : Int) : Rat) = d at *
    grind
  rw [e]
  have h4 : 0 < q ^ s * q := Nat.mul_pos (Nat.pow_pos hq) hq
  have h5 : (0 : Rat) < (((q ^ s * q : Nat) : Int) : Rat) := Rat.intCast_pos.mpr (by omega)
  constructor
  · intro z
    refine Nat.not_lt.mp fun c => ?_
    refine Rat.not_lt.mpr z ((Rat.lt_div_iff h5).mpr ?_)
    rw [Rat.one_mul]
    exact Rat.intCast_lt_intCast.mpr (by omega)
  · intro z
    refine Rat.not_lt.mp fun c => ?_
    have := (Rat.lt_div_iff h5).mp c
    rw [Rat.one_mul] at this
    have := Rat.intCast_lt_intCast.mp this
    omega
theorem fits30 (p q : Nat) (h : IsRat p q) : FitsR (rat p q) 30 := by
  have hq := h.q30
  have hpq := h.pq
  refine (fits_int p q 30 (by omega)).mpr ?_
  have all : ∀ q, q < 31 → ∀ p, p < q → p ^ 30 * (p + q) ≤ q ^ 30 * q := by decide +kernel
  exact all q (by omega) p hpq
theorem best_le {p q s : Nat} (h : IsRat p q) (hb : IsBest (rat p q) s) : s ≤ 30 := by
  refine Nat.not_lt.mp fun c => ?_
  exact hb.2.2 30 (by decide) c (fits30 p q h)
def sp_best_by (K : PySem.W.Frag) : Sp := fun vs H Q _ => ∃ (a : Addr) (p q : Nat), vs = [.ref a] ∧ SqT K H a [.int (p : Nat), .int (q : Nat)] ∧ IsRat p q ∧
  ∀ (s : Nat) (H' : Hp), IsBest (rat p q) s → s ≤ 30 → Same H H' → Q (.int (s : Nat)) H'
section
variable {P : Program} {w : World} {K : PySem.W.Frag} {mg : Str → Option Value} {base : Heap}
theorem ok_best_by (A : At K mg "best_by" s_best_by ["ratio"]) (B : Bn mg) : CalE P w K mg base "best_by" ["ratio"] 1 (sp_best_by K) := by
  obtain ⟨f, fd, F, gF, bF⟩ := A
  refine ⟨f, fd, F.ok sc_best_by (fun vs H Q E h => ?_) (fun cdv A outer s H vs Q E hr h => ?_), gF, F.kp, bF⟩
  · repeat (first | (obtain ⟨rfl, _⟩ := h; rfl) | (obtain ⟨_, h⟩ := h))
  · obtain ⟨a, p, q, rfl, hS, hr0, k⟩ := h
    have hp := hr0.p1
    have hpq := hr0.pq
    have hq := hr0.q30
    refine ⟨_, (pss_cons (ps_par3 (i := 1) (j := 2) (l := 3) (by rfl) sc_best_by.nd rfl rfl rfl (by decide) (by decide) (by decide) rfl rfl rfl (pa_cons pe_int (pa_cons (pe_ix (ix_tup_ K) (pv 0) pe_int (fun _ _ => rfl)) (pa_cons (pe_ix (ix_tup_ K) (pv 0) pe_int (fun _ _ => rfl)) pa_nil))) (by rfl))
      (pss_cons (ps_while PassesOwn.never (pt_cmpR op_gt (pe_op op_mul (pv 2) (pe_op op_add (pe_ix (ix_tup_ K) (pv 0) pe_int (fun _ _ => rfl)) (pe_ix (ix_tup_ K) (pv 0) pe_int (fun _ _ => rfl)))) (pe_op op_mul (pv 3) (pe_ix (ix_tup_ K) (pv 0) pe_int (fun _ _ => rfl))) (nomark _))
      (pss_one (ps_par3 (i := 1) (j := 2) (l := 3) (by rfl) sc_best_by.nd rfl rfl rfl (by decide) (by decide) (by decide) rfl rfl rfl (pa_cons (pe_op op_add (pv 1) pe_int) (pa_cons (pe_op op_mul (pv 2) (pe_ix (ix_tup_ K) (pv 0) pe_int (fun _ _ => rfl))) (pa_cons (pe_op op_mul (pv 3) (pe_ix (ix_tup_ K) (pv 0) pe_int (fun _ _ => rfl))) pa_nil))) (by rfl))))
      (pss_one (ps_ret (pv 1))))), ?_⟩
    -- step, over, under = 1, ratio[0], ratio[1]
    refine ⟨_, rfl, a, _, 0, _, rfl, rfl, hS, rfl, _, rfl, a, _, 1, _, rfl, rfl, hS, rfl, ?_⟩
    refine ⟨_, _, _, rfl, ?_⟩
    refine ⟨fun m σ H2 => ∃ s : Nat, m = 30 - s ∧ 1 ≤ s ∧ s ≤ 30 ∧ σ = [some (.ref a), some (.int (s : Nat)), some (.int ((p : Int) ^ s)), some (.int ((q : Int) ^ s))] ∧ (∀ t, 1 ≤ t → t < s → ¬ FitsR (rat p q) t) ∧ Same H H2, ⟨29, 1, rfl, by decide, by decide, ?_, fun t h1 h2 => by omega, Same.refl _⟩, ?_⟩
    · show [_, _, some (V.int (p : Int)), some (V.int (q : Int))] = _
      rw [Int.pow_succ, Int.pow_succ, Int.pow_zero, Int.pow_zero, Int.one_mul, Int.one_mul]
      rfl
    rintro m σ H2 ⟨s, rfl, s1, s2, rfl, hn, hs⟩
    have hS := Same.seqT hs hS
    refine ⟨_, rfl, _, rfl, a, _, 0, _, rfl, rfl, hS, rfl, _, rfl, a, _, 1, _, rfl, rfl, hS, rfl, _, _, rfl, rfl, _, _, rfl, rfl, .inr (by omega), _, rfl, _, rfl, a, _, 1, _, rfl, rfl, hS, rfl, _, _, rfl, rfl, .inr (by omega), _, _, rfl, rfl, _, rfl, ?_⟩
    have fi := fits_int p q s (by omega)
    have cz : (((q : Int) ^ s * (q : Int) < (p : Int) ^ s * ((p : Int) + (q : Int)))) ↔ ¬ FitsR (rat p q) s := by
      rw [fi, Nat.not_le]
      constructor
      · intro z
        exact_mod_cast z
      · intro z
        exact_mod_cast z
    refine ite2 (fun c => ?_) (fun c => ?_)
    · have nf := cz.mp (of_decide_eq_true c)
      have s30 : s ≠ 30 := fun z => by
        subst z
        exact nf (fits30 p q hr0)
      refine ⟨fun σ' H' => ∃ s' : Nat, s' = s + 1 ∧ σ' = [some (.ref a), some (.int (s' : Nat)), some (.int ((p : Int) ^ s')), some (.int ((q : Int) ^ s'))] ∧ Same H H', fun σ' H' ⟨s', e0, e1, e2⟩ => ⟨30 - s', by omega, s', rfl, by omega, by omega, e1, fun t h1 h2 => ?_, e2⟩, ?_⟩
      · by_cases ht : t = s
        · exact ht ▸ nf
        · exact hn t h1 (by omega)
      refine ⟨_, rfl, _, _, rfl, rfl, _, rfl, _, rfl, a, _, 0, _, rfl, rfl, hS, rfl, _, _, rfl, rfl, .inr (by omega), _, rfl, _, rfl, a, _, 1, _, rfl, rfl, hS, rfl, _, _, rfl, rfl, .inr (by omega), _, _, _, rfl, ?_⟩
      exact ⟨s + 1, rfl, rfl, hs⟩
    · have hf : FitsR (rat p q) s := by
        refine Classical.byContradiction fun z => c (decide_eq_true (cz.mpr z))
      exact ⟨_, rfl, k s H2 ⟨s1, hf, hn⟩ s2 hs⟩
end

abbrev s_loss_by : Stmt := topS 25
theorem sc_loss_by : FnScope ["step", "ratio"] ["step", "ratio"] (defScope s_loss_by) := ⟨rfl, rfl, rfl, by decide +kernel, rfl, by decide +kernel, by decide +kernel⟩
noncomputable def bestR (x : Rat) : Nat := open Classical in if h : ∃ s, IsBest x s then Classical.choose h else 0
theorem best_eq {x : Rat} {s : Nat} (h : IsBest x s) : bestR x = s := by
  have hx : ∃ s, IsBest x s := ⟨s, h⟩
  have e : bestR x = Classical.choose hx := by
    unfold bestR
    rw [dif_pos hx]
  rw [e]
  have h2 := Classical.choose_spec hx
  generalize Classical.choose hx = t at *
  rcases Nat.lt_trichotomy t s with c | c | c
  · exact absurd h2.2.1 (h.2.2 t h2.1 c)
  · exact c
  · exact absurd h.2.1 (h2.2.2 s h.1 c)
noncomputable def lossR (m : Nat) (x : Rat) : Rat := meanR m x - meanR (bestR x) x
def sp_loss_by (K : PySem.W.Frag) : Sp := fun vs H Q _ => ∃ (a : Addr) (m p q : Nat), vs = [.int (m : Nat), .ref a] ∧ SqT K H a [.int (p : Nat), .int (q : Nat)] ∧ IsRat p q ∧ 1 ≤ m ∧ m ≤ 64 ∧
  ∀ (r : Addr) (H' : Hp), Same H H' → H r = none → RatAt K H' r (lossR m (rat p q)) → Bd (lossR m (rat p q)) 3402 → Q (.ref r) H'
section
variable {P : Program} {w : World} {K : PySem.W.Frag} {mg : Str → Option Value} {base : Heap}
theorem ok_loss_by (A : At K mg "loss_by" s_loss_by ["step", "ratio"]) (B : Bn mg) (H_minus : CalE P w K mg base "minus" ["one", "two"] 3 (sp_minus K)) (H_mean_by : CalE P w K mg base "mean_by" ["step", "ratio"] 4 (sp_mean_by K)) (H_best_by : CalE P w K mg base "best_by" ["ratio"] 1 (sp_best_by K)) : CalE P w K mg base "loss_by" ["step", "ratio"] 5 (sp_loss_by K) := by
  obtain ⟨f, fd, F, gF, bF⟩ := A
  obtain ⟨f_minus, fd_minus, G_minus⟩ := H_minus
  obtain ⟨f_mean_by, fd_mean_by, G_mean_by⟩ := H_mean_by
  obtain ⟨f_best_by, fd_best_by, G_best_by⟩ := H_best_by
  refine ⟨f, fd, F.ok sc_loss_by (fun vs H Q E h => ?_) (fun cdv A outer s H vs Q E hr h => ?_), gF, F.kp, bF⟩
  · repeat (first | (obtain ⟨rfl, _⟩ := h; rfl) | (obtain ⟨_, h⟩ := h))
  · obtain ⟨a, m, p, q, rfl, hS, hr0, h1, h64, k⟩ := h
    refine ⟨_, (pss_one (ps_ret (pe_call G_minus.ok (hr.mono (by first | decide | exact Nat.le_refl _)) (by rfl) G_minus.g G_minus.kp G_minus.b .nil pass0 (pa_cons (pe_call G_mean_by.ok (hr.mono (by first | decide | exact Nat.le_refl _)) (by rfl) G_mean_by.g G_mean_by.kp G_mean_by.b .nil pass0 (pa_cons (pv 0) (pa_cons (pv 1) pa_nil))) (pa_cons (pe_call G_mean_by.ok (hr.mono (by first | decide | exact Nat.le_refl _)) (by rfl) G_mean_by.g G_mean_by.kp G_mean_by.b .nil pass0 (pa_cons (pe_call G_best_by.ok (hr.mono (by first | decide | exact Nat.le_refl _)) (by rfl) G_best_by.g G_best_by.kp G_best_by.b .nil pass0 (pa_cons (pv 1) pa_nil)) (pa_cons (pv 1) pa_nil))) pa_nil))))), ?_⟩
    refine ⟨_, rfl, _, rfl, a, m, p, q, rfl, hS, hr0, h1, h64, fun r1 H1 s1 n1 R1 B1 => ?_⟩
    refine ⟨_, rfl, a, p, q, rfl, Same.seqT s1 hS, hr0, fun s H2 hb s30 s2 => ?_⟩
    refine ⟨_, rfl, a, s, p, q, rfl, Same.seqT (s1.trans s2) hS, hr0, hb.1, by omega, fun r2 H3 s3 n3 R3 B3 => ?_⟩
    refine ⟨r1, r2, _, _, 1700, 1700, rfl, R1.same (s2.trans s3), R3, B1, B3, by omega, fun r H4 s4 n4 R4 => ?_⟩
    have e : meanR m (rat p q) - meanR s (rat p q) = lossR m (rat p q) := by
      unfold lossR
      rw [best_eq hb]
    rw [e] at R4
    have b := Bd.sub B1 B3
    rw [e] at b
    exact k r H4 (s1.trans (s2.trans (s3.trans s4))) ((s1.trans (s2.trans s3)).free n4) R4 (b.mono (by omega))
end

abbrev s_is_less : Stmt := topS 11
theorem sc_is_less : FnScope ["one", "two"] ["one", "two"] (defScope s_is_less) := ⟨rfl, rfl, rfl, by decide +kernel, rfl, by decide +kernel, by decide +kernel⟩
def sp_is_less (K : PySem.W.Frag) : Sp := fun vs H Q _ => ∃ (u v : Addr) (r s : Rat) (b c : Nat), vs = [.ref u, .ref v] ∧ RatAt K H u r ∧ RatAt K H v s ∧ Bd r b ∧ Bd s c ∧ b + c ≤ 8900 ∧ Q (.bl (decide (r < s))) H
section
variable {P : Program} {w : World} {K : PySem.W.Frag} {mg : Str → Option Value} {base : Heap}
theorem ok_is_less (A : At K mg "is_less" s_is_less ["one", "two"]) (B : Bn mg) : CalE P w K mg base "is_less" ["one", "two"] 1 (sp_is_less K) := by
  obtain ⟨f, fd, F, gF, bF⟩ := A
  refine ⟨f, fd, F.ok sc_is_less (fun vs H Q E h => ?_) (fun cdv A outer s H vs Q E hr h => ?_), gF, F.kp, bF⟩
  · repeat (first | (obtain ⟨rfl, _⟩ := h; rfl) | (obtain ⟨_, h⟩ := h))
  · obtain ⟨u, v, r, s, b, c, rfl, hu, hv, br, bs, hbc, k⟩ := h
    refine ⟨_, (pss_one (ps_ret (pe_cmpR op_lt (pe_op op_mulW (pe_ix (ix_tup_ K) (pv 0) pe_int (fun _ _ => rfl)) (pe_ix (ix_tup_ K) (pv 1) pe_int (fun _ _ => rfl))) (pe_op op_mulW (pe_ix (ix_tup_ K) (pv 1) pe_int (fun _ _ => rfl)) (pe_ix (ix_tup_ K) (pv 0) pe_int (fun _ _ => rfl))) (nomark _)))), ?_⟩
    have hu' := hu
    have hv' := hv
    unfold RatAt at hu' hv'
    refine ⟨_, rfl, u, _, 0, _, rfl, rfl, hu', rfl, _, rfl, v, _, 1, _, rfl, rfl, hv', rfl, _, _, rfl, rfl, bd_w br.1 (bd_den bs) (by omega), ?_⟩
    refine ⟨_, rfl, v, _, 0, _, rfl, rfl, hv', rfl, _, rfl, u, _, 1, _, rfl, rfl, hu', rfl, _, _, rfl, rfl, bd_w bs.1 (bd_den br) (by omega), _, _, rfl, rfl, ?_⟩
    show Q (.bl (decide _)) H
    rw [decide_eq_decide.mpr (lt_iff_int r s)]
    exact k
end

abbrev s_fair_step : Stmt := topS 26
theorem sc_fair_step : FnScope ["ratios", "index", "ratio", "best", "step", "worst", "one"] ["ratios"] (defScope s_fair_step) := ⟨rfl, rfl, rfl, by decide +kernel, rfl, by decide +kernel, by decide +kernel⟩
noncomputable def lossesR (rs : List (Addr × Nat × Nat)) (m : Nat) : Rat := worstR (lossR m) 0 (ratsOf rs)
def sp_fair_step (K : PySem.W.Frag) : Sp := fun vs H Q _ => ∃ (a : Addr) (rs : List (Addr × Nat × Nat)), vs = [.ref a] ∧ RatsAt K H a rs ∧ 1 ≤ rs.length ∧ rs.length ≤ 6 ∧
  ∀ (T W : Addr) (s : Nat) (w : Rat) (H' : Hp), Same H H' → H' T = some (.tup [.int (s : Nat), .ref W]) → RatAt K H' W w → fairF (lossesR rs) 64 = some (s, w) → Q (.ref T) H'
section
variable {P : Program} {w : World} {K : PySem.W.Frag} {mg : Str → Option Value} {base : Heap}
theorem ok_fair_step (A : At K mg "fair_step" s_fair_step ["ratios"]) (B : Bn mg) (H_is_ratio : CalE P w K mg base "is_ratio" ["thing"] 2 (sp_is_ratio K)) (H_loss_by : CalE P w K mg base "loss_by" ["step", "ratio"] 5 (sp_loss_by K)) (H_is_less : CalE P w K mg base "is_less" ["one", "two"] 1 (sp_is_less K)) (K_MOST_RATIOS : ∃ v, mg "MOST_RATIOS" = some v ∧ RelV (.int 6) v) (K_MOST_STEP : ∃ v, mg "MOST_STEP" = some v ∧ RelV (.int 64) v) : CalE P w K mg base "fair_step" ["ratios"] 6 (sp_fair_step K) := by
  obtain ⟨f, fd, F, gF, bF⟩ := A
  obtain ⟨f_is_ratio, fd_is_ratio, G_is_ratio⟩ := H_is_ratio
  obtain ⟨f_loss_by, fd_loss_by, G_loss_by⟩ := H_loss_by
  obtain ⟨f_is_less, fd_is_less, G_is_less⟩ := H_is_less
  obtain ⟨v_MOST_RATIOS, C_MOST_RATIOS⟩ := K_MOST_RATIOS
  obtain ⟨v_MOST_STEP, C_MOST_STEP⟩ := K_MOST_STEP
  refine ⟨f, fd, F.ok sc_fair_step (fun vs H Q E h => ?_) (fun cdv A outer s H vs Q E hr h => ?_), gF, F.kp, bF⟩
  · repeat (first | (obtain ⟨rfl, _⟩ := h; rfl) | (obtain ⟨_, h⟩ := h))
  · obtain ⟨a, rs, rfl, hR, hl1, hl6, k⟩ := h
    obtain ⟨_, rfl⟩ := C_MOST_RATIOS.2
    obtain ⟨_, rfl⟩ := C_MOST_STEP.2
    have hS := hR.seq
    have lm : (rs.map fun t => V.ref t.1).length = rs.length := List.length_map _
    have geti : ∀ {i : Nat} {x : V}, (rs.map fun t => V.ref t.1)[i]? = some x → ∃ t, rs[i]? = some t ∧ x = V.ref t.1 := by
      intro i x hx
      rw [List.getElem?_map] at hx
      cases e : rs[i]? with
      | none => rw [e] at hx; cases hx
      | some z => rw [e] at hx; exact ⟨z, rfl, (Option.some.inj hx).symm⟩
    refine ⟨_, (pss_cons (ps_if (PW.pt (pw_or (pt_not (pt_val (pe_callB (call_isi_ K) (by rfl) B.isinstance_ (by decide +kernel) (pa_cons (pv 0) (pa_cons (pe_bltn (v := .ty "tuple") (by rfl) B.tuple_ (by decide +kernel) rfl) pa_nil))))) (pw_or1 (pt_not (pt_chain op_le op_le pe_int (pe_callB (call_len_seq_ K) (by rfl) B.len_ (by decide +kernel) (pa_cons (pv 0) pa_nil)) (pe_glob (by rfl) C_MOST_RATIOS.1 C_MOST_RATIOS.2))))))
      (pss_one ps_never)
      pss_nil)
      (pss_cons (ps_for PassesOwn.never rfl (pi_enumT (by rfl) B.enumerate_ (pa_cons (pv 0) pa_nil)) (pg_tup (by rfl) (pgs_cons (pg_name (i := 1) sc_fair_step.nd rfl (.inl rfl)) (pgs_cons (pg_name (i := 2) sc_fair_step.nd rfl (.inl rfl)) pgs_nil)))
      (pss_one (ps_if (pt_not (pt_val (pe_call G_is_ratio.ok (hr.mono (by first | decide | exact Nat.le_refl _)) (by rfl) G_is_ratio.g G_is_ratio.kp G_is_ratio.b .nil pass0 (pa_cons (pv 2) pa_nil))))
      (pss_one ps_never)
      pss_nil)))
      (pss_cons (ps_set (i := 3) sc_fair_step.nd rfl (.inl rfl) pe_non)
      (pss_cons (ps_for PassesOwn.never rfl (pi_range2 (by rfl) B.range_ (pa_cons pe_int (pa_cons (pe_op op_add (pe_glob (by rfl) C_MOST_STEP.1 C_MOST_STEP.2) pe_int) pa_nil))) (pg_name (i := 4) sc_fair_step.nd rfl (.inl rfl))
      (pss_cons (ps_set (i := 5) sc_fair_step.nd rfl (.inl rfl) (pe_tup (pa_cons pe_int (pa_cons pe_int pa_nil))))
      (pss_cons (ps_for PassesOwn.never rfl (pi_tup (pv 0)) (pg_name (i := 2) sc_fair_step.nd rfl (.inl rfl))
      (pss_cons (ps_set (i := 6) sc_fair_step.nd rfl (.inl rfl) (pe_call G_loss_by.ok (hr.mono (by first | decide | exact Nat.le_refl _)) (by rfl) G_loss_by.g G_loss_by.kp G_loss_by.b .nil pass0 (pa_cons (pv 4) (pa_cons (pv 2) pa_nil))))
      (pss_one (ps_set (i := 5) sc_fair_step.nd rfl (.inl rfl) (pe_ifExp (pt_val (pe_call G_is_less.ok (hr.mono (by first | decide | exact Nat.le_refl _)) (by rfl) G_is_less.g G_is_less.kp G_is_less.b .nil pass0 (pa_cons (pv 5) (pa_cons (pv 6) pa_nil)))) (pv 6) (pv 5))))))
      (pss_one (ps_if (PW.pt (pw_or (pt_cmp (pc_isN (pv 3))) (pw_or1 (pt_val (pe_call G_is_less.ok (hr.mono (by first | decide | exact Nat.le_refl _)) (by rfl) G_is_less.g G_is_less.kp G_is_less.b .nil pass0 (pa_cons (pv 5) (pa_cons (pe_ix (ix_tup_ K) (pv 3) pe_int (fun _ _ => rfl)) pa_nil)))))))
      (pss_one (ps_set (i := 3) sc_fair_step.nd rfl (.inl rfl) (pe_tup (pa_cons (pv 4) (pa_cons (pv 5) pa_nil)))))
      pss_nil)))))
      (pss_one (ps_ret (pv 3))))))), ?_⟩
    refine ⟨_, rfl, _, _, _, _, true, rfl, .ty _, tyT hS, kit_ty (by decide +kernel), _, rfl, iteF ?_⟩
    refine ⟨_, rfl, a, _, rfl, .inr hS, _, _, rfl, rfl, _, rfl, iteDT (by rw [lm]; omega) ?_⟩
    refine ⟨_, _, rfl, rfl, _, rfl, iteNF (by rw [lm]; omega) ?_⟩
    refine ⟨_, rfl, a, _, rfl, hS, for_enumT (K := K) (a := a) (xs := rs.map fun t => V.ref t.1) (fun i σ H2 => ∃ v1 v2, σ = [some (.ref a), v1, v2, none, none, none, none] ∧ Same H H2) ⟨_, _, rfl, Same.refl _⟩ (fun i σ H2 _ ⟨_, _, _, s⟩ => Same.seqT s hS) ?_ ?_⟩
    · rintro i x σ H2 T hx ⟨v1, v2, rfl, s2⟩ nT
      obtain ⟨t, ht, rfl⟩ := geti hx
      obtain ⟨h1, h2⟩ := hR.each t (List.mem_of_getElem? ht)
      have s3 := s2.trans (same_new nT (.tup [.int (i : Nat), .ref t.1]))
      refine ⟨T, _, rfl, .inl (.inl upd_same), rfl, _, _, rfl, _, _, rfl, rfl, ?_⟩
      refine ⟨_, rfl, t.1, t.2.1, t.2.2, rfl, Same.seqT s3 h1, h2, ?_⟩
      exact ⟨_, rfl, iteF ⟨_, _, rfl, s3⟩⟩
    · rintro σ H2 ⟨v1, v2, rfl, s2⟩
      have k : ∀ (T W : Addr) (s : Nat) (w : Rat) (H' : Hp), Same H2 H' → H' T = some (.tup [.int (s : Nat), .ref W]) → RatAt K H' W w → fairF (lossesR rs) 64 = some (s, w) → Q (.ref T) H' := fun T W s w H' s' => k T W s w H' (s2.trans s')
      have hR := hR.same s2
      have hS := hR.seq
      generalize H2 = H at *
      refine ⟨_, _, rfl, rfl, _, _, rfl, ⟨by decide, by decide, by decide, by decide⟩, for_range (lo := 1) (n := 64) (fun i σ H3 => ∃ v1 v2 bv v4 v5 v6, σ = [some (.ref a), v1, v2, some bv, v4, v5, v6] ∧ Same H H3 ∧ BestAt K H3 (lossesR rs) i bv) ⟨_, _, _, _, _, _, rfl, Same.refl _, .inl ⟨rfl, rfl⟩⟩ ?_ ?_⟩
      · rintro i σ H3 hi ⟨v1, v2, bv, v4, v5, v6, rfl, s3, hb⟩
        have em : (1 : Int) + (i : Int) = ((i + 1 : Nat) : Int) := by omega
        refine ⟨(by show 2 ≤ sizeLine; decide), fun U nU => ?_⟩
        have s4 := same_new nU (.tup [.int 0, .int 1])
        have R0 : RatAt K (upd H3 U (.tup [.int 0, .int 1])) U 0 := .inl (.inl upd_same)
        have hb := hb.same s4
        have s3 := s3.trans s4
        generalize upd H3 U (.tup [.int 0, .int 1]) = H4 at *
        refine ⟨_, rfl, a, rfl, ⟨_, Same.seqT s3 hS⟩, for_tup (K := K) (a := a) (xs := rs.map fun t => V.ref t.1) (fun j σ H5 => ∃ v2 v6 U, σ = [some (.ref a), v1, v2, some bv, some (.int (1 + (i : Int))), some (.ref U), v6] ∧ Same H4 H5 ∧ RatAt K H5 U (worstR (lossR (i + 1)) 0 ((ratsOf rs).take j)) ∧ Bd (worstR (lossR (i + 1)) 0 ((ratsOf rs).take j)) 3402) ⟨_, _, U, rfl, Same.refl _, R0, bd_zero _ (by decide)⟩ (fun j σ H5 _ ⟨_, _, _, _, s5, _⟩ => Same.seqT (s3.trans s5) hS) ?_ ?_⟩
        · rintro j x σ H5 hx ⟨v2, v6, U, rfl, s5, R5, B5⟩
          obtain ⟨t, ht, rfl⟩ := geti hx
          obtain ⟨h1, h2⟩ := hR.each t (List.mem_of_getElem? ht)
          rw [take_rats ht, worst_snoc]
          refine ⟨_, rfl, _, rfl, t.1, i + 1, t.2.1, t.2.2, ?_, Same.seqT (s3.trans s5) h1, h2, by omega, by omega, fun r H6 s6 n6 R6 B6 => ?_⟩
          · show [V.int (1 + (i : Int)), V.ref t.1] = _
            rw [em]
          refine ⟨_, rfl, _, rfl, U, r, _, _, 3402, 3402, rfl, R5.same s6, R6, B5, B6, by omega, _, rfl, ite2 (fun c => ?_) (fun c => ?_)⟩
          · rw [if_pos (of_decide_eq_true c)]
            exact ⟨_, rfl, _, _, r, rfl, s5.trans s6, R6, B6⟩
          · rw [if_neg (fun z => c (decide_eq_true z))]
            exact ⟨_, rfl, _, _, U, rfl, s5.trans s6, R5.same s6, B5⟩
        · rintro σ H5 ⟨v2, v6, U, rfl, s5, R5, B5⟩
          rw [lm, List.take_of_length_le (by unfold ratsOf; rw [List.length_map]; exact Nat.le_refl _)] at R5 B5
          have hb := hb.same s5
          have s3 := s3.trans s5
          have fin : ∀ (T : Addr), H5 T = none → fairF (lossesR rs) (i + 1) = some (i + 1, lossesR rs (i + 1)) → Same H (upd H5 T (.tup [.int (1 + (i : Int)), .ref U])) ∧ BestAt K (upd H5 T (.tup [.int (1 + (i : Int)), .ref U])) (lossesR rs) (i + 1) (.ref T) := by
            intro T nT e
            refine ⟨s3.trans (same_new nT _), .inr ⟨i + 1, _, T, U, e, rfl, ?_, R5.same (same_new nT _), B5⟩⟩
            rw [upd_same, em]
          refine ⟨_, rfl, ?_⟩
          rcases hb with ⟨e, rfl⟩ | ⟨s0, w0, T0, W0, e, rfl, h0, R0, B0⟩
          · refine ⟨_, rfl, iteDT rfl ?_⟩
            refine ⟨_, rfl, _, rfl, (by show 2 ≤ sizeLine; decide), fun T nT => ?_⟩
            obtain ⟨a1, a2⟩ := fin T nT (fairF_none e)
            exact ⟨_, _, _, _, _, _, rfl, a1, a2⟩
          · refine ⟨_, rfl, iteDF (fun z => by cases z) ?_⟩
            refine ⟨_, rfl, _, rfl, T0, _, 1, _, rfl, rfl, .inl (.inl h0), rfl, U, W0, _, _, 3402, 3402, rfl, R5, R0, B5, B0, by omega, _, rfl, ite2 (fun c => ?_) (fun c => ?_)⟩
            · refine ⟨_, rfl, _, rfl, (by show 2 ≤ sizeLine; decide), fun T nT => ?_⟩
              obtain ⟨a1, a2⟩ := fin T nT (by rw [fairF_some e, if_pos (show lossesR rs (i + 1) < w0 from of_decide_eq_true c)])
              exact ⟨_, _, _, _, _, _, rfl, a1, a2⟩
            · exact ⟨_, _, _, _, _, _, rfl, s3, .inr ⟨s0, w0, T0, W0, by rw [fairF_some e, if_neg (show ¬ lossesR rs (i + 1) < w0 from fun z => c (decide_eq_true z))], rfl, h0, R0, B0⟩⟩
      · rintro σ H3 ⟨v1, v2, bv, v4, v5, v6, rfl, s3, hb⟩
        rcases hb with ⟨e, rfl⟩ | ⟨s0, w0, T0, W0, e, rfl, h0, R0, B0⟩
        · exfalso
          cases e' : fairF (lossesR rs) 63 with
          | none => rw [fairF_none e'] at e; cases e
          | some p =>
            rw [fairF_some (s := p.1) (b := p.2) e'] at e
            split at e <;> cases e
        · exact ⟨_, rfl, k T0 W0 s0 w0 H3 s3 h0 R0 e⟩
end

abbrev s__law_next : Stmt := topS 29
theorem sc__law_next : FnScope ["_law_h", "_law_cap", "_law_cell"] ["_law_h", "_law_cap"] (defScope s__law_next) := ⟨rfl, rfl, rfl, by decide +kernel, rfl, by decide +kernel, by decide +kernel⟩
def sp__law_next (K : PySem.W.Frag) : Sp := fun vs H Q _ => ∃ (h q : Addr) (cap : Int), vs = [.ref h, .int cap] ∧ LawH H h q ∧ 0 < cap ∧ cap < 2 ^ 300 ∧
  ∀ (k : Int) (H' : Hp), 0 ≤ k → k < cap → LawH H' h q → Sm h q H H' → Q (.int k) H'
theorem cap_wide {cap : Int} (h : 0 < cap) (h' : cap < 2 ^ 300) : CDivW z cap := wide_div (b := 300) h (by omega) (by decide) (by decide)
section
variable {P : Program} {w : World} {K : PySem.W.Frag} {mg : Str → Option Value} {base : Heap}
theorem ok__law_next (A : At K mg "_law_next" s__law_next ["_law_h", "_law_cap"]) (B : Bn mg) : CalE P w K mg base "_law_next" ["_law_h", "_law_cap"] 1 (sp__law_next K) := by
  obtain ⟨f, fd, F, gF, bF⟩ := A
  refine ⟨f, fd, F.ok sc__law_next (fun vs H Q E h => ?_) (fun cdv A outer s H vs Q E hr h => ?_), gF, F.kp, bF⟩
  · repeat (first | (obtain ⟨rfl, _⟩ := h; rfl) | (obtain ⟨_, h⟩ := h))
  · obtain ⟨h, q, cap, rfl, L, c0, c1, k⟩ := h
    refine ⟨_, (pss_cons (ps_set (i := 2) sc__law_next.nd rfl (.inl rfl) (pe_ix (ix_list_ K) (pe_op op_cat (pe_ix (ix_list_ K) (pv 0) pe_int (fun _ _ => rfl)) (pe_lst (pa_cons pe_int pa_nil))) (pe_op op_mod (pe_callTy call_int1 (by rfl) B.int_ (by decide +kernel) (pa_cons (pe_ix (ix_list_ K) (pv 0) pe_int (fun _ _ => rfl)) pa_nil)) (pe_callB (call_max2 rfl) (by rfl) B.max_ (by decide +kernel) (pa_cons pe_int (pa_cons (pe_callB (call_len_seq_ K) (by rfl) B.len_ (by decide +kernel) (pa_cons (pe_ix (ix_list_ K) (pv 0) pe_int (fun _ _ => rfl)) pa_nil)) pa_nil)))) (fun _ _ => rfl)))
      (pss_cons (ps_if (pt_cmpR op_ge (pv 2) (pe_op op_pow pe_int pe_int) (nomark _))
      (pss_cons (ps_asg (pe_op op_fdivW (pv 2) (pv 1)) (pg_sub (pe_ix (ix_list_ K) (pv 0) pe_int (fun _ _ => rfl)) (pe_op op_mod (pe_callTy call_int1 (by rfl) B.int_ (by decide +kernel) (pa_cons (pe_ix (ix_list_ K) (pv 0) pe_int (fun _ _ => rfl)) pa_nil)) (pe_callB (call_len_seq_ K) (by rfl) B.len_ (by decide +kernel) (pa_cons (pe_ix (ix_list_ K) (pv 0) pe_int (fun _ _ => rfl)) pa_nil))) set_list))
      (pss_one (ps_ret (pe_op op_mod (pe_callTy call_int1 (by rfl) B.int_ (by decide +kernel) (pa_cons (pv 2) pa_nil)) (pv 1)))))
      pss_nil)
      (pss_cons (ps_asg (pe_op op_mod (pe_callTy call_int1 (by rfl) B.int_ (by decide +kernel) (pa_cons (pe_op op_add (pe_op op_add (pe_op op_mul (pe_ix (ix_list_ K) (pv 0) pe_int (fun _ _ => rfl)) pe_int) (pe_op op_mul (pv 2) pe_int)) pe_int) pa_nil)) pe_int) (pg_sub (pv 0) pe_int set_list))
      (pss_cons (ps_asg (pe_op op_add (pe_ix (ix_list_ K) (pv 0) pe_int (fun _ _ => rfl)) pe_int) (pg_sub (pv 0) pe_int set_list))
      (pss_one (ps_ret (pe_op op_mod (pe_callTy call_int1 (by rfl) B.int_ (by decide +kernel) (pa_cons (pe_op op_fdiv (pe_ix (ix_list_ K) (pv 0) pe_int (fun _ _ => rfl)) pe_int) pa_nil)) (pv 1)))))))), ?_⟩
    obtain ⟨hne, st, ix, cells, eh, eq, hl⟩ := id L
    have sL : SqL K H h [.int st, .ref q, .int ix] := .inl (.inl eh)
    have sQ : SqL K H q (cells.map V.int) := .inl (.inl eq)
    have l3 : ([V.int 0] : List V).length ≤ sizeLine := by show 1 ≤ sizeLine; decide
    have lm : (cells.map V.int).length = cells.length := List.length_map _
    -- (h[1] + [0])[h[2] % max(1, len(h[1]))]
    refine ⟨_, rfl, h, _, 1, _, rfl, rfl, sL, rfl, l3, fun z nz => ?_⟩
    have s1 : Same H (upd H z (.lst [.int 0])) := same_new nz _
    have lq : (cells.map V.int).length + ([V.int 0] : List V).length ≤ sizeLine := by
      rw [lm]
      show cells.length + 1 ≤ sizeLine
      have := sizeLine_eq
      omega
    refine ⟨q, z, _, _, rfl, rfl, s1 _ _ eq, upd_same, lq, fun z2 nz2 => ?_⟩
    have s2 := s1.trans (same_new nz2 (.lst (cells.map V.int ++ [.int 0])))
    have e2 : (upd (upd H z (.lst [.int 0])) z2 (.lst (cells.map V.int ++ [.int 0]))) z2 = some (.lst (cells.map V.int ++ [.int 0])) := upd_same
    generalize upd (upd H z (.lst [.int 0])) z2 (.lst (cells.map V.int ++ [.int 0])) = H2 at *
    obtain ⟨m, em, hm⟩ : ∃ m : Int, (if ((cells.map V.int).length : Int) > 1 then ((cells.map V.int).length : Int) else 1) = m ∧ (0 < m ∧ m ≤ cells.length + 1 ∧ (cells = [] → m = 1) ∧ (cells ≠ [] → m = cells.length)) := by
      refine ⟨_, rfl, ?_⟩
      rw [lm]
      cases cells with
      | nil => simp
      | cons c r =>
        simp only [List.length_cons]
        split
        · exact ⟨by omega, by omega, (fun z => by cases z), fun _ => rfl⟩
        · exact ⟨by omega, by omega, (fun z => by cases z), fun _ => by omega⟩
    obtain ⟨m0, m1, m2, m3⟩ := hm
    have j0 : 0 ≤ ix % m := Int.emod_nonneg _ (by omega)
    have j1 : ix % m < m := Int.emod_lt_of_pos _ m0
    obtain ⟨j, ej⟩ : ∃ j : Nat, ix % m = (j : Int) := ⟨(ix % m).toNat, by omega⟩
    obtain ⟨c, ec, hc⟩ : ∃ c : Int, (cells.map V.int ++ [V.int 0])[j]? = some (.int c) ∧ (10 ^ 18 ≤ c → j < cells.length ∧ cells ≠ []) := by
      by_cases hj : j < cells.length
      · refine ⟨cells[j], ?_, fun _ => ⟨hj, fun z => by rw [z] at hj; cases hj⟩⟩
        rw [List.getElem?_append_left (by rw [lm]; exact hj), List.getElem?_map, List.getElem?_eq_getElem hj]
        rfl
      · have hn : j = cells.length := by
          by_cases hc : cells = []
          · have := m2 hc
            subst hc
            simp
            omega
          · have := m3 hc
            omega
        subst hn
        refine ⟨0, ?_, fun z => by omega⟩
        rw [List.getElem?_append_right (by rw [lm]; exact Nat.le_refl _), lm, Nat.sub_self]
        rfl
    refine ⟨_, rfl, h, _, 2, _, rfl, rfl, s2.seq sL, rfl, .inl ⟨ix, rfl, _, rfl, h, _, 1, _, rfl, rfl, s2.seq sL, rfl, q, _, rfl, .inl (s2.seq sQ), 1, _, rfl, ?_⟩⟩
    show rI (fun _ j => 0 < j) (fun i j => V.int (i % j)) (V.int ix) (.int (if ((cells.map V.int).length : Int) > 1 then ((cells.map V.int).length : Int) else 1)) H2 _
    rw [em]
    refine ⟨_, _, rfl, rfl, m0, z2, _, _, _, rfl, rfl, .inl (.inl e2), by rw [ej]; exact atI_nat ec, ?_⟩
    -- if _law_cell >= 10 ** 18
    refine ⟨_, rfl, _, _, rfl, rfl, ⟨by decide, by decide, by decide⟩, _, _, rfl, rfl, _, rfl, ?_⟩
    have h2 := s2.seq sL
    have q2 := s2.seq sQ
    have eh2 := s2 _ _ eh
    have eq2 := s2 _ _ eq
    refine ite2 (fun b => ?_) (fun b => ?_)
    · have b' : 10 ^ 18 ≤ c := of_decide_eq_true b
      obtain ⟨hj, hne0⟩ := hc b'
      have m4 := m3 hne0
      refine ⟨_, rfl, _, rfl, _, _, rfl, rfl, cap_wide c0 c1, ?_⟩
      refine ⟨_, rfl, h, _, 1, _, rfl, rfl, h2, rfl, _, rfl, h, _, 2, _, rfl, rfl, h2, rfl, .inl ⟨ix, rfl, _, rfl, h, _, 1, _, rfl, rfl, h2, rfl, q, _, rfl, .inl q2, _, _, rfl, rfl, ?_, ?_⟩⟩
      · show (0 : Int) < ((cells.map V.int).length : Int)
        rw [lm]
        omega
      refine ⟨q, _, _, j, rfl, rfl, eq2, ?_, ?_⟩
      · rw [lm, ← m4, ej]
        unfold ixN
        rw [if_pos (by omega), if_pos (by omega), Int.toNat_natCast]
      refine ⟨_, rfl, .inl ⟨_, rfl, _, rfl, _, _, rfl, rfl, c0, ?_⟩⟩
      refine k _ _ (Int.emod_nonneg _ (by omega)) (Int.emod_lt_of_pos _ c0) ⟨hne, st, ix, cells.set j (c / cap), by rw [upd_ne hne]; exact eh2, by rw [upd_same, List.map_set], by rw [List.length_set]; exact hl⟩ (fun b o e n1 n2 => ?_)
      rw [upd_ne n2]
      exact s2 _ _ e
    · refine ⟨_, rfl, h, _, 0, _, rfl, rfl, h2, rfl, _, _, rfl, rfl, .inr (by omega), _, rfl, _, _, rfl, rfl, .inr (by omega), _, _, rfl, rfl, _, _, rfl, rfl, .inl ⟨_, rfl, _, _, rfl, rfl, (by decide : (0 : Int) < 2147483647), ?_⟩⟩
      refine ⟨_, rfl, h, _, 0, 0, rfl, rfl, eh2, rfl, ?_⟩
      have e3 := @upd_same H2 h (.lst [.int ((st * 48271 + c * 69621 + 11) % 2147483647), .ref q, .int ix])
      refine ⟨_, rfl, h, _, 2, _, rfl, rfl, .inl (.inl e3), rfl, _, _, rfl, rfl, _, rfl, h, _, 2, 2, rfl, rfl, e3, rfl, ?_⟩
      refine ⟨_, rfl, h, _, 0, _, rfl, rfl, .inl (.inl upd_same), rfl, _, _, rfl, rfl, ⟨by decide, by decide⟩, .inl ⟨_, rfl, _, rfl, _, _, rfl, rfl, c0, ?_⟩⟩
      refine k _ _ (Int.emod_nonneg _ (by omega)) (Int.emod_lt_of_pos _ c0) ⟨hne, _, _, cells, upd_same, by rw [upd_ne hne.symm, upd_ne hne.symm]; exact eq2, hl⟩ (fun b o e n1 n2 => ?_)
      rw [upd_ne n1, upd_ne n1]
      exact s2 _ _ e
end

abbrev s__law_pick : Stmt := topS 31
theorem sc__law_pick : FnScope ["_law_h", "_law_things"] ["_law_h", "_law_things"] (defScope s__law_pick) := ⟨rfl, rfl, rfl, by decide +kernel, rfl, by decide +kernel, by decide +kernel⟩
def sp__law_pick (K : PySem.W.Frag) : Sp := fun vs H Q _ => ∃ (h q t : Addr) (xs : List V), vs = [.ref h, .ref t] ∧ LawH H h q ∧ SqL K H t xs ∧ t ≠ h ∧ t ≠ q ∧ xs ≠ [] ∧ xs.length ≤ 1000 ∧
  ∀ (k : Nat) (x : V) (H' : Hp), xs[k]? = some x → LawH H' h q → Sm h q H H' → Q x H'
theorem pickI {K : PySem.W.Frag} {H0 : Hp} {h q t : Addr} {xs : List V} {Q : VK} (L : LawH H0 h q) (nt : H0 t = none) (hx : xs ≠ []) (hl : xs.length ≤ 1000) (k : ∀ x ∈ xs, ∀ H', LawH H' h q → Sm h q H0 H' → Q x H') : sp__law_pick K [.ref h, .ref t] (upd H0 t (.lst xs)) Q E0 := by
  have s3 := same_new nt (.lst xs)
  obtain ⟨hne, st, ix, cells, eh, eq, _⟩ := id L
  exact ⟨h, q, t, _, rfl, L.same s3, .inl (.inl upd_same), ne_new eh nt, ne_new eq nt, hx, hl, fun j x H3 ex L3 S3 => k x (List.mem_of_getElem? ex) H3 L3 (Sm.trans (Sm.of s3) S3)⟩
section
variable {P : Program} {w : World} {K : PySem.W.Frag} {mg : Str → Option Value} {base : Heap}
theorem ok__law_pick (A : At K mg "_law_pick" s__law_pick ["_law_h", "_law_things"]) (B : Bn mg) (H__law_next : CalE P w K mg base "_law_next" ["_law_h", "_law_cap"] 1 (sp__law_next K)) : CalE P w K mg base "_law_pick" ["_law_h", "_law_things"] 2 (sp__law_pick K) := by
  obtain ⟨f, fd, F, gF, bF⟩ := A
  obtain ⟨f__law_next, fd__law_next, G__law_next⟩ := H__law_next
  refine ⟨f, fd, F.ok sc__law_pick (fun vs H Q E h => ?_) (fun cdv A outer s H vs Q E hr h => ?_), gF, F.kp, bF⟩
  · repeat (first | (obtain ⟨rfl, _⟩ := h; rfl) | (obtain ⟨_, h⟩ := h))
  · obtain ⟨h, q, t, xs, rfl, L, hS, n1, n2, hx, hl, k⟩ := h
    have hp : 0 < xs.length := List.length_pos_iff.mpr hx
    refine ⟨_, (pss_one (ps_ret (pe_ix (ix_list_ K) (pv 1) (pe_call G__law_next.ok (hr.mono (by first | decide | exact Nat.le_refl _)) (by rfl) G__law_next.g G__law_next.kp G__law_next.b .nil pass0 (pa_cons (pv 0) (pa_cons (pe_callB (call_len_seq_ K) (by rfl) B.len_ (by decide +kernel) (pa_cons (pv 1) pa_nil)) pa_nil))) (fun _ _ => rfl)))), ?_⟩
    refine ⟨_, rfl, _, rfl, _, rfl, t, xs, rfl, .inl hS, h, q, _, rfl, L, by omega, by omega, fun j H' j0 j1 L' S' => ?_⟩
    obtain ⟨i, rfl⟩ : ∃ i : Nat, j = (i : Int) := ⟨j.toNat, by omega⟩
    have hi : i < xs.length := by omega
    have ex : xs[i]? = some xs[i] := List.getElem?_eq_getElem hi
    exact ⟨t, xs, _, _, rfl, rfl, S'.seq n1 n2 hS, atI_nat ex, k i _ H' ex L' S'⟩
end

abbrev s__law_ratio : Stmt := topS 36
theorem sc__law_ratio : FnScope ["_law_h", "_law_q"] ["_law_h"] (defScope s__law_ratio) := ⟨rfl, rfl, rfl, by decide +kernel, rfl, by decide +kernel, by decide +kernel⟩
def sp__law_ratio (K : PySem.W.Frag) : Sp := fun vs H Q _ => ∃ (h q : Addr), vs = [.ref h] ∧ LawH H h q ∧
  ∀ (r : Addr) (x y : Nat) (H' : Hp), IsRat x y → LawH H' h q → Sm h q H H' → H' r = some (.tup [.int (x : Nat), .int (y : Nat)]) → Q (.ref r) H'
section
variable {P : Program} {w : World} {K : PySem.W.Frag} {mg : Str → Option Value} {base : Heap}
theorem ok__law_ratio (A : At K mg "_law_ratio" s__law_ratio ["_law_h"]) (B : Bn mg) (H__law_next : CalE P w K mg base "_law_next" ["_law_h", "_law_cap"] 1 (sp__law_next K)) (H__law_pick : CalE P w K mg base "_law_pick" ["_law_h", "_law_things"] 2 (sp__law_pick K)) : CalE P w K mg base "_law_ratio" ["_law_h"] 3 (sp__law_ratio K) := by
  obtain ⟨f, fd, F, gF, bF⟩ := A
  obtain ⟨f__law_next, fd__law_next, G__law_next⟩ := H__law_next
  obtain ⟨f__law_pick, fd__law_pick, G__law_pick⟩ := H__law_pick
  refine ⟨f, fd, F.ok sc__law_ratio (fun vs H Q E h => ?_) (fun cdv A outer s H vs Q E hr h => ?_), gF, F.kp, bF⟩
  · repeat (first | (obtain ⟨rfl, _⟩ := h; rfl) | (obtain ⟨_, h⟩ := h))
  · obtain ⟨h, q, rfl, L, k⟩ := h
    refine ⟨_, (pss_cons (ps_set (i := 1) sc__law_ratio.nd rfl (.inl rfl) (pe_op op_add pe_int (pe_call G__law_next.ok (hr.mono (by first | decide | exact Nat.le_refl _)) (by rfl) G__law_next.g G__law_next.kp G__law_next.b .nil pass0 (pa_cons (pv 0) (pa_cons (pe_call G__law_pick.ok (hr.mono (by first | decide | exact Nat.le_refl _)) (by rfl) G__law_pick.g G__law_pick.kp G__law_pick.b .nil pass0 (pa_cons (pv 0) (pa_cons (pe_lst (pa_cons pe_int (pa_cons pe_int (pa_cons pe_int pa_nil)))) pa_nil))) pa_nil)))))
      (pss_one (ps_ret (pe_ifExp (pt_cmpR op_eq (pe_call G__law_next.ok (hr.mono (by first | decide | exact Nat.le_refl _)) (by rfl) G__law_next.g G__law_next.kp G__law_next.b .nil pass0 (pa_cons (pv 0) (pa_cons pe_int pa_nil))) pe_int (nomark _)) (pe_tup (pa_cons (pe_op op_add pe_int (pe_call G__law_next.ok (hr.mono (by first | decide | exact Nat.le_refl _)) (by rfl) G__law_next.g G__law_next.kp G__law_next.b .nil pass0 (pa_cons (pv 0) (pa_cons (pe_op op_sub (pv 1) pe_int) pa_nil)))) (pa_cons (pv 1) pa_nil))) (pe_tup (pa_cons (pe_op op_sub (pv 1) pe_int) (pa_cons (pv 1) pa_nil))))))), ?_⟩
    refine ⟨_, rfl, _, rfl, (by show 3 ≤ sizeLine; decide), fun t nt => pickI L nt (fun z => by cases z) (by show 3 ≤ 1000; decide) fun x hx H1 L1 S1 => ?_⟩
    obtain ⟨c, rfl, c0, c1⟩ : ∃ c : Int, x = .int c ∧ 2 ≤ c ∧ c ≤ 29 := by
      simp only [List.mem_cons, List.not_mem_nil, or_false] at hx
      rcases hx with rfl | rfl | rfl <;> exact ⟨_, rfl, by decide, by decide⟩
    refine ⟨h, q, c, rfl, L1, by omega, by omega, fun z H2 z0 z1 L2 S2 => ?_⟩
    obtain ⟨y, rfl⟩ : ∃ y : Nat, z = (y : Int) := ⟨z.toNat, by omega⟩
    refine ⟨_, _, rfl, rfl, ?_⟩
    -- next(h, 2) == 0
    refine ⟨_, rfl, h, q, 2, rfl, L2, by decide, by decide, fun u H3 u0 u1 L3 S3 => ?_⟩
    have ey : (2 + (y : Int)) = ((2 + y : Nat) : Int) := by omega
    refine ⟨rfl, _, rfl, ite2 (fun _ => ?_) (fun _ => ?_)⟩
    · refine ⟨_, rfl, _, rfl, _, _, rfl, rfl, h, q, _, rfl, L3, by omega, by omega, fun v H4 v0 v1 L4 S4 => ?_⟩
      obtain ⟨p, rfl⟩ : ∃ p : Nat, v = (p : Int) := ⟨v.toNat, by omega⟩
      refine ⟨_, _, rfl, rfl, _, rfl, (by show 2 ≤ sizeLine; decide), fun r nr => ?_⟩
      have s5 := same_new nr (.tup [.int (1 + (p : Int)), .int (2 + (y : Int))])
      refine k r (1 + p) (2 + y) _ ⟨by omega, by omega, by omega⟩ (L4.same s5) (S1.trans (S2.trans (S3.trans (S4.trans (Sm.of s5))))) ?_
      rw [upd_same]
      show some (HO.tup [V.int (1 + (p : Int)), V.int (2 + (y : Int))]) = _
      rw [ey, show (1 + (p : Int)) = ((1 + p : Nat) : Int) by omega]
    · refine ⟨_, rfl, _, _, rfl, rfl, _, rfl, (by show 2 ≤ sizeLine; decide), fun r nr => ?_⟩
      have s5 := same_new nr (.tup [.int (2 + (y : Int) - 1), .int (2 + (y : Int))])
      refine k r (1 + y) (2 + y) _ ⟨by omega, by omega, by omega⟩ (L3.same s5) (S1.trans (S2.trans (S3.trans (Sm.of s5)))) ?_
      rw [upd_same]
      show some (HO.tup [V.int (2 + (y : Int) - 1), V.int (2 + (y : Int))]) = _
      rw [ey, show (((2 + y : Nat) : Int) - 1) = ((1 + y : Nat) : Int) by omega]
end

abbrev s_check_ratio : Stmt := topS 20
theorem sc_check_ratio : FnScope ["thing"] ["thing"] (defScope s_check_ratio) := ⟨rfl, rfl, rfl, by decide +kernel, rfl, by decide +kernel, by decide +kernel⟩
def sp_check_ratio (K : PySem.W.Frag) : Sp := fun vs H Q _ => ∃ (a : Addr) (p q : Nat), vs = [.ref a] ∧ SqT K H a [.int (p : Nat), .int (q : Nat)] ∧ IsRat p q ∧ Q .non H
section
variable {P : Program} {w : World} {K : PySem.W.Frag} {mg : Str → Option Value} {base : Heap}
theorem ok_check_ratio (A : At K mg "check_ratio" s_check_ratio ["thing"]) (B : Bn mg) (H_is_ratio : CalE P w K mg base "is_ratio" ["thing"] 2 (sp_is_ratio K)) : CalE P w K mg base "check_ratio" ["thing"] 3 (sp_check_ratio K) := by
  obtain ⟨f, fd, F, gF, bF⟩ := A
  obtain ⟨f_is_ratio, fd_is_ratio, G_is_ratio⟩ := H_is_ratio
  refine ⟨f, fd, F.ok sc_check_ratio (fun vs H Q E h => ?_) (fun cdv A outer s H vs Q E hr h => ?_), gF, F.kp, bF⟩
  · repeat (first | (obtain ⟨rfl, _⟩ := h; rfl) | (obtain ⟨_, h⟩ := h))
  · obtain ⟨a, p, q, rfl, hS, hr0, k⟩ := h
    refine ⟨_, (pss_one (ps_if (pt_not (pt_val (pe_call G_is_ratio.ok (hr.mono (by first | decide | exact Nat.le_refl _)) (by rfl) G_is_ratio.g G_is_ratio.kp G_is_ratio.b .nil pass0 (pa_cons (pv 0) pa_nil))))
      (pss_one ps_never)
      pss_nil)), ?_⟩
    exact ⟨_, rfl, a, p, q, rfl, hS, hr0, _, rfl, iteF k⟩
end

abbrev s_best_step : Stmt := topS 23
theorem sc_best_step : FnScope ["ratio"] ["ratio"] (defScope s_best_step) := ⟨rfl, rfl, rfl, by decide +kernel, rfl, by decide +kernel, by decide +kernel⟩
def sp_best_step (K : PySem.W.Frag) : Sp := sp_best_by K
section
variable {P : Program} {w : World} {K : PySem.W.Frag} {mg : Str → Option Value} {base : Heap}
theorem ok_best_step (A : At K mg "best_step" s_best_step ["ratio"]) (B : Bn mg) (H_check_ratio : CalE P w K mg base "check_ratio" ["thing"] 3 (sp_check_ratio K)) (H_best_by : CalE P w K mg base "best_by" ["ratio"] 1 (sp_best_by K)) : CalE P w K mg base "best_step" ["ratio"] 4 (sp_best_step K) := by
  obtain ⟨f, fd, F, gF, bF⟩ := A
  obtain ⟨f_check_ratio, fd_check_ratio, G_check_ratio⟩ := H_check_ratio
  obtain ⟨f_best_by, fd_best_by, G_best_by⟩ := H_best_by
  refine ⟨f, fd, F.ok sc_best_step (fun vs H Q E h => ?_) (fun cdv A outer s H vs Q E hr h => ?_), gF, F.kp, bF⟩
  · repeat (first | (obtain ⟨rfl, _⟩ := h; rfl) | (obtain ⟨_, h⟩ := h))
  · obtain ⟨a, p, q, rfl, hS, hr0, k⟩ := h
    refine ⟨_, (pss_cons (ps_expr (pe_call G_check_ratio.ok (hr.mono (by first | decide | exact Nat.le_refl _)) (by rfl) G_check_ratio.g G_check_ratio.kp G_check_ratio.b .nil pass0 (pa_cons (pv 0) pa_nil)))
      (pss_one (ps_ret (pe_call G_best_by.ok (hr.mono (by first | decide | exact Nat.le_refl _)) (by rfl) G_best_by.g G_best_by.kp G_best_by.b .nil pass0 (pa_cons (pv 0) pa_nil))))), ?_⟩
    exact ⟨_, rfl, a, p, q, rfl, hS, hr0, _, rfl, a, p, q, rfl, hS, hr0, k⟩
end

abbrev s__law_less : Stmt := topS 39
theorem sc__law_less : FnScope ["_law_one", "_law_other"] ["_law_one", "_law_other"] (defScope s__law_less) := ⟨rfl, rfl, rfl, by decide +kernel, rfl, by decide +kernel, by decide +kernel⟩
def sp__law_less (K : PySem.W.Frag) : Sp := fun vs H Q _ => ∃ (u v : Addr) (r s : Rat) (b c : Nat), vs = [.ref u, .ref v] ∧ RatAt K H u r ∧ RatAt K H v s ∧ Bd r b ∧ Bd s c ∧ b + c ≤ 8900 ∧
  ∀ (p : Addr) (H' : Hp), Same H H' → H p = none → RatAt K H' p (r - s) → Q (.ref p) H'
section
variable {P : Program} {w : World} {K : PySem.W.Frag} {mg : Str → Option Value} {base : Heap}
theorem ok__law_less (A : At K mg "_law_less" s__law_less ["_law_one", "_law_other"]) (B : Bn mg) (H__law_frac : CalE P w K mg base "_law_frac" ["_law_number", "_law_parts"] 1 (sp__law_frac K)) : CalE P w K mg base "_law_less" ["_law_one", "_law_other"] 2 (sp__law_less K) := by
  obtain ⟨f, fd, F, gF, bF⟩ := A
  obtain ⟨f__law_frac, fd__law_frac, G__law_frac⟩ := H__law_frac
  refine ⟨f, fd, F.ok sc__law_less (fun vs H Q E h => ?_) (fun cdv A outer s H vs Q E hr h => ?_), gF, F.kp, bF⟩
  · repeat (first | (obtain ⟨rfl, _⟩ := h; rfl) | (obtain ⟨_, h⟩ := h))
  · obtain ⟨u, v, r, s, b, c, rfl, hu, hv, br, bs, hbc, k⟩ := h
    refine ⟨_, (pss_one (ps_ret (pe_call G__law_frac.ok (hr.mono (by first | decide | exact Nat.le_refl _)) (by rfl) G__law_frac.g G__law_frac.kp G__law_frac.b .nil pass0 (pa_cons (pe_op op_sub (pe_op op_mulW (pe_ix (ix_tup_ K) (pv 0) pe_int (fun _ _ => rfl)) (pe_ix (ix_tup_ K) (pv 1) pe_int (fun _ _ => rfl))) (pe_op op_mulW (pe_ix (ix_tup_ K) (pv 1) pe_int (fun _ _ => rfl)) (pe_ix (ix_tup_ K) (pv 0) pe_int (fun _ _ => rfl)))) (pa_cons (pe_op op_mulW (pe_ix (ix_tup_ K) (pv 0) pe_int (fun _ _ => rfl)) (pe_ix (ix_tup_ K) (pv 1) pe_int (fun _ _ => rfl))) pa_nil))))), ?_⟩
    have hu' := hu
    have hv' := hv
    unfold RatAt at hu' hv'
    refine ⟨_, rfl, u, _, 0, _, rfl, rfl, hu', rfl, _, rfl, v, _, 1, _, rfl, rfl, hv', rfl, _, _, rfl, rfl, bd_w br.1 (bd_den bs) (by omega), ?_⟩
    refine ⟨_, rfl, v, _, 0, _, rfl, rfl, hv', rfl, _, rfl, u, _, 1, _, rfl, rfl, hu', rfl, _, _, rfl, rfl, bd_w bs.1 (bd_den br) (by omega), _, _, rfl, rfl, ?_⟩
    refine ⟨_, rfl, u, _, 1, _, rfl, rfl, hu', rfl, _, rfl, v, _, 1, _, rfl, rfl, hv', rfl, _, _, rfl, rfl, bd_w (bd_den br) (bd_den bs) (by omega), ?_⟩
    refine ⟨_, _, b + c, rfl, Int.mul_pos (den_pos r) (den_pos s), bd_mul (bd_den br) (bd_den bs), hbc, fun p H' sm np hp => k p H' sm np ?_⟩
    rw [rat_sub] at hp
    exact hp
end

abbrev s__law_most : Stmt := topS 33
theorem sc__law_most : FnScope ["_law_one", "_law_two"] ["_law_one", "_law_two"] (defScope s__law_most) := ⟨rfl, rfl, rfl, by decide +kernel, rfl, by decide +kernel, by decide +kernel⟩
def sp__law_most (K : PySem.W.Frag) : Sp := fun vs H Q _ => ∃ (u v : Addr) (r s : Rat) (b c : Nat), vs = [.ref u, .ref v] ∧ RatAt K H u r ∧ RatAt K H v s ∧ Bd r b ∧ Bd s c ∧ b + c ≤ 8900 ∧ Q (.bl (decide (r ≤ s))) H
section
variable {P : Program} {w : World} {K : PySem.W.Frag} {mg : Str → Option Value} {base : Heap}
theorem ok__law_most (A : At K mg "_law_most" s__law_most ["_law_one", "_law_two"]) (B : Bn mg) : CalE P w K mg base "_law_most" ["_law_one", "_law_two"] 1 (sp__law_most K) := by
  obtain ⟨f, fd, F, gF, bF⟩ := A
  refine ⟨f, fd, F.ok sc__law_most (fun vs H Q E h => ?_) (fun cdv A outer s H vs Q E hr h => ?_), gF, F.kp, bF⟩
  · repeat (first | (obtain ⟨rfl, _⟩ := h; rfl) | (obtain ⟨_, h⟩ := h))
  · obtain ⟨u, v, r, s, b, c, rfl, hu, hv, br, bs, hbc, k⟩ := h
    refine ⟨_, (pss_one (ps_ret (pe_cmpR op_le (pe_op op_mulW (pe_ix (ix_tup_ K) (pv 0) pe_int (fun _ _ => rfl)) (pe_ix (ix_tup_ K) (pv 1) pe_int (fun _ _ => rfl))) (pe_op op_mulW (pe_ix (ix_tup_ K) (pv 1) pe_int (fun _ _ => rfl)) (pe_ix (ix_tup_ K) (pv 0) pe_int (fun _ _ => rfl))) (nomark _)))), ?_⟩
    have hu' := hu
    have hv' := hv
    unfold RatAt at hu' hv'
    refine ⟨_, rfl, u, _, 0, _, rfl, rfl, hu', rfl, _, rfl, v, _, 1, _, rfl, rfl, hv', rfl, _, _, rfl, rfl, bd_w br.1 (bd_den bs) (by omega), ?_⟩
    refine ⟨_, rfl, v, _, 0, _, rfl, rfl, hv', rfl, _, rfl, u, _, 1, _, rfl, rfl, hu', rfl, _, _, rfl, rfl, bd_w bs.1 (bd_den br) (by omega), _, _, rfl, rfl, ?_⟩
    show Q (.bl (decide _)) H
    rw [decide_eq_decide.mpr (le_iff_int r s)]
    exact k
end

abbrev s_law : Stmt := topS 40
theorem sc_law : FnScope ["_law_script", "_law_h", "_law_ratios", "_law_least", "_law_best", "_law_chosen", "_law_step", "_law_worst", "_law_at", "_law_loss", "_law_k", "_law_ratio_here"] ["_law_script"] (defScope s_law) := ⟨rfl, rfl, rfl, by decide +kernel, rfl, by decide +kernel, by decide +kernel⟩
def sp_law (K : PySem.W.Frag) : Sp := fun vs H Q _ => ∃ (a : Addr) (ns : List Int), vs = [.ref a] ∧ SqL K H a (ns.map V.int) ∧ ns.length ≤ 63 ∧ ∀ H', Q (.bl true) H'
def LawBest (K : PySem.W.Frag) (H : Hp) (g : Nat → Rat) (i : Nat) (bv cv : V) : Prop :=
  (fairF g i = none ∧ bv = .non) ∨ ∃ (s : Nat) (w : Rat) (W : Addr), fairF g i = some (s, w) ∧ bv = .ref W ∧ cv = .int (s : Nat) ∧ RatAt K H W w ∧ Bd w 3402
theorem LawBest.same {K : PySem.W.Frag} {H H' : Hp} {g : Nat → Rat} {i : Nat} {bv cv : V} (s : Same H H') (h : LawBest K H g i bv cv) : LawBest K H' g i bv cv := by
  rcases h with h | ⟨st, w, W, a, b, c, d, e⟩
  · exact .inl h
  · exact .inr ⟨st, w, W, a, b, c, d.same s, e⟩
theorem dp_fair {K : PySem.W.Frag} {H : Hp} {T W : Addr} {s : Nat} {w : Rat} (h : SqT K H T [.int (s : Nat), .ref W]) (R : RatAt K H W w) : Dp K H (.ref T) (.tuple [.int (s : Nat), .tuple [.int w.num, .int (w.den : Int)]]) :=
  .tup h (.cons (.int _) (.cons (.tup R (.cons (.int _) (.cons (.int _) .nil))) .nil))
theorem ok_fair (n : Nat) (x y z : Int) : OkD (n + 2) (.tuple [.int x, .tuple [.int y, .int z]]) := ⟨(by show 2 ≤ 1000000; decide), fun d hd => by
  simp only [List.mem_cons, List.not_mem_nil, or_false] at hd
  rcases hd with rfl | rfl
  · trivial
  · exact ⟨(by show 2 ≤ 1000000; decide), fun d hd => by
      simp only [List.mem_cons, List.not_mem_nil, or_false] at hd
      rcases hd with rfl | rfl <;> (cases n <;> trivial)⟩⟩
section
variable {P : Program} {w : World} {K : PySem.W.Frag} {mg : Str → Option Value} {base : Heap}
theorem ok_law {f : Addr} {fd : FuncData} (F : Fun K "law" "law" s_law f fd) (B : Bn mg) (H__law_mix : CalE P w K mg base "_law_mix" ["_law_script", "_law_seed"] 1 (sp__law_mix K)) (H__law_pick : CalE P w K mg base "_law_pick" ["_law_h", "_law_things"] 2 (sp__law_pick K)) (H__law_ratio : CalE P w K mg base "_law_ratio" ["_law_h"] 3 (sp__law_ratio K)) (H__law_mean : CalE P w K mg base "_law_mean" ["_law_step", "_law_ratio_here"] 3 (sp__law_mean K)) (H_best_step : CalE P w K mg base "best_step" ["ratio"] 4 (sp_best_step K)) (H__law_less : CalE P w K mg base "_law_less" ["_law_one", "_law_other"] 2 (sp__law_less K)) (H__law_most : CalE P w K mg base "_law_most" ["_law_one", "_law_two"] 1 (sp__law_most K)) (H__law_alike : CalE P w K mg base "_law_alike" ["_law_found", "_law_due"] 5 (sp__law_alike K)) (H_fair_step : CalE P w K mg base "fair_step" ["ratios"] 6 (sp_fair_step K)) : FnOk P w K mg base CX0 7 f fd ["_law_script"] (sp_law K) := by
  obtain ⟨f__law_mix, fd__law_mix, G__law_mix⟩ := H__law_mix
  obtain ⟨f__law_pick, fd__law_pick, G__law_pick⟩ := H__law_pick
  obtain ⟨f__law_ratio, fd__law_ratio, G__law_ratio⟩ := H__law_ratio
  obtain ⟨f__law_mean, fd__law_mean, G__law_mean⟩ := H__law_mean
  obtain ⟨f_best_step, fd_best_step, G_best_step⟩ := H_best_step
  obtain ⟨f__law_less, fd__law_less, G__law_less⟩ := H__law_less
  obtain ⟨f__law_most, fd__law_most, G__law_most⟩ := H__law_most
  obtain ⟨f__law_alike, fd__law_alike, G__law_alike⟩ := H__law_alike
  obtain ⟨f_fair_step, fd_fair_step, G_fair_step⟩ := H_fair_step
  refine F.ok sc_law (fun vs H Q E h => ?_) (fun cdv A outer s H vs Q E hr h => ?_)
  · obtain ⟨a, ns, rfl, _⟩ := h
    rfl
  obtain ⟨a, ns, rfl, hS, hlen, k⟩ := h
  have hsz := sizeLine_eq
  refine ⟨_, (pss_cons (ps_set (i := 1) sc_law.nd rfl (.inr rfl) (pe_call G__law_mix.ok (hr.mono (by first | decide | exact Nat.le_refl _)) (by rfl) G__law_mix.g G__law_mix.kp G__law_mix.b .nil pass0 (pa_cons (pv 0) (pa_cons pe_int pa_nil))))
      (pss_cons (ps_set (i := 2) sc_law.nd rfl (.inl rfl) (pe_callTy (call_tuple_of_ K) (by rfl) B.tuple_ (by decide +kernel) (pa_cons (pe_lc (own := [("_law_k", 10)]) (g := gName 10) (tt := tYes) rfl sc_law.nd (pi_range1 (by rfl) B.range_ (pa_cons (pe_call G__law_pick.ok (hr.mono (by first | decide | exact Nat.le_refl _)) (by rfl) G__law_pick.g G__law_pick.kp G__law_pick.b .nil pass0 (pa_cons (pv 1) (pa_cons (pe_lst (pa_cons pe_int (pa_cons pe_int (pa_cons pe_int (pa_cons pe_int (pa_cons pe_int (pa_cons pe_int pa_nil))))))) pa_nil))) pa_nil)) (blkOk_by (own := [("_law_k", 10)]) (N := ["_law_script", "_law_h", "_law_ratios", "_law_least", "_law_best", "_law_chosen", "_law_step", "_law_worst", "_law_at", "_law_loss", "_law_k", "_law_ratio_here"]) (sc := defScope s_law) (by decide +kernel)) (fun _ _ _ _ _ => (pg_name (i := 10) sc_law.nd rfl (.inl rfl))) (fun _ _ _ _ _ => pts_nil) (fun _ _ _ _ _ => (pe_call G__law_ratio.ok (hr.mono (by first | decide | exact Nat.le_refl _)) (by rfl) G__law_ratio.g G__law_ratio.kp G__law_ratio.b .nil pass0 (pa_cons (pv 1) pa_nil)))) pa_nil)))
      (pss_cons (ps_setLc (i := 3) (own := [("_law_ratio_here", 11)]) (g := gName 11) (tt := tYes) rfl sc_law.nd rfl rfl (sw_true rfl rfl rfl (by decide +kernel)) (pi_tup (pv 2)) (blkOk_by (own := [("_law_ratio_here", 11)]) (N := ["_law_script", "_law_h", "_law_ratios", "_law_least", "_law_best", "_law_chosen", "_law_step", "_law_worst", "_law_at", "_law_loss", "_law_k", "_law_ratio_here"]) (sc := defScope s_law) (by decide +kernel)) (fun _ _ _ _ _ => (pg_name (i := 11) sc_law.nd rfl (.inl rfl))) (fun _ _ _ _ _ => pts_nil) (fun _ _ _ _ _ => (pe_call G__law_mean.ok (hr.mono (by first | decide | exact Nat.le_refl _)) (by rfl) G__law_mean.g G__law_mean.kp G__law_mean.b .nil pass0 (pa_cons (pe_call G_best_step.ok (hr.mono (by first | decide | exact Nat.le_refl _)) (by rfl) G_best_step.g G_best_step.kp G_best_step.b .nil pass0 (pa_cons (pv 11) pa_nil)) (pa_cons (pv 11) pa_nil)))))
      (pss_cons (ps_asg (pe_tup (pa_cons pe_non (pa_cons pe_int pa_nil))) (pg_tup (by rfl) (pgs_cons (pg_name (i := 4) sc_law.nd rfl (.inl rfl)) (pgs_cons (pg_name (i := 5) sc_law.nd rfl (.inl rfl)) pgs_nil))))
      (pss_cons (ps_for PassesOwn.never rfl (pi_range2 (by rfl) B.range_ (pa_cons pe_int (pa_cons pe_int pa_nil))) (pg_name (i := 6) sc_law.nd rfl (.inl rfl))
      (pss_cons (ps_set (i := 7) sc_law.nd rfl (.inl rfl) (pe_tup (pa_cons pe_int (pa_cons pe_int pa_nil))))
      (pss_cons (ps_for PassesOwn.never rfl (pi_range1 (by rfl) B.range_ (pa_cons (pe_callB (call_len_seq_ K) (by rfl) B.len_ (by decide +kernel) (pa_cons (pv 2) pa_nil)) pa_nil)) (pg_name (i := 8) sc_law.nd rfl (.inl rfl))
      (pss_cons (ps_set (i := 9) sc_law.nd rfl (.inl rfl) (pe_call G__law_less.ok (hr.mono (by first | decide | exact Nat.le_refl _)) (by rfl) G__law_less.g G__law_less.kp G__law_less.b .nil pass0 (pa_cons (pe_call G__law_mean.ok (hr.mono (by first | decide | exact Nat.le_refl _)) (by rfl) G__law_mean.g G__law_mean.kp G__law_mean.b .nil pass0 (pa_cons (pv 6) (pa_cons (pe_ix (ix_tup_ K) (pv 2) (pv 8) (fun _ _ => rfl)) pa_nil))) (pa_cons (pe_ix (ix_list_ K) (pv 3) (pv 8) (fun _ _ => rfl)) pa_nil))))
      (pss_one (ps_set (i := 7) sc_law.nd rfl (.inl rfl) (pe_ifExp (pt_not (pt_val (pe_call G__law_most.ok (hr.mono (by first | decide | exact Nat.le_refl _)) (by rfl) G__law_most.g G__law_most.kp G__law_most.b .nil pass0 (pa_cons (pv 9) (pa_cons (pv 7) pa_nil))))) (pv 9) (pv 7))))))
      (pss_one (ps_if (PW.pt (pw_or (pt_cmp (pc_isN (pv 4))) (pw_or1 (pt_not (pt_val (pe_call G__law_most.ok (hr.mono (by first | decide | exact Nat.le_refl _)) (by rfl) G__law_most.g G__law_most.kp G__law_most.b .nil pass0 (pa_cons (pv 4) (pa_cons (pv 7) pa_nil))))))))
      (pss_one (ps_par (i := 4) (j := 5) (by rfl) sc_law.nd rfl rfl (by decide) rfl rfl (pa_cons (pv 7) (pa_cons (pv 6) pa_nil)) (by rfl)))
      pss_nil)))))
      (pss_one (ps_ret (pe_call G__law_alike.ok (hr.mono (by first | decide | exact Nat.le_refl _)) (by rfl) G__law_alike.g G__law_alike.kp G__law_alike.b .nil pass0 (pa_cons (pe_call G_fair_step.ok (hr.mono (by first | decide | exact Nat.le_refl _)) (by rfl) G_fair_step.g G_fair_step.kp G_fair_step.b .nil pass0 (pa_cons (pv 2) pa_nil)) (pa_cons (pe_tup (pa_cons (pv 5) (pa_cons (pv 4) pa_nil))) pa_nil)))))))))), ?_⟩
  refine ⟨_, rfl, a, ns, 6, rfl, hS, hlen, fun h q H1 s1 n1 n2 L1 => ?_⟩
  -- the ratios
  refine ⟨_, rfl, (by show 6 ≤ sizeLine; omega), fun t nt => pickI L1 nt (fun z => by cases z) (by show 6 ≤ 1000; decide) fun x hx H2 L2 S2 => ?_⟩
  obtain ⟨y, rfl, y0, y1⟩ : ∃ y : Nat, x = .int (y : Int) ∧ 1 ≤ y ∧ y ≤ 6 := by
    simp only [List.mem_cons, List.not_mem_nil, or_false] at hx
    rcases hx with rfl | rfl | rfl | rfl | rfl | rfl <;> exact ⟨_, rfl, by decide, by decide⟩
  refine ⟨_, rfl, by omega, by omega, fun D nD => ?_⟩
  rw [show ((y : Int)).toNat = y by omega]
  obtain ⟨hnh, hnq⟩ := L2.nn
  have nDh : D ≠ h := fun z => hnh (z ▸ nD)
  have nDq : D ≠ q := fun z => hnq (z ▸ nD)
  refine lc_range (lo := 0) (n := y) (fun j H6 => ∃ rs : List (Addr × Nat × Nat), rs.length = j ∧ LawH H6 h q ∧ H6 D = some (.lst (rs.map fun t => V.ref t.1)) ∧ ∀ t ∈ rs, H6 t.1 = some (.tup [.int (t.2.1 : Nat), .int (t.2.2 : Nat)]) ∧ IsRat t.2.1 t.2.2) ⟨[], rfl, L2.same (same_new nD _), upd_same, (fun n hn => by cases hn)⟩ ?_ ?_
  · rintro j H6 hj ⟨rs, hx1, L6, eD, he⟩
    refine ⟨rfl, _, rfl, h, q, rfl, L6, fun r x y H7 hr0 L7 S7 er => ?_⟩
    have eD7 := S7 _ _ eD nDh nDq
    refine ⟨_, eD7, by rw [List.length_map]; omega, rs ++ [(r, x, y)], by rw [List.length_append, hx1]; rfl, L7.updL nDh nDq, ?_, ?_⟩
    · rw [upd_same, List.map_append]
      rfl
    · intro t ht
      rcases List.mem_append.mp ht with ht | ht
      · obtain ⟨a1, a2⟩ := he t ht
        obtain ⟨b1, b2⟩ := L6.tup_ne a1
        have a3 := S7 _ _ a1 b1 b2
        exact ⟨by rw [upd_ne (fun z => by rw [z, eD7] at a3; cases a3)]; exact a3, a2⟩
      · rw [List.mem_singleton.mp ht]
        exact ⟨by rw [upd_ne (fun z => by
          have er' : H7 r = _ := er
          rw [show r = D from z, eD7] at er'
          cases er')]; exact er, hr0⟩
  rintro H6 ⟨rs, hx1, L6, eD, he⟩
  refine ⟨D, _, rfl, .inl ⟨.inl (.inl eD), fun U nU => ?_⟩⟩
  have s7 := same_new nU (.tup (rs.map fun t => V.ref t.1))
  have hR : RatsAt K (upd H6 U (.tup (rs.map fun t => V.ref t.1))) U rs := ⟨.inl (.inl upd_same), fun t ht => ⟨.inl (.inl (s7 _ _ (he t ht).1)), (he t ht).2⟩⟩
  generalize upd H6 U (.tup (rs.map fun t => V.ref t.1)) = H7 at *
  have lm : (rs.map fun t => V.ref t.1).length = rs.length := List.length_map _
  have geti : ∀ {i : Nat} {x : V}, (rs.map fun t => V.ref t.1)[i]? = some x → ∃ t, rs[i]? = some t ∧ x = V.ref t.1 := by
    intro i x hx
    rw [List.getElem?_map] at hx
    cases e : rs[i]? with
    | none => rw [e] at hx; cases hx
    | some z => rw [e] at hx; exact ⟨z, rfl, (Option.some.inj hx).symm⟩
  -- the least means
  refine ⟨_, rfl, U, rfl, ⟨_, hR.seq⟩, fun D2 nD2 => ?_⟩
  refine lc_tup (K := K) (a := U) (xs := rs.map fun t => V.ref t.1) (fun j H8 => ∃ ls : List Addr, ls.length = j ∧ Same H7 H8 ∧ H8 D2 = some (.lst (ls.map V.ref)) ∧ ∀ (i : Nat) (c : Addr) (t : Addr × Nat × Nat), ls[i]? = some c → rs[i]? = some t → RatAt K H8 c (meanR (bestR (rat t.2.1 t.2.2)) (rat t.2.1 t.2.2)) ∧ Bd (meanR (bestR (rat t.2.1 t.2.2)) (rat t.2.1 t.2.2)) 1700) ⟨[], rfl, same_new nD2 _, upd_same, fun i c t hc => by cases hc⟩ (fun j H8 _ ⟨_, _, s8, _⟩ => Same.seqT s8 hR.seq) ?_ ?_
  · rintro j x H8 hx ⟨ls, hl, s8, eD2, hm⟩
    obtain ⟨t, ht, rfl⟩ := geti hx
    have hj : j < rs.length := (List.getElem?_eq_some_iff.mp ht).1
    obtain ⟨h1, h2⟩ := hR.each t (List.mem_of_getElem? ht)
    refine ⟨rfl, _, rfl, t.1, t.2.1, t.2.2, rfl, Same.seqT s8 h1, h2, fun s H9 hb s30 s9 => ?_⟩
    refine ⟨_, rfl, t.1, s, t.2.1, t.2.2, rfl, Same.seqT (s8.trans s9) h1, h2, hb.1, by omega, fun r H10 s10 n10 R10 => ?_⟩
    have eD3 := s10 _ _ (s9 _ _ eD2)
    refine ⟨_, eD3, by rw [List.length_map]; omega, ls ++ [r], by rw [List.length_append, hl]; rfl, ?_, ?_, ?_⟩
    · intro b o ho
      rw [upd_ne (ne_of_none ho nD2)]
      exact s10 _ _ (s9 _ _ (s8 _ _ ho))
    · rw [upd_same, List.map_append]
      rfl
    · intro i c t' hc ht'
      by_cases hi : i < ls.length
      · rw [List.getElem?_append_left hi] at hc
        obtain ⟨m1, m2⟩ := hm i c t' hc ht'
        exact ⟨SqT.updL eD3 (m1.same (s9.trans s10)), m2⟩
      · have ei : i = ls.length := by
          have := (List.getElem?_eq_some_iff.mp hc).1
          rw [List.length_append, List.length_singleton] at this
          omega
        subst ei
        rw [List.getElem?_append_right (Nat.le_refl _), Nat.sub_self] at hc
        cases Option.some.inj hc
        rw [hl, ht] at ht'
        cases Option.some.inj ht'
        rw [best_eq hb]
        exact ⟨SqT.updL eD3 R10, bd_mean h2 hb.1 (by omega)⟩
  rintro H8 ⟨ls, hll, s8, eD2, hm⟩
  rw [lm] at hll
  have hR := hR.same s8
  have L8 := L6.same (s7.trans s8)
  refine ⟨(by show 2 ≤ sizeLine; omega), fun T nT => ?_⟩
  have s9 := same_new nT (.tup [.non, .int 0])
  refine ⟨T, _, rfl, .inl (.inl upd_same), rfl, _, _, rfl, _, _, rfl, rfl, ?_⟩
  have eD2 := s9 _ _ eD2
  have hR := hR.same s9
  have hm : ∀ (i : Nat) (c : Addr) (t : Addr × Nat × Nat), ls[i]? = some c → rs[i]? = some t → RatAt K (upd H8 T (.tup [.non, .int 0])) c (meanR (bestR (rat t.2.1 t.2.2)) (rat t.2.1 t.2.2)) ∧ Bd (meanR (bestR (rat t.2.1 t.2.2)) (rat t.2.1 t.2.2)) 1700 := fun i c t hc ht => ⟨(hm i c t hc ht).1.same s9, (hm i c t hc ht).2⟩
  generalize upd H8 T (.tup [.non, .int 0]) = H at *
  have hS := hR.seq
  refine ⟨_, _, rfl, ⟨by decide, by decide, by decide, by decide⟩, for_range (lo := 1) (n := 64) (fun i σ H3 => ∃ bv cv v6 v7 v8 v9 v10 v11, σ = [some (.ref a), some (.ref h), some (.ref U), some (.ref D2), some bv, some cv, v6, v7, v8, v9, v10, v11] ∧ Same H H3 ∧ LawBest K H3 (lossesR rs) i bv cv) ⟨_, _, _, _, _, _, _, _, rfl, Same.refl _, .inl ⟨rfl, rfl⟩⟩ ?_ ?_⟩
  · rintro i σ H3 hi ⟨bv, cv, v6, v7, v8, v9, v10, v11, rfl, s3, hb⟩
    have em : (1 : Int) + (i : Int) = ((i + 1 : Nat) : Int) := by omega
    refine ⟨(by show 2 ≤ sizeLine; omega), fun W nW => ?_⟩
    have s4 := same_new nW (.tup [.int 0, .int 1])
    have R0 : RatAt K (upd H3 W (.tup [.int 0, .int 1])) W 0 := .inl (.inl upd_same)
    have hb := hb.same s4
    have s3 := s3.trans s4
    generalize upd H3 W (.tup [.int 0, .int 1]) = H4 at *
    refine ⟨_, rfl, U, _, rfl, .inr (Same.seqT s3 hS), _, rfl, by rw [lm]; omega, by rw [lm]; omega, ?_⟩
    rw [lm]
    refine for_range (lo := 0) (n := rs.length) (fun j σ H5 => ∃ v8 v9 W, σ = [some (.ref a), some (.ref h), some (.ref U), some (.ref D2), some bv, some cv, some (.int (1 + (i : Int))), some (.ref W), v8, v9, v10, v11] ∧ Same H4 H5 ∧ RatAt K H5 W (worstR (lossR (i + 1)) 0 ((ratsOf rs).take j)) ∧ Bd (worstR (lossR (i + 1)) 0 ((ratsOf rs).take j)) 3402) ⟨_, _, W, rfl, Same.refl _, R0, bd_zero _ (by decide)⟩ ?_ ?_
    · rintro j σ H5 hj ⟨v8, v9, W, rfl, s5, R5, B5⟩
      have ht : rs[j]? = some rs[j] := List.getElem?_eq_getElem hj
      generalize rs[j] = t at ht
      have hjl : j < ls.length := by omega
      have hc : ls[j]? = some ls[j] := List.getElem?_eq_getElem hjl
      generalize ls[j] = c at hc
      obtain ⟨h1, h2⟩ := hR.each t (List.mem_of_getElem? ht)
      obtain ⟨m1, m2⟩ := hm j c t hc ht
      have S5 := s3.trans s5
      have e0 : (0 : Int) + (j : Int) = ((j : Nat) : Int) := Int.zero_add _
      rw [take_rats ht, worst_snoc]
      refine ⟨_, rfl, _, rfl, _, rfl, U, _, _, _, rfl, rfl, Same.seqT S5 hS, by rw [e0]; exact atI_nat (by rw [List.getElem?_map, ht]; rfl), ?_⟩
      refine ⟨t.1, i + 1, t.2.1, t.2.2, ?_, Same.seqT S5 h1, h2, by omega, by omega, fun r1 H6 s6 n6 R6 => ?_⟩
      · show [V.int (1 + (i : Int)), V.ref t.1] = _
        rw [em]
      have B6 := bd_mean h2 (m := i + 1) (by omega) (by omega)
      refine ⟨_, rfl, _, rfl, D2, _, _, _, rfl, rfl, .inl (.inl (s6 _ _ (S5 _ _ eD2))), by rw [e0]; exact atI_nat (by rw [List.getElem?_map, hc]; rfl), ?_⟩
      refine ⟨r1, c, _, _, 1700, 1700, rfl, R6, m1.same (S5.trans s6), B6, m2, by omega, fun r2 H7 s7 n7 R7 => ?_⟩
      have B7 := Bd.sub B6 m2
      have el : meanR (i + 1) (rat t.2.1 t.2.2) - meanR (bestR (rat t.2.1 t.2.2)) (rat t.2.1 t.2.2) = lossR (i + 1) (rat t.2.1 t.2.2) := rfl
      rw [el] at R7 B7
      have B7 := B7.mono (show 1700 + 1700 + 1 ≤ 3402 by omega)
      have S7 := s6.trans s7
      refine ⟨_, rfl, _, rfl, r2, W, _, _, 3402, 3402, rfl, R7, R5.same S7, B7, B5, by omega, _, rfl, ?_⟩
      by_cases cc : lossR (i + 1) (rat t.2.1 t.2.2) ≤ worstR (lossR (i + 1)) 0 ((ratsOf rs).take j)
      · rw [if_neg (Rat.not_lt.mpr cc)]
        refine iteNF cc ?_
        exact ⟨_, rfl, _, _, W, rfl, s5.trans S7, R5.same S7, B5⟩
      · rw [if_pos (Rat.not_le.mp cc)]
        refine iteND cc ?_
        exact ⟨_, rfl, _, _, r2, rfl, s5.trans S7, R7, B7⟩
    · rintro σ H5 ⟨v8, v9, W, rfl, s5, R5, B5⟩
      rw [List.take_of_length_le (by unfold ratsOf; rw [List.length_map]; exact Nat.le_refl _)] at R5 B5
      have hb := hb.same s5
      have s3 := s3.trans s5
      have fin : fairF (lossesR rs) (i + 1) = some (i + 1, lossesR rs (i + 1)) → LawBest K H5 (lossesR rs) (i + 1) (.ref W) (.int (1 + (i : Int))) := fun e => .inr ⟨i + 1, _, W, e, rfl, by rw [em], R5, B5⟩
      refine ⟨_, rfl, ?_⟩
      rcases hb with ⟨e, rfl⟩ | ⟨s0, w0, W0, e, rfl, rfl, R0, B0⟩
      · refine ⟨_, rfl, iteDT rfl ?_⟩
        refine ⟨_, rfl, _, rfl, _, _, rfl, ?_⟩
        exact ⟨_, _, _, _, _, _, _, _, rfl, s3, fin (fairF_none e)⟩
      · refine ⟨_, rfl, iteDF (fun z => by cases z) ?_⟩
        refine ⟨_, rfl, _, rfl, W0, W, _, _, 3402, 3402, rfl, R0, R5, B0, B5, by omega, _, rfl, ?_⟩
        by_cases cc : w0 ≤ lossesR rs (i + 1)
        · refine iteNF cc ?_
          exact ⟨_, _, _, _, _, _, _, _, rfl, s3, .inr ⟨s0, w0, W0, by rw [fairF_some e, if_neg (Rat.not_lt.mpr cc)], rfl, rfl, R0, B0⟩⟩
        · refine iteND cc ?_
          refine ⟨_, rfl, _, rfl, _, _, rfl, ?_⟩
          exact ⟨_, _, _, _, _, _, _, _, rfl, s3, fin (by rw [fairF_some e, if_pos (Rat.not_le.mp cc)])⟩
  · rintro σ H3 ⟨bv, cv, v6, v7, v8, v9, v10, v11, rfl, s3, hb⟩
    refine ⟨_, rfl, U, rs, rfl, hR.same s3, by omega, by omega, fun T2 W2 s w H4 s4 eT2 R2 e2 => ?_⟩
    rcases hb with ⟨e, rfl⟩ | ⟨s0, w0, W0, e, rfl, rfl, R0, B0⟩
    · rw [e] at e2
      cases e2
    rw [e] at e2
    cases Option.some.inj e2
    refine ⟨_, rfl, _, rfl, (by show 2 ≤ sizeLine; omega), fun T3 nT3 => ?_⟩
    have s5 := same_new nT3 (.tup [.int (s : Nat), .ref W0])
    refine ⟨_, _, _, 4, rfl, rfl, dp_fair (.inl (.inl (s5 _ _ eT2))) (R2.same s5), dp_fair (.inl (.inl upd_same)) ((R0.same s4).same s5), ok_fair 2 _ _ _, fun H7 s7 => ?_⟩
    exact k H7
end
end St
namespace St
open PySem PySem.Spec PyProof.Rows L2
theorem all_mk {l : PySem.W.OpenLaw} {w : World} {K : PySem.W.Frag} {h : Heap} {mg : Str → Option Value} {fa : Addr} (X : K.In h) (G : h.Ns mainGlobals mg) (hfa : mg "law" = some (.ref fa))
    {f0 : Addr} {od0 an0 : Option Addr} {sl0 : Array (Option Value)} {oc0 kV0 dc0 pm0 cd0 ct0 : Value}
    (a0 : PySem.W.nsIn K mainGlobals "_law_mix" = some (some (.ref f0))) (l0 : K.lookup f0 = some ⟨oc0, od0, .func (PySem.W.fnOf "_law_mix" "_law_mix" (defArgs s__law_mix) (defBody s__law_mix) (defScope s__law_mix) .none kV0 dc0 pm0 an0 cd0 ct0), sl0⟩) (c0 : PySem.W.codeIn K cd0 "_law_mix" = true) (k0 : PySem.W.keepIn K (.ref f0) = true)
    {f1 : Addr} {od1 an1 : Option Addr} {sl1 : Array (Option Value)} {oc1 kV1 dc1 pm1 cd1 ct1 : Value}
    (a1 : PySem.W.nsIn K mainGlobals "_law_alike" = some (some (.ref f1))) (l1 : K.lookup f1 = some ⟨oc1, od1, .func (PySem.W.fnOf "_law_alike" "_law_alike" (defArgs s__law_alike) (defBody s__law_alike) (defScope s__law_alike) .none kV1 dc1 pm1 an1 cd1 ct1), sl1⟩) (c1 : PySem.W.codeIn K cd1 "_law_alike" = true) (k1 : PySem.W.keepIn K (.ref f1) = true)
    {f2 : Addr} {od2 an2 : Option Addr} {sl2 : Array (Option Value)} {oc2 kV2 dc2 pm2 cd2 ct2 : Value}
    (a2 : PySem.W.nsIn K mainGlobals "_law_frac" = some (some (.ref f2))) (l2 : K.lookup f2 = some ⟨oc2, od2, .func (PySem.W.fnOf "_law_frac" "_law_frac" (defArgs s__law_frac) (defBody s__law_frac) (defScope s__law_frac) .none kV2 dc2 pm2 an2 cd2 ct2), sl2⟩) (c2 : PySem.W.codeIn K cd2 "_law_frac" = true) (k2 : PySem.W.keepIn K (.ref f2) = true)
    {f3 : Addr} {od3 an3 : Option Addr} {sl3 : Array (Option Value)} {oc3 kV3 dc3 pm3 cd3 ct3 : Value}
    (a3 : PySem.W.nsIn K mainGlobals "_law_double" = some (some (.ref f3))) (l3 : K.lookup f3 = some ⟨oc3, od3, .func (PySem.W.fnOf "_law_double" "_law_double" (defArgs s__law_double) (defBody s__law_double) (defScope s__law_double) .none kV3 dc3 pm3 an3 cd3 ct3), sl3⟩) (c3 : PySem.W.codeIn K cd3 "_law_double" = true) (k3 : PySem.W.keepIn K (.ref f3) = true)
    {f4 : Addr} {od4 an4 : Option Addr} {sl4 : Array (Option Value)} {oc4 kV4 dc4 pm4 cd4 ct4 : Value}
    (a4 : PySem.W.nsIn K mainGlobals "_law_word" = some (some (.ref f4))) (l4 : K.lookup f4 = some ⟨oc4, od4, .func (PySem.W.fnOf "_law_word" "_law_word" (defArgs s__law_word) (defBody s__law_word) (defScope s__law_word) .none kV4 dc4 pm4 an4 cd4 ct4), sl4⟩) (c4 : PySem.W.codeIn K cd4 "_law_word" = true) (k4 : PySem.W.keepIn K (.ref f4) = true)
    {f5 : Addr} {od5 an5 : Option Addr} {sl5 : Array (Option Value)} {oc5 kV5 dc5 pm5 cd5 ct5 : Value}
    (a5 : PySem.W.nsIn K mainGlobals "_law_mean" = some (some (.ref f5))) (l5 : K.lookup f5 = some ⟨oc5, od5, .func (PySem.W.fnOf "_law_mean" "_law_mean" (defArgs s__law_mean) (defBody s__law_mean) (defScope s__law_mean) .none kV5 dc5 pm5 an5 cd5 ct5), sl5⟩) (c5 : PySem.W.codeIn K cd5 "_law_mean" = true) (k5 : PySem.W.keepIn K (.ref f5) = true)
    {f6 : Addr} {od6 an6 : Option Addr} {sl6 : Array (Option Value)} {oc6 kV6 dc6 pm6 cd6 ct6 : Value}
    (a6 : PySem.W.nsIn K mainGlobals "is_integer" = some (some (.ref f6))) (l6 : K.lookup f6 = some ⟨oc6, od6, .func (PySem.W.fnOf "is_integer" "is_integer" (defArgs s_is_integer) (defBody s_is_integer) (defScope s_is_integer) .none kV6 dc6 pm6 an6 cd6 ct6), sl6⟩) (c6 : PySem.W.codeIn K cd6 "is_integer" = true) (k6 : PySem.W.keepIn K (.ref f6) = true)
    {f7 : Addr} {od7 an7 : Option Addr} {sl7 : Array (Option Value)} {oc7 kV7 dc7 pm7 cd7 ct7 : Value}
    (a7 : PySem.W.nsIn K mainGlobals "is_ratio" = some (some (.ref f7))) (l7 : K.lookup f7 = some ⟨oc7, od7, .func (PySem.W.fnOf "is_ratio" "is_ratio" (defArgs s_is_ratio) (defBody s_is_ratio) (defScope s_is_ratio) .none kV7 dc7 pm7 an7 cd7 ct7), sl7⟩) (c7 : PySem.W.codeIn K cd7 "is_ratio" = true) (k7 : PySem.W.keepIn K (.ref f7) = true)
    {f8 : Addr} {od8 an8 : Option Addr} {sl8 : Array (Option Value)} {oc8 kV8 dc8 pm8 cd8 ct8 : Value}
    (a8 : PySem.W.nsIn K mainGlobals "divisor" = some (some (.ref f8))) (l8 : K.lookup f8 = some ⟨oc8, od8, .func (PySem.W.fnOf "divisor" "divisor" (defArgs s_divisor) (defBody s_divisor) (defScope s_divisor) .none kV8 dc8 pm8 an8 cd8 ct8), sl8⟩) (c8 : PySem.W.codeIn K cd8 "divisor" = true) (k8 : PySem.W.keepIn K (.ref f8) = true)
    {f9 : Addr} {od9 an9 : Option Addr} {sl9 : Array (Option Value)} {oc9 kV9 dc9 pm9 cd9 ct9 : Value}
    (a9 : PySem.W.nsIn K mainGlobals "fraction" = some (some (.ref f9))) (l9 : K.lookup f9 = some ⟨oc9, od9, .func (PySem.W.fnOf "fraction" "fraction" (defArgs s_fraction) (defBody s_fraction) (defScope s_fraction) .none kV9 dc9 pm9 an9 cd9 ct9), sl9⟩) (c9 : PySem.W.codeIn K cd9 "fraction" = true) (k9 : PySem.W.keepIn K (.ref f9) = true)
    {f10 : Addr} {od10 an10 : Option Addr} {sl10 : Array (Option Value)} {oc10 kV10 dc10 pm10 cd10 ct10 : Value}
    (a10 : PySem.W.nsIn K mainGlobals "minus" = some (some (.ref f10))) (l10 : K.lookup f10 = some ⟨oc10, od10, .func (PySem.W.fnOf "minus" "minus" (defArgs s_minus) (defBody s_minus) (defScope s_minus) .none kV10 dc10 pm10 an10 cd10 ct10), sl10⟩) (c10 : PySem.W.codeIn K cd10 "minus" = true) (k10 : PySem.W.keepIn K (.ref f10) = true)
    {f11 : Addr} {od11 an11 : Option Addr} {sl11 : Array (Option Value)} {oc11 kV11 dc11 pm11 cd11 ct11 : Value}
    (a11 : PySem.W.nsIn K mainGlobals "power_of_two" = some (some (.ref f11))) (l11 : K.lookup f11 = some ⟨oc11, od11, .func (PySem.W.fnOf "power_of_two" "power_of_two" (defArgs s_power_of_two) (defBody s_power_of_two) (defScope s_power_of_two) .none kV11 dc11 pm11 an11 cd11 ct11), sl11⟩) (c11 : PySem.W.codeIn K cd11 "power_of_two" = true) (k11 : PySem.W.keepIn K (.ref f11) = true)
    {f12 : Addr} {od12 an12 : Option Addr} {sl12 : Array (Option Value)} {oc12 kV12 dc12 pm12 cd12 ct12 : Value}
    (a12 : PySem.W.nsIn K mainGlobals "wide" = some (some (.ref f12))) (l12 : K.lookup f12 = some ⟨oc12, od12, .func (PySem.W.fnOf "wide" "wide" (defArgs s_wide) (defBody s_wide) (defScope s_wide) .none kV12 dc12 pm12 an12 cd12 ct12), sl12⟩) (c12 : PySem.W.codeIn K cd12 "wide" = true) (k12 : PySem.W.keepIn K (.ref f12) = true)
    {f13 : Addr} {od13 an13 : Option Addr} {sl13 : Array (Option Value)} {oc13 kV13 dc13 pm13 cd13 ct13 : Value}
    (a13 : PySem.W.nsIn K mainGlobals "power" = some (some (.ref f13))) (l13 : K.lookup f13 = some ⟨oc13, od13, .func (PySem.W.fnOf "power" "power" (defArgs s_power) (defBody s_power) (defScope s_power) .none kV13 dc13 pm13 an13 cd13 ct13), sl13⟩) (c13 : PySem.W.codeIn K cd13 "power" = true) (k13 : PySem.W.keepIn K (.ref f13) = true)
    {f14 : Addr} {od14 an14 : Option Addr} {sl14 : Array (Option Value)} {oc14 kV14 dc14 pm14 cd14 ct14 : Value}
    (a14 : PySem.W.nsIn K mainGlobals "plus" = some (some (.ref f14))) (l14 : K.lookup f14 = some ⟨oc14, od14, .func (PySem.W.fnOf "plus" "plus" (defArgs s_plus) (defBody s_plus) (defScope s_plus) .none kV14 dc14 pm14 an14 cd14 ct14), sl14⟩) (c14 : PySem.W.codeIn K cd14 "plus" = true) (k14 : PySem.W.keepIn K (.ref f14) = true)
    {f15 : Addr} {od15 an15 : Option Addr} {sl15 : Array (Option Value)} {oc15 kV15 dc15 pm15 cd15 ct15 : Value}
    (a15 : PySem.W.nsIn K mainGlobals "quotient" = some (some (.ref f15))) (l15 : K.lookup f15 = some ⟨oc15, od15, .func (PySem.W.fnOf "quotient" "quotient" (defArgs s_quotient) (defBody s_quotient) (defScope s_quotient) .none kV15 dc15 pm15 an15 cd15 ct15), sl15⟩) (c15 : PySem.W.codeIn K cd15 "quotient" = true) (k15 : PySem.W.keepIn K (.ref f15) = true)
    {f16 : Addr} {od16 an16 : Option Addr} {sl16 : Array (Option Value)} {oc16 kV16 dc16 pm16 cd16 ct16 : Value}
    (a16 : PySem.W.nsIn K mainGlobals "mean_by" = some (some (.ref f16))) (l16 : K.lookup f16 = some ⟨oc16, od16, .func (PySem.W.fnOf "mean_by" "mean_by" (defArgs s_mean_by) (defBody s_mean_by) (defScope s_mean_by) .none kV16 dc16 pm16 an16 cd16 ct16), sl16⟩) (c16 : PySem.W.codeIn K cd16 "mean_by" = true) (k16 : PySem.W.keepIn K (.ref f16) = true)
    {f17 : Addr} {od17 an17 : Option Addr} {sl17 : Array (Option Value)} {oc17 kV17 dc17 pm17 cd17 ct17 : Value}
    (a17 : PySem.W.nsIn K mainGlobals "best_by" = some (some (.ref f17))) (l17 : K.lookup f17 = some ⟨oc17, od17, .func (PySem.W.fnOf "best_by" "best_by" (defArgs s_best_by) (defBody s_best_by) (defScope s_best_by) .none kV17 dc17 pm17 an17 cd17 ct17), sl17⟩) (c17 : PySem.W.codeIn K cd17 "best_by" = true) (k17 : PySem.W.keepIn K (.ref f17) = true)
    {f18 : Addr} {od18 an18 : Option Addr} {sl18 : Array (Option Value)} {oc18 kV18 dc18 pm18 cd18 ct18 : Value}
    (a18 : PySem.W.nsIn K mainGlobals "loss_by" = some (some (.ref f18))) (l18 : K.lookup f18 = some ⟨oc18, od18, .func (PySem.W.fnOf "loss_by" "loss_by" (defArgs s_loss_by) (defBody s_loss_by) (defScope s_loss_by) .none kV18 dc18 pm18 an18 cd18 ct18), sl18⟩) (c18 : PySem.W.codeIn K cd18 "loss_by" = true) (k18 : PySem.W.keepIn K (.ref f18) = true)
    {f19 : Addr} {od19 an19 : Option Addr} {sl19 : Array (Option Value)} {oc19 kV19 dc19 pm19 cd19 ct19 : Value}
    (a19 : PySem.W.nsIn K mainGlobals "is_less" = some (some (.ref f19))) (l19 : K.lookup f19 = some ⟨oc19, od19, .func (PySem.W.fnOf "is_less" "is_less" (defArgs s_is_less) (defBody s_is_less) (defScope s_is_less) .none kV19 dc19 pm19 an19 cd19 ct19), sl19⟩) (c19 : PySem.W.codeIn K cd19 "is_less" = true) (k19 : PySem.W.keepIn K (.ref f19) = true)
    {f20 : Addr} {od20 an20 : Option Addr} {sl20 : Array (Option Value)} {oc20 kV20 dc20 pm20 cd20 ct20 : Value}
    (a20 : PySem.W.nsIn K mainGlobals "fair_step" = some (some (.ref f20))) (l20 : K.lookup f20 = some ⟨oc20, od20, .func (PySem.W.fnOf "fair_step" "fair_step" (defArgs s_fair_step) (defBody s_fair_step) (defScope s_fair_step) .none kV20 dc20 pm20 an20 cd20 ct20), sl20⟩) (c20 : PySem.W.codeIn K cd20 "fair_step" = true) (k20 : PySem.W.keepIn K (.ref f20) = true)
    {f21 : Addr} {od21 an21 : Option Addr} {sl21 : Array (Option Value)} {oc21 kV21 dc21 pm21 cd21 ct21 : Value}
    (a21 : PySem.W.nsIn K mainGlobals "_law_next" = some (some (.ref f21))) (l21 : K.lookup f21 = some ⟨oc21, od21, .func (PySem.W.fnOf "_law_next" "_law_next" (defArgs s__law_next) (defBody s__law_next) (defScope s__law_next) .none kV21 dc21 pm21 an21 cd21 ct21), sl21⟩) (c21 : PySem.W.codeIn K cd21 "_law_next" = true) (k21 : PySem.W.keepIn K (.ref f21) = true)
    {f22 : Addr} {od22 an22 : Option Addr} {sl22 : Array (Option Value)} {oc22 kV22 dc22 pm22 cd22 ct22 : Value}
    (a22 : PySem.W.nsIn K mainGlobals "_law_pick" = some (some (.ref f22))) (l22 : K.lookup f22 = some ⟨oc22, od22, .func (PySem.W.fnOf "_law_pick" "_law_pick" (defArgs s__law_pick) (defBody s__law_pick) (defScope s__law_pick) .none kV22 dc22 pm22 an22 cd22 ct22), sl22⟩) (c22 : PySem.W.codeIn K cd22 "_law_pick" = true) (k22 : PySem.W.keepIn K (.ref f22) = true)
    {f23 : Addr} {od23 an23 : Option Addr} {sl23 : Array (Option Value)} {oc23 kV23 dc23 pm23 cd23 ct23 : Value}
    (a23 : PySem.W.nsIn K mainGlobals "_law_ratio" = some (some (.ref f23))) (l23 : K.lookup f23 = some ⟨oc23, od23, .func (PySem.W.fnOf "_law_ratio" "_law_ratio" (defArgs s__law_ratio) (defBody s__law_ratio) (defScope s__law_ratio) .none kV23 dc23 pm23 an23 cd23 ct23), sl23⟩) (c23 : PySem.W.codeIn K cd23 "_law_ratio" = true) (k23 : PySem.W.keepIn K (.ref f23) = true)
    {f24 : Addr} {od24 an24 : Option Addr} {sl24 : Array (Option Value)} {oc24 kV24 dc24 pm24 cd24 ct24 : Value}
    (a24 : PySem.W.nsIn K mainGlobals "check_ratio" = some (some (.ref f24))) (l24 : K.lookup f24 = some ⟨oc24, od24, .func (PySem.W.fnOf "check_ratio" "check_ratio" (defArgs s_check_ratio) (defBody s_check_ratio) (defScope s_check_ratio) .none kV24 dc24 pm24 an24 cd24 ct24), sl24⟩) (c24 : PySem.W.codeIn K cd24 "check_ratio" = true) (k24 : PySem.W.keepIn K (.ref f24) = true)
    {f25 : Addr} {od25 an25 : Option Addr} {sl25 : Array (Option Value)} {oc25 kV25 dc25 pm25 cd25 ct25 : Value}
    (a25 : PySem.W.nsIn K mainGlobals "best_step" = some (some (.ref f25))) (l25 : K.lookup f25 = some ⟨oc25, od25, .func (PySem.W.fnOf "best_step" "best_step" (defArgs s_best_step) (defBody s_best_step) (defScope s_best_step) .none kV25 dc25 pm25 an25 cd25 ct25), sl25⟩) (c25 : PySem.W.codeIn K cd25 "best_step" = true) (k25 : PySem.W.keepIn K (.ref f25) = true)
    {f26 : Addr} {od26 an26 : Option Addr} {sl26 : Array (Option Value)} {oc26 kV26 dc26 pm26 cd26 ct26 : Value}
    (a26 : PySem.W.nsIn K mainGlobals "_law_less" = some (some (.ref f26))) (l26 : K.lookup f26 = some ⟨oc26, od26, .func (PySem.W.fnOf "_law_less" "_law_less" (defArgs s__law_less) (defBody s__law_less) (defScope s__law_less) .none kV26 dc26 pm26 an26 cd26 ct26), sl26⟩) (c26 : PySem.W.codeIn K cd26 "_law_less" = true) (k26 : PySem.W.keepIn K (.ref f26) = true)
    {f27 : Addr} {od27 an27 : Option Addr} {sl27 : Array (Option Value)} {oc27 kV27 dc27 pm27 cd27 ct27 : Value}
    (a27 : PySem.W.nsIn K mainGlobals "_law_most" = some (some (.ref f27))) (l27 : K.lookup f27 = some ⟨oc27, od27, .func (PySem.W.fnOf "_law_most" "_law_most" (defArgs s__law_most) (defBody s__law_most) (defScope s__law_most) .none kV27 dc27 pm27 an27 cd27 ct27), sl27⟩) (c27 : PySem.W.codeIn K cd27 "_law_most" = true) (k27 : PySem.W.keepIn K (.ref f27) = true)
    {f28 : Addr} {od28 an28 : Option Addr} {sl28 : Array (Option Value)} {oc28 kV28 dc28 pm28 cd28 ct28 : Value}
    (a28 : PySem.W.nsIn K mainGlobals "law" = some (some (.ref f28))) (l28 : K.lookup f28 = some ⟨oc28, od28, .func (PySem.W.fnOf "law" "law" (defArgs s_law) (defBody s_law) (defScope s_law) .none kV28 dc28 pm28 an28 cd28 ct28), sl28⟩) (c28 : PySem.W.codeIn K cd28 "law" = true) (k28 : PySem.W.keepIn K (.ref f28) = true)
    {tk0 : Tok} (n0 : PySem.W.nsIn K mainGlobals "MOST_PARTS" = some (some (.int 30 tk0)))
    {tk1 : Tok} (n1 : PySem.W.nsIn K mainGlobals "MOST_RATIOS" = some (some (.int 6 tk1)))
    {tk2 : Tok} (n2 : PySem.W.nsIn K mainGlobals "MOST_STEP" = some (some (.int 64 tk2)))
    (z_isinstance : PySem.W.nsIn K mainGlobals "isinstance" = some none)
    (z_int : PySem.W.nsIn K mainGlobals "int" = some none)
    (z_bool : PySem.W.nsIn K mainGlobals "bool" = some none)
    (z_str : PySem.W.nsIn K mainGlobals "str" = some none)
    (z_tuple : PySem.W.nsIn K mainGlobals "tuple" = some none)
    (z_list : PySem.W.nsIn K mainGlobals "list" = some none)
    (z_len : PySem.W.nsIn K mainGlobals "len" = some none)
    (z_range : PySem.W.nsIn K mainGlobals "range" = some none)
    (z_abs : PySem.W.nsIn K mainGlobals "abs" = some none)
    (z_min : PySem.W.nsIn K mainGlobals "min" = some none)
    (z_max : PySem.W.nsIn K mainGlobals "max" = some none)
    (z_sum : PySem.W.nsIn K mainGlobals "sum" = some none)
    (z_sorted : PySem.W.nsIn K mainGlobals "sorted" = some none)
    (z_enumerate : PySem.W.nsIn K mainGlobals "enumerate" = some none)
    (z_zip : PySem.W.nsIn K mainGlobals "zip" = some none)
    (z_set : PySem.W.nsIn K mainGlobals "set" = some none)
    (z_any : PySem.W.nsIn K mainGlobals "any" = some none)
    (z_all : PySem.W.nsIn K mainGlobals "all" = some none)
    : ∃ fd : FuncData, (∀ (s : Shared) (v : Value), BindsTo s fd ⟨[v], []⟩ [("_law_script", v)]) ∧ ∀ base : Heap, K.In base → base.Ns mainGlobals mg → FnOk l.prog w K mg base CX0 7 fa fd ["_law_script"] (sp_law K) := by
  have e := hfa.symm.trans (PySem.W.mg_of X G a28)
  cases e
  have F0 := fun_mk (st := s__law_mix) l0 c0 k0
  have b0 := F0.binds (ps := ["_law_script", "_law_seed"]) fun _ _ _ _ _ _ us hl => match us, hl with | [_, _], _ => rfl
  have A0 : At K mg "_law_mix" s__law_mix ["_law_script", "_law_seed"] := ⟨_, _, F0, PySem.W.mg_of X G a0, b0⟩
  have F1 := fun_mk (st := s__law_alike) l1 c1 k1
  have b1 := F1.binds (ps := ["_law_found", "_law_due"]) fun _ _ _ _ _ _ us hl => match us, hl with | [_, _], _ => rfl
  have A1 : At K mg "_law_alike" s__law_alike ["_law_found", "_law_due"] := ⟨_, _, F1, PySem.W.mg_of X G a1, b1⟩
  have F2 := fun_mk (st := s__law_frac) l2 c2 k2
  have b2 := F2.binds (ps := ["_law_number", "_law_parts"]) fun _ _ _ _ _ _ us hl => match us, hl with | [_, _], _ => rfl
  have A2 : At K mg "_law_frac" s__law_frac ["_law_number", "_law_parts"] := ⟨_, _, F2, PySem.W.mg_of X G a2, b2⟩
  have F3 := fun_mk (st := s__law_double) l3 c3 k3
  have b3 := F3.binds (ps := ["_law_times"]) fun _ _ _ _ _ _ us hl => match us, hl with | [_], _ => rfl
  have A3 : At K mg "_law_double" s__law_double ["_law_times"] := ⟨_, _, F3, PySem.W.mg_of X G a3, b3⟩
  have F4 := fun_mk (st := s__law_word) l4 c4 k4
  have b4 := F4.binds (ps := ["_law_step", "_law_number"]) fun _ _ _ _ _ _ us hl => match us, hl with | [_, _], _ => rfl
  have A4 : At K mg "_law_word" s__law_word ["_law_step", "_law_number"] := ⟨_, _, F4, PySem.W.mg_of X G a4, b4⟩
  have F5 := fun_mk (st := s__law_mean) l5 c5 k5
  have b5 := F5.binds (ps := ["_law_step", "_law_ratio_here"]) fun _ _ _ _ _ _ us hl => match us, hl with | [_, _], _ => rfl
  have A5 : At K mg "_law_mean" s__law_mean ["_law_step", "_law_ratio_here"] := ⟨_, _, F5, PySem.W.mg_of X G a5, b5⟩
  have F6 := fun_mk (st := s_is_integer) l6 c6 k6
  have b6 := F6.binds (ps := ["thing", "low", "high"]) fun _ _ _ _ _ _ us hl => match us, hl with | [_, _, _], _ => rfl
  have A6 : At K mg "is_integer" s_is_integer ["thing", "low", "high"] := ⟨_, _, F6, PySem.W.mg_of X G a6, b6⟩
  have F7 := fun_mk (st := s_is_ratio) l7 c7 k7
  have b7 := F7.binds (ps := ["thing"]) fun _ _ _ _ _ _ us hl => match us, hl with | [_], _ => rfl
  have A7 : At K mg "is_ratio" s_is_ratio ["thing"] := ⟨_, _, F7, PySem.W.mg_of X G a7, b7⟩
  have F8 := fun_mk (st := s_divisor) l8 c8 k8
  have b8 := F8.binds (ps := ["one", "two"]) fun _ _ _ _ _ _ us hl => match us, hl with | [_, _], _ => rfl
  have A8 : At K mg "divisor" s_divisor ["one", "two"] := ⟨_, _, F8, PySem.W.mg_of X G a8, b8⟩
  have F9 := fun_mk (st := s_fraction) l9 c9 k9
  have b9 := F9.binds (ps := ["number", "parts"]) fun _ _ _ _ _ _ us hl => match us, hl with | [_, _], _ => rfl
  have A9 : At K mg "fraction" s_fraction ["number", "parts"] := ⟨_, _, F9, PySem.W.mg_of X G a9, b9⟩
  have F10 := fun_mk (st := s_minus) l10 c10 k10
  have b10 := F10.binds (ps := ["one", "two"]) fun _ _ _ _ _ _ us hl => match us, hl with | [_, _], _ => rfl
  have A10 : At K mg "minus" s_minus ["one", "two"] := ⟨_, _, F10, PySem.W.mg_of X G a10, b10⟩
  have F11 := fun_mk (st := s_power_of_two) l11 c11 k11
  have b11 := F11.binds (ps := ["times"]) fun _ _ _ _ _ _ us hl => match us, hl with | [_], _ => rfl
  have A11 : At K mg "power_of_two" s_power_of_two ["times"] := ⟨_, _, F11, PySem.W.mg_of X G a11, b11⟩
  have F12 := fun_mk (st := s_wide) l12 c12 k12
  have b12 := F12.binds (ps := ["step"]) fun _ _ _ _ _ _ us hl => match us, hl with | [_], _ => rfl
  have A12 : At K mg "wide" s_wide ["step"] := ⟨_, _, F12, PySem.W.mg_of X G a12, b12⟩
  have F13 := fun_mk (st := s_power) l13 c13 k13
  have b13 := F13.binds (ps := ["ratio", "times"]) fun _ _ _ _ _ _ us hl => match us, hl with | [_, _], _ => rfl
  have A13 : At K mg "power" s_power ["ratio", "times"] := ⟨_, _, F13, PySem.W.mg_of X G a13, b13⟩
  have F14 := fun_mk (st := s_plus) l14 c14 k14
  have b14 := F14.binds (ps := ["one", "two"]) fun _ _ _ _ _ _ us hl => match us, hl with | [_, _], _ => rfl
  have A14 : At K mg "plus" s_plus ["one", "two"] := ⟨_, _, F14, PySem.W.mg_of X G a14, b14⟩
  have F15 := fun_mk (st := s_quotient) l15 c15 k15
  have b15 := F15.binds (ps := ["one", "two"]) fun _ _ _ _ _ _ us hl => match us, hl with | [_, _], _ => rfl
  have A15 : At K mg "quotient" s_quotient ["one", "two"] := ⟨_, _, F15, PySem.W.mg_of X G a15, b15⟩
  have F16 := fun_mk (st := s_mean_by) l16 c16 k16
  have b16 := F16.binds (ps := ["step", "ratio"]) fun _ _ _ _ _ _ us hl => match us, hl with | [_, _], _ => rfl
  have A16 : At K mg "mean_by" s_mean_by ["step", "ratio"] := ⟨_, _, F16, PySem.W.mg_of X G a16, b16⟩
  have F17 := fun_mk (st := s_best_by) l17 c17 k17
  have b17 := F17.binds (ps := ["ratio"]) fun _ _ _ _ _ _ us hl => match us, hl with | [_], _ => rfl
  have A17 : At K mg "best_by" s_best_by ["ratio"] := ⟨_, _, F17, PySem.W.mg_of X G a17, b17⟩
  have F18 := fun_mk (st := s_loss_by) l18 c18 k18
  have b18 := F18.binds (ps := ["step", "ratio"]) fun _ _ _ _ _ _ us hl => match us, hl with | [_, _], _ => rfl
  have A18 : At K mg "loss_by" s_loss_by ["step", "ratio"] := ⟨_, _, F18, PySem.W.mg_of X G a18, b18⟩
  have F19 := fun_mk (st := s_is_less) l19 c19 k19
  have b19 := F19.binds (ps := ["one", "two"]) fun _ _ _ _ _ _ us hl => match us, hl with | [_, _], _ => rfl
  have A19 : At K mg "is_less" s_is_less ["one", "two"] := ⟨_, _, F19, PySem.W.mg_of X G a19, b19⟩
  have F20 := fun_mk (st := s_fair_step) l20 c20 k20
  have b20 := F20.binds (ps := ["ratios"]) fun _ _ _ _ _ _ us hl => match us, hl with | [_], _ => rfl
  have A20 : At K mg "fair_step" s_fair_step ["ratios"] := ⟨_, _, F20, PySem.W.mg_of X G a20, b20⟩
  have F21 := fun_mk (st := s__law_next) l21 c21 k21
  have b21 := F21.binds (ps := ["_law_h", "_law_cap"]) fun _ _ _ _ _ _ us hl => match us, hl with | [_, _], _ => rfl
  have A21 : At K mg "_law_next" s__law_next ["_law_h", "_law_cap"] := ⟨_, _, F21, PySem.W.mg_of X G a21, b21⟩
  have F22 := fun_mk (st := s__law_pick) l22 c22 k22
  have b22 := F22.binds (ps := ["_law_h", "_law_things"]) fun _ _ _ _ _ _ us hl => match us, hl with | [_, _], _ => rfl
  have A22 : At K mg "_law_pick" s__law_pick ["_law_h", "_law_things"] := ⟨_, _, F22, PySem.W.mg_of X G a22, b22⟩
  have F23 := fun_mk (st := s__law_ratio) l23 c23 k23
  have b23 := F23.binds (ps := ["_law_h"]) fun _ _ _ _ _ _ us hl => match us, hl with | [_], _ => rfl
  have A23 : At K mg "_law_ratio" s__law_ratio ["_law_h"] := ⟨_, _, F23, PySem.W.mg_of X G a23, b23⟩
  have F24 := fun_mk (st := s_check_ratio) l24 c24 k24
  have b24 := F24.binds (ps := ["thing"]) fun _ _ _ _ _ _ us hl => match us, hl with | [_], _ => rfl
  have A24 : At K mg "check_ratio" s_check_ratio ["thing"] := ⟨_, _, F24, PySem.W.mg_of X G a24, b24⟩
  have F25 := fun_mk (st := s_best_step) l25 c25 k25
  have b25 := F25.binds (ps := ["ratio"]) fun _ _ _ _ _ _ us hl => match us, hl with | [_], _ => rfl
  have A25 : At K mg "best_step" s_best_step ["ratio"] := ⟨_, _, F25, PySem.W.mg_of X G a25, b25⟩
  have F26 := fun_mk (st := s__law_less) l26 c26 k26
  have b26 := F26.binds (ps := ["_law_one", "_law_other"]) fun _ _ _ _ _ _ us hl => match us, hl with | [_, _], _ => rfl
  have A26 : At K mg "_law_less" s__law_less ["_law_one", "_law_other"] := ⟨_, _, F26, PySem.W.mg_of X G a26, b26⟩
  have F27 := fun_mk (st := s__law_most) l27 c27 k27
  have b27 := F27.binds (ps := ["_law_one", "_law_two"]) fun _ _ _ _ _ _ us hl => match us, hl with | [_, _], _ => rfl
  have A27 : At K mg "_law_most" s__law_most ["_law_one", "_law_two"] := ⟨_, _, F27, PySem.W.mg_of X G a27, b27⟩
  have F28 := fun_mk (st := s_law) l28 c28 k28
  have b28 := F28.binds (ps := ["_law_script"]) fun _ _ _ _ _ _ us hl => match us, hl with | [_], _ => rfl
  have A28 : At K mg "law" s_law ["_law_script"] := ⟨_, _, F28, PySem.W.mg_of X G a28, b28⟩
  have B : Bn mg := ⟨PySem.W.mg_none_of X G z_isinstance, PySem.W.mg_none_of X G z_int, PySem.W.mg_none_of X G z_bool, PySem.W.mg_none_of X G z_str, PySem.W.mg_none_of X G z_tuple, PySem.W.mg_none_of X G z_list, PySem.W.mg_none_of X G z_len, PySem.W.mg_none_of X G z_range, PySem.W.mg_none_of X G z_abs, PySem.W.mg_none_of X G z_min, PySem.W.mg_none_of X G z_max, PySem.W.mg_none_of X G z_sum, PySem.W.mg_none_of X G z_sorted, PySem.W.mg_none_of X G z_enumerate, PySem.W.mg_none_of X G z_zip, PySem.W.mg_none_of X G z_set, PySem.W.mg_none_of X G z_any, PySem.W.mg_none_of X G z_all⟩
  have N0 := PySem.W.mg_of X G n0
  have N1 := PySem.W.mg_of X G n1
  have N2 := PySem.W.mg_of X G n2
  refine ⟨PySem.W.fnOf "law" "law" (defArgs s_law) (defBody s_law) (defScope s_law) .none kV28 dc28 pm28 an28 cd28 ct28, fun s v => .of_eq rfl, fun base _ _ => ?_⟩
  have C0 : CalE l.prog w K mg base "_law_mix" ["_law_script", "_law_seed"] 1 (sp__law_mix K) := ok__law_mix A0 B
  have C1 : CalE l.prog w K mg base "_law_alike" ["_law_found", "_law_due"] 5 (sp__law_alike K) := ok__law_alike A1 B
  have C2 : CalE l.prog w K mg base "_law_frac" ["_law_number", "_law_parts"] 1 (sp__law_frac K) := ok__law_frac A2 B
  have C3 : CalE l.prog w K mg base "_law_double" ["_law_times"] 1 (sp__law_double K) := ok__law_double A3 B
  have C4 : CalE l.prog w K mg base "_law_word" ["_law_step", "_law_number"] 2 (sp__law_word K) := ok__law_word A4 B C3
  have C5 : CalE l.prog w K mg base "_law_mean" ["_law_step", "_law_ratio_here"] 3 (sp__law_mean K) := ok__law_mean A5 B C4 C2
  have C6 : CalE l.prog w K mg base "is_integer" ["thing", "low", "high"] 1 (sp_is_integer K) := ok_is_integer A6 B
  have C7 : CalE l.prog w K mg base "is_ratio" ["thing"] 2 (sp_is_ratio K) := ok_is_ratio A7 B C6 ⟨_, N0, _, rfl⟩
  have C8 : CalE l.prog w K mg base "divisor" ["one", "two"] 1 (sp_divisor K) := ok_divisor A8 B
  have C9 : CalE l.prog w K mg base "fraction" ["number", "parts"] 2 (sp_fraction K) := ok_fraction A9 B C8
  have C10 : CalE l.prog w K mg base "minus" ["one", "two"] 3 (sp_minus K) := ok_minus A10 B C9
  have C11 : CalE l.prog w K mg base "power_of_two" ["times"] 1 (sp_power_of_two K) := ok_power_of_two A11 B
  have C12 : CalE l.prog w K mg base "wide" ["step"] 2 (sp_wide K) := ok_wide A12 B C11
  have C13 : CalE l.prog w K mg base "power" ["ratio", "times"] 3 (sp_power K) := ok_power A13 B C9
  have C14 : CalE l.prog w K mg base "plus" ["one", "two"] 3 (sp_plus K) := ok_plus A14 B C9
  have C15 : CalE l.prog w K mg base "quotient" ["one", "two"] 3 (sp_quotient K) := ok_quotient A15 B C9
  have C16 : CalE l.prog w K mg base "mean_by" ["step", "ratio"] 4 (sp_mean_by K) := ok_mean_by A16 B C12 C13 C10 C11 C15 C14
  have C17 : CalE l.prog w K mg base "best_by" ["ratio"] 1 (sp_best_by K) := ok_best_by A17 B
  have C18 : CalE l.prog w K mg base "loss_by" ["step", "ratio"] 5 (sp_loss_by K) := ok_loss_by A18 B C10 C16 C17
  have C19 : CalE l.prog w K mg base "is_less" ["one", "two"] 1 (sp_is_less K) := ok_is_less A19 B
  have C20 : CalE l.prog w K mg base "fair_step" ["ratios"] 6 (sp_fair_step K) := ok_fair_step A20 B C7 C18 C19 ⟨_, N1, _, rfl⟩ ⟨_, N2, _, rfl⟩
  have C21 : CalE l.prog w K mg base "_law_next" ["_law_h", "_law_cap"] 1 (sp__law_next K) := ok__law_next A21 B
  have C22 : CalE l.prog w K mg base "_law_pick" ["_law_h", "_law_things"] 2 (sp__law_pick K) := ok__law_pick A22 B C21
  have C23 : CalE l.prog w K mg base "_law_ratio" ["_law_h"] 3 (sp__law_ratio K) := ok__law_ratio A23 B C21 C22
  have C24 : CalE l.prog w K mg base "check_ratio" ["thing"] 3 (sp_check_ratio K) := ok_check_ratio A24 B C7
  have C25 : CalE l.prog w K mg base "best_step" ["ratio"] 4 (sp_best_step K) := ok_best_step A25 B C24 C17
  have C26 : CalE l.prog w K mg base "_law_less" ["_law_one", "_law_other"] 2 (sp__law_less K) := ok__law_less A26 B C2
  have C27 : CalE l.prog w K mg base "_law_most" ["_law_one", "_law_two"] 1 (sp__law_most K) := ok__law_most A27 B
  exact ok_law F28 B C0 C22 C23 C5 C25 C26 C27 C1 C20
end St
open PySem PySem.W PyProof.Rows
set_option maxRecDepth 100000 in
set_option maxHeartbeats 0 in
theorem PySem.Challenge.cw_stepruns_k06_whole_fair_steps_holds : PySem.Challenge.rw_stepruns_k06_whole_fair_steps.Holds := by
  w_on; o_law; k_head; (case hw => w_witness2)
  k_fill
  refine L2.walk_of (l := PySem.Challenge.rw_stepruns_k06_whole_fair_steps) (n := 63) (k := 7) (x := "_law_script") (CX := fun _ => L2.CX0) (sp := fun w => St.sp_law _) rfl (by decide) rfl ⟨rfl, by decide, by decide⟩ (fun w h Y => PySem.W.kIn_of Y) ?F (fun _ _ a ns hl _ hS => ⟨a, ns, rfl, hS, hl, fun _ => rfl⟩) (fun _ _ _ _ _ h => h)
  case F =>
    intro w mg fa h KX G hmg
    refine' St.all_mk KX G hmg ?a0 ?l0 ?c0 ?k0 ?a1 ?l1 ?c1 ?k1 ?a2 ?l2 ?c2 ?k2 ?a3 ?l3 ?c3 ?k3 ?a4 ?l4 ?c4 ?k4 ?a5 ?l5 ?c5 ?k5 ?a6 ?l6 ?c6 ?k6 ?a7 ?l7 ?c7 ?k7 ?a8 ?l8 ?c8 ?k8 ?a9 ?l9 ?c9 ?k9 ?a10 ?l10 ?c10 ?k10 ?a11 ?l11 ?c11 ?k11 ?a12 ?l12 ?c12 ?k12 ?a13 ?l13 ?c13 ?k13 ?a14 ?l14 ?c14 ?k14 ?a15 ?l15 ?c15 ?k15 ?a16 ?l16 ?c16 ?k16 ?a17 ?l17 ?c17 ?k17 ?a18 ?l18 ?c18 ?k18 ?a19 ?l19 ?c19 ?k19 ?a20 ?l20 ?c20 ?k20 ?a21 ?l21 ?c21 ?k21 ?a22 ?l22 ?c22 ?k22 ?a23 ?l23 ?c23 ?k23 ?a24 ?l24 ?c24 ?k24 ?a25 ?l25 ?c25 ?k25 ?a26 ?l26 ?c26 ?k26 ?a27 ?l27 ?c27 ?k27 ?a28 ?l28 ?c28 ?k28 ?n0 ?n1 ?n2 ?z_isinstance ?z_int ?z_bool ?z_str ?z_tuple ?z_list ?z_len ?z_range ?z_abs ?z_min ?z_max ?z_sum ?z_sorted ?z_enumerate ?z_zip ?z_set ?z_any ?z_all
    (case a0 => k_is)
    (case l0 => k_is)
    (case c0 => k_is)
    (case k0 => k_is)
    (case a1 => k_is)
    (case l1 => k_is)
    (case c1 => k_is)
    (case k1 => k_is)
    (case a2 => k_is)
    (case l2 => k_is)
    (case c2 => k_is)
    (case k2 => k_is)
    (case a3 => k_is)
    (case l3 => k_is)
    (case c3 => k_is)
    (case k3 => k_is)
    (case a4 => k_is)
    (case l4 => k_is)
    (case c4 => k_is)
    (case k4 => k_is)
    (case a5 => k_is)
    (case l5 => k_is)
    (case c5 => k_is)
    (case k5 => k_is)
    (case a6 => k_is)
    (case l6 => k_is)
    (case c6 => k_is)
    (case k6 => k_is)
    (case a7 => k_is)
    (case l7 => k_is)
    (case c7 => k_is)
    (case k7 => k_is)
    (case a8 => k_is)
    (case l8 => k_is)
    (case c8 => k_is)
    (case k8 => k_is)
    (case a9 => k_is)
    (case l9 => k_is)
    (case c9 => k_is)
    (case k9 => k_is)
    (case a10 => k_is)
    (case l10 => k_is)
    (case c10 => k_is)
    (case k10 => k_is)
    (case a11 => k_is)
    (case l11 => k_is)
    (case c11 => k_is)
    (case k11 => k_is)
    (case a12 => k_is)
    (case l12 => k_is)
    (case c12 => k_is)
    (case k12 => k_is)
    (case a13 => k_is)
    (case l13 => k_is)
    (case c13 => k_is)
    (case k13 => k_is)
    (case a14 => k_is)
    (case l14 => k_is)
    (case c14 => k_is)
    (case k14 => k_is)
    (case a15 => k_is)
    (case l15 => k_is)
    (case c15 => k_is)
    (case k15 => k_is)
    (case a16 => k_is)
    (case l16 => k_is)
    (case c16 => k_is)
    (case k16 => k_is)
    (case a17 => k_is)
    (case l17 => k_is)
    (case c17 => k_is)
    (case k17 => k_is)
    (case a18 => k_is)
    (case l18 => k_is)
    (case c18 => k_is)
    (case k18 => k_is)
    (case a19 => k_is)
    (case l19 => k_is)
    (case c19 => k_is)
    (case k19 => k_is)
    (case a20 => k_is)
    (case l20 => k_is)
    (case c20 => k_is)
    (case k20 => k_is)
    (case a21 => k_is)
    (case l21 => k_is)
    (case c21 => k_is)
    (case k21 => k_is)
    (case a22 => k_is)
    (case l22 => k_is)
    (case c22 => k_is)
    (case k22 => k_is)
    (case a23 => k_is)
    (case l23 => k_is)
    (case c23 => k_is)
    (case k23 => k_is)
    (case a24 => k_is)
    (case l24 => k_is)
    (case c24 => k_is)
    (case k24 => k_is)
    (case a25 => k_is)
    (case l25 => k_is)
    (case c25 => k_is)
    (case k25 => k_is)
    (case a26 => k_is)
    (case l26 => k_is)
    (case c26 => k_is)
    (case k26 => k_is)
    (case a27 => k_is)
    (case l27 => k_is)
    (case c27 => k_is)
    (case k27 => k_is)
    (case a28 => k_is)
    (case l28 => k_is)
    (case c28 => k_is)
    (case k28 => k_is)
    (case n0 => k_is)
    (case n1 => k_is)
    (case n2 => k_is)
    (case z_isinstance => k_is)
    (case z_int => k_is)
    (case z_bool => k_is)
    (case z_str => k_is)
    (case z_tuple => k_is)
    (case z_list => k_is)
    (case z_len => k_is)
    (case z_range => k_is)
    (case z_abs => k_is)
    (case z_min => k_is)
    (case z_max => k_is)
    (case z_sum => k_is)
    (case z_sorted => k_is)
    (case z_enumerate => k_is)
    (case z_zip => k_is)
    (case z_set => k_is)
    (case z_any => k_is)
    (case z_all => k_is)
#print axioms PySem.Challenge.cw_stepruns_k06_whole_fair_steps_holds
