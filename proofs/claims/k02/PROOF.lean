import PyProof.Rows.All
import Wide.All
import OpenK.AllK
import Wide.FinOn
import HandS.ForMost
import HandS.ForExc
import HandS.Wide
import HandS.WideBits
import HandS.IsInst
import HandS.Codes
import HandS.TupAny
import HandS.TupLen
import HandS.Style
import HandS.Zip
import HandS.Small
import HandS.ExcIs
import PyProof.Draws
import PyProof.EnumMake
import PySem.Challenge.RW_stepruns_k02_whole_rows_read
set_option Elab.async false
set_option linter.all false
set_option maxRecDepth 100000
set_option maxHeartbeats 4000000
namespace St
open PySem PySem.Spec PyProof.Rows L2
/-! ### names that are still the built-ins -/
structure Bn (mg : Str → Option Value) : Prop where
  isinstance_ : mg "isinstance" = none
  int_ : mg "int" = none
  bool_ : mg "bool" = none
  str_ : mg "str" = none
  tuple_ : mg "tuple" = none
  list_ : mg "list" = none
  len_ : mg "len" = none
  range_ : mg "range" = none
  abs_ : mg "abs" = none
  min_ : mg "min" = none
  max_ : mg "max" = none
  sum_ : mg "sum" = none
  sorted_ : mg "sorted" = none
  enumerate_ : mg "enumerate" = none
  zip_ : mg "zip" = none
  set_ : mg "set" = none
  any_ : mg "any" = none
  all_ : mg "all" = none
/-- the def st stands as x -/
def At (K : PySem.W.Frag) (mg : Str → Option Value) (x : Str) (st : Stmt) (ps : List Str) : Prop :=
  ∃ f fd, Fun K x x st f fd ∧ mg x = some (.ref f) ∧ Binds K fd ps []
/-- a def that keeps its promise, ready to be called by its name -/
structure Cal (P : Program) (w : World) (K : PySem.W.Frag) (mg : Str → Option Value) (base : Heap) (x : Str) (ps : List Str) (k : Nat) (sp : Sp) (f : Addr) (fd : FuncData) : Prop where
  ok : FnOk P w K mg base CX0 k f fd ps sp
  g : mg x = some (.ref f)
  kp : PySem.W.keepIn K (.ref f) = true
  b : Binds K fd ps []
def CalE (P : Program) (w : World) (K : PySem.W.Frag) (mg : Str → Option Value) (base : Heap) (x : Str) (ps : List Str) (k : Nat) (sp : Sp) : Prop := ∃ f fd, Cal P w K mg base x ps k sp f fd
/-! ### heaps -/
theorem same_new {H : Hp} {p : Addr} (h : H p = none) (o : HO) : Same H (upd H p o) := fun b u q => by rw [upd_ne (ne_of_none q h)]; exact q
theorem Same.seqT {K : PySem.W.Frag} {H H' : Hp} {a : Addr} {xs : List V} (e : Same H H') (h : SqT K H a xs) : SqT K H' a xs := by
  rcases h with (h | ⟨o, h⟩) | h
  · exact .inl (.inl (e _ _ h))
  · exact .inl (.inr ⟨o, e _ _ h⟩)
  · exact .inr h
theorem tyL {K : PySem.W.Frag} {H : Hp} {a : Addr} {xs : List V} (h : SqL K H a xs) : TyX K H (.ref a) (.type "list") := by
  rcases h with (h | ⟨o, h⟩) | ⟨o, its, n, h, c, _⟩
  · exact .base (.lst h)
  · exact .base (.frz h)
  · exact .kList h c
theorem tyT {K : PySem.W.Frag} {H : Hp} {a : Addr} {xs : List V} (h : SqT K H a xs) : TyX K H (.ref a) (.type "tuple") := by
  rcases h with (h | ⟨o, h⟩) | ⟨o, its, n, h, c, _⟩
  · exact .base (.tup h)
  · exact .fTuple h
  · exact .kTuple h c
theorem SqL.new {K : PySem.W.Frag} {H : Hp} {p : Addr} {xs : List V} : SqL K (upd H p (.lst xs)) p xs := .inl (.inl upd_same)
theorem SqT.new {K : PySem.W.Frag} {H : Hp} {p : Addr} {xs : List V} : SqT K (upd H p (.tup xs)) p xs := .inl (.inl upd_same)
theorem ne_new {H : Hp} {a p : Addr} {o : HO} (h : H a = some o) (hp : H p = none) : p ≠ a := fun e => by rw [e, h] at hp; cases hp
theorem iteDT {p : Prop} [Decidable p] {A B : Prop} (h : p) (a : A) : if decide p = true then A else B := by
  rw [decide_eq_true h]
  exact iteT a
theorem iteDF {p : Prop} [Decidable p] {A B : Prop} (h : ¬ p) (b : B) : if decide p = true then A else B := by
  rw [decide_eq_false h]
  exact iteF b
theorem iteND {p : Prop} [Decidable p] {A B : Prop} (h : ¬ p) (a : A) : if (!decide p) = true then A else B := by
  rw [decide_eq_false h]
  exact iteT a
theorem iteNF {p : Prop} [Decidable p] {A B : Prop} (h : p) (b : B) : if (!decide p) = true then A else B := by
  rw [decide_eq_true h]
  exact iteF b
/-! ### ways that meet: what is left is shown once, for all that the ways may bring (G is read off the first way) -/
theorem joinG1 {α : Type} {R : Prop} {G : α → Prop} (C : α → Prop) (main : (∀ x, C x → G x) → R) (k : ∀ x, C x → G x) : R := main k
theorem joinG2 {α β : Type} {R : Prop} {G : α → β → Prop} (C : α → β → Prop) (main : (∀ x y, C x y → G x y) → R) (k : ∀ x y, C x y → G x y) : R := main k
theorem joinG3 {α β γ : Type} {R : Prop} {G : α → β → γ → Prop} (C : α → β → γ → Prop) (main : (∀ x y z, C x y z → G x y z) → R) (k : ∀ x y z, C x y z → G x y z) : R := main k
theorem joinG4 {α β γ δ : Type} {R : Prop} {G : α → β → γ → δ → Prop} (C : α → β → γ → δ → Prop) (main : (∀ x y z u, C x y z u → G x y z u) → R) (k : ∀ x y z u, C x y z u → G x y z u) : R := main k
theorem to_nx {i : Nat} {v : V} {σ σ' : List (Option V)} {H : Hp} {Q : List (Option V) → Hp → Prop} (e : σ.set i (some v) = σ') (h : Q σ' H) : gName i v σ H Q := by
  show Q (σ.set i (some v)) H
  rw [e]
  exact h
theorem to_next {D : Ends} {σ σ' : List (Option V)} {H : Hp} (e : σ = σ') (h : D.nx σ' H) : tNext D σ H := by
  show D.nx σ H
  rw [e]
  exact h
/-! ### data of lists, tuples, numbers, texts -/
/-- data no deeper than n, no list of it too long -/
def OkD : Nat → PyData → Prop
  | _, .none => True | _, .bool _ => True | _, .int _ => True | _, .str _ => True
  | n + 1, .list ds => ds.length ≤ 1000000 ∧ ∀ d ∈ ds, OkD n d
  | n + 1, .tuple ds => ds.length ≤ 1000000 ∧ ∀ d ∈ ds, OkD n d
  | _, _ => False
theorem DpAll.length {K : PySem.W.Frag} {H : Hp} : ∀ {xs : List V} {ds : List PyData}, DpAll K H xs ds → xs.length = ds.length
  | _, _, .nil => rfl
  | _, _, .cons _ t => congrArg (· + 1) (DpAll.length t)
theorem DpAll.get {K : PySem.W.Frag} {H : Hp} : ∀ {xs : List V} {ds : List PyData} {i : Nat} {d : PyData}, DpAll K H xs ds → ds[i]? = some d → ∃ x, xs[i]? = some x ∧ Dp K H x d
  | _, _, _, _, .nil, e => by simp at e
  | _, _, 0, _, .cons h _, e => by
    cases Option.some.inj (by simpa using e)
    exact ⟨_, rfl, h⟩
  | _, _, i + 1, _, .cons _ t, e => by
    obtain ⟨x, h1, h2⟩ := DpAll.get (i := i) t (by simpa using e)
    exact ⟨x, by simpa using h1, h2⟩
mutual
theorem Dp.same {K : PySem.W.Frag} {H H' : Hp} (s : Same H H') : ∀ {v : V} {d : PyData}, Dp K H v d → Dp K H' v d
  | _, _, .non => .non
  | _, _, .bl b => .bl b
  | _, _, .int i => .int i
  | _, _, .str x => .str x
  | _, _, .lst h t => .lst (s.seq h) (DpAll.same s t)
  | _, _, .tup h t => .tup (St.Same.seqT s h) (DpAll.same s t)
theorem DpAll.same {K : PySem.W.Frag} {H H' : Hp} (s : Same H H') : ∀ {v : List V} {d : List PyData}, DpAll K H v d → DpAll K H' v d
  | _, _, .nil => .nil
  | _, _, .cons h t => .cons (Dp.same s h) (DpAll.same s t)
end
def isTL : PyData → Bool
  | .list _ => true | .tuple _ => true | _ => false
/-- a list or tuple of data, opened -/
theorem Dp.seq {K : PySem.W.Frag} {H : Hp} {v : V} {d : PyData} (h : Dp K H v d) (hd : isTL d = true) : ∃ (a : Addr) (xs : List V) (ds : List PyData), v = .ref a ∧ (d = .list ds ∧ SqL K H a xs ∨ d = .tuple ds ∧ SqT K H a xs) ∧ DpAll K H xs ds := by
  cases h with
  | lst h t => exact ⟨_, _, _, rfl, .inl ⟨rfl, h⟩, t⟩
  | tup h t => exact ⟨_, _, _, rfl, .inr ⟨rfl, h⟩, t⟩
  | non => cases hd
  | bl => cases hd
  | int => cases hd
  | str => cases hd
theorem canAll {n : Nat} : ∀ ds : List PyData, (∀ d ∈ ds, d.canLay0 = true ∧ d.depth ≤ n) → PyData.canLayAll0 ds = true ∧ PyData.depthAll ds ≤ n
  | [], _ => ⟨by simp only [PyData.canLayAll0], by simp only [PyData.depthAll]; omega⟩
  | d :: ds, h => by
    obtain ⟨a, b⟩ := h d List.mem_cons_self
    obtain ⟨c, e⟩ := canAll ds fun x hx => h x (List.mem_cons_of_mem _ hx)
    refine ⟨?_, ?_⟩
    · simp only [PyData.canLayAll0]
      rw [a, c]
      rfl
    · simp only [PyData.depthAll]
      omega
/-- as OkD, the texts of plain signs -/
def OkN : Nat → PyData → Prop
  | _, .none => True | _, .bool _ => True | _, .int _ => True | _, .str x => PyData.strOk x = true
  | n + 1, .list ds => ∀ d ∈ ds, OkN n d
  | n + 1, .tuple ds => ∀ d ∈ ds, OkN n d
  | _, _ => False
theorem ok_can : ∀ (n : Nat) (d : PyData), OkN n d → d.canLay0 = true ∧ d.depth ≤ n
  | _, .none, _ => ⟨by simp only [PyData.canLay0], by simp only [PyData.depth]; omega⟩
  | _, .bool _, _ => ⟨by simp only [PyData.canLay0], by simp only [PyData.depth]; omega⟩
  | _, .int _, _ => ⟨by simp only [PyData.canLay0], by simp only [PyData.depth]; omega⟩
  | n, .str x, h => by
    have h' : PyData.strOk x = true := by cases n <;> exact h
    exact ⟨by simp only [PyData.canLay0]; exact h', by simp only [PyData.depth]; omega⟩
  | n + 1, .list ds, h => by
    obtain ⟨a, b⟩ := canAll ds fun d hd => ok_can n d (h d hd)
    exact ⟨by simp only [PyData.canLay0]; exact a, by simp only [PyData.depth]; omega⟩
  | n + 1, .tuple ds, h => by
    obtain ⟨a, b⟩ := canAll ds fun d hd => ok_can n d (h d hd)
    exact ⟨by simp only [PyData.canLay0]; exact a, by simp only [PyData.depth]; omega⟩
  | 0, .list _, h => h.elim
  | 0, .tuple _, h => h.elim
  | 0, .dict _, h => h.elim
  | _ + 1, .dict _, h => h.elim
theorem ok_shaped {n : Nat} {d : PyData} (h : OkN n d) (hn : n ≤ 60) : SeqAt.shaped d = true := by
  obtain ⟨a, b⟩ := ok_can n d h
  unfold SeqAt.shaped
  rw [a, decide_eq_true (by omega)]
  rfl
theorem eqv_nil (ds : List PyData) : PyData.eqv (.list ds) (.list []) = ds.isEmpty := by
  cases ds <;> rfl
/-! ### a text times a number -/
def repS (x : Str) (n : Nat) : Str := ⟨((List.replicate n x.cps.toList).flatten).toArray⟩
theorem repS_one (x : Str) : repS x 1 = x := by
  unfold repS
  simp
theorem fold_app (l : List (Array Nat)) (a : Array Nat) : (l.foldl (· ++ ·) a).toList = a.toList ++ (l.map Array.toList).flatten := by
  induction l generalizing a with
  | nil => simp
  | cons x r ih => simp [List.foldl_cons, ih, List.append_assoc]
section
variable {X : Cx}
theorem op_mul_str : OpR X (binaryOp .Mult) (fun x y H Q => ∃ z n, x = .str z ∧ y = .int n ∧ n < 2 ^ 62 ∧ -(2 ^ 62) < n ∧ z.length * n.toNat ≤ 1000000 ∧ Q (.str (repS z n.toNat)) H) := by
  intro pins s σ H x y v u Q I rx ry h
  obtain ⟨z, n, rfl, rfl, h1, h2, h3, q⟩ := h
  obtain ⟨t, rfl⟩ := rx
  obtain ⟨t', rfl⟩ := ry
  refine P.mul_str (by
    have a : ¬ n < -(2 ^ 63) := by omega
    have b : ¬ n ≥ 2 ^ 63 := by omega
    rw [decide_eq_false a, decide_eq_false b]; rfl) (fun hn _ hb => ?_) (fun hn _ => ?_) ?_
  · have hp : 0 < n := by omega
    have e1 : (z.length : Int) * n ≤ 1000000 := by
      have e0 : ((n.toNat : Nat) : Int) = n := Int.toNat_of_nonneg (by omega)
      have e4 : ((z.length * n.toNat : Nat) : Int) ≤ 1000000 := Int.ofNat_le.mpr h3
      rw [Int.natCast_mul, e0] at e4
      exact e4
    have e2 : (2 ^ 63 - 1) / n < (z.length : Int) := hb
    have e3 : (2 ^ 63 - 1 : Int) < z.length * n := (Int.ediv_lt_iff_lt_mul hp).mp e2
    generalize (z.length : Int) * n = w at e1 e3
    omega
  · refine decide_eq_false ?_
    have z : sizeLine = 16777216 := sizeLine_eq
    omega
  · by_cases hn : n < 1
    · rw [if_pos hn]
      refine ⟨by decide, ?_⟩
      have e : n.toNat = 0 := by omega
      rw [e] at q
      exact ⟨.str _, H, I.tok _, ⟨_, rfl⟩, q⟩
    · rw [if_neg hn]
      by_cases hm : (n == 1 || z.length == 0) = true
      · rw [if_pos hm]
        have e : repS z n.toNat = z := by
          rw [Bool.or_eq_true] at hm
          rcases hm with hm | hm
          · have : n = 1 := by simpa using hm
            subst this
            exact repS_one z
          · have hz : z.cps.size = 0 := by simpa [Str.length] using hm
            obtain ⟨c⟩ := z
            have : c = #[] := Array.eq_empty_of_size_eq_zero hz
            subst this
            unfold repS
            simp
        rw [e] at q
        exact ⟨.str _, H, I, ⟨_, rfl⟩, q⟩
      · rw [if_neg hm]
        have e : (⟨(List.replicate n.toNat z.cps).foldl (· ++ ·) #[]⟩ : Str) = repS z n.toNat := by
          unfold repS
          congr 1
          apply Array.toList_inj.mp
          rw [fold_app]
          simp [List.map_replicate]
        rw [e]
        refine ⟨?_, ⟨.str _, H, I.tok _, ⟨_, rfl⟩, q⟩⟩
        rw [← e]
        refine fits_reps (decide_eq_false ?_)
        have z : sizeLine = 16777216 := sizeLine_eq
        omega
theorem ip_add_str : PIp X .Add (fun x y H Q => ∃ i j, x = .str i ∧ y = .str j ∧ i.length + j.length ≤ sizeLine ∧ Q (.str (i ++ j)) H) := iop_add_str
end
/-! ### walks over a text -/
theorem lc_str {x : Str} {g : TG} {tt : TT} {te : TE} {vs : List Nat} {σ : List (Option V)} {H1 : Hp} {D : Addr} {Qd : Hp → Prop} (Pv : Nat → Hp → Prop) (h0 : Pv 0 (upd H1 D (.lst [])))
    (hs : ∀ i c H, x.cps.toList[i]? = some c → Pv i H → g (.str ⟨#[c]⟩) (wipe σ vs) H fun σ2 H2 => wipe σ2 vs = wipe σ vs ∧ tt σ2 H2 fun b H3 =>
      if b = true then te σ2 H3 fun y H4 => ∃ acc, H4 D = some (.lst acc) ∧ acc.length < sizeLine ∧ Pv (i + 1) (upd H4 D (.lst (acc ++ [y]))) else Pv (i + 1) H3) (hd : ∀ H, Pv x.cps.size H → Qd H) :
    ∃ W : Nat → Nat → Hp → Prop, (∃ m, W 0 m (upd H1 D (.lst []))) ∧ ∀ i m H, W i m H →
      ((Its x).stop i H ∧ Qd H) ∨ ((Its x).go i H ∧ ∃ Nx : Hp → Prop, (∀ H', Nx H' → ∃ m', m' < m ∧ W (i + 1) m' H') ∧ ∀ v H', (Its x).yld i H v H' → g v (wipe σ vs) H' fun σ2 H2 => wipe σ2 vs = wipe σ vs ∧ tt σ2 H2 fun b H3 =>
        if b = true then te σ2 H3 fun y H4 => ∃ acc, H4 D = some (.lst acc) ∧ acc.length < sizeLine ∧ Nx (upd H4 D (.lst (acc ++ [y]))) else Nx H3) := by
  refine ⟨fun i m H => m = x.cps.size - i ∧ i ≤ x.cps.size ∧ Pv i H, ⟨x.cps.size, by simp, Nat.zero_le _, h0⟩, ?_⟩
  rintro i m H ⟨rfl, hi, p⟩
  by_cases hlt : i < x.cps.size
  · refine .inr ⟨hlt, Pv (i + 1), fun H' p' => ⟨x.cps.size - (i + 1), by omega, rfl, hlt, p'⟩, fun v H' y => ?_⟩
    obtain ⟨e, c, ec, ev⟩ := y
    subst e ev
    exact hs i c _ (by rw [Array.getElem?_toList]; exact ec) p
  · have e : i = x.cps.size := by omega
    subst e
    exact .inl ⟨Nat.le_refl _, hd H p⟩
theorem for_str {x : Str} {g : TG} {tb : TS} {D : Ends} {σ : List (Option V)} {H : Hp} (Pv : Nat → List (Option V) → Hp → Prop) (h0 : Pv 0 σ H)
    (hs : ∀ i c σ H, x.cps.toList[i]? = some c → Pv i σ H → g (.str ⟨#[c]⟩) σ H fun σ2 H2 => tb { D with nx := Pv (i + 1), ct := Pv (i + 1), bk := D.nx } σ2 H2) (hd : ∀ σ H, Pv x.cps.size σ H → D.nx σ H) :
    ∃ W : Nat → Nat → List (Option V) → Hp → Prop, (∃ m, W 0 m σ H) ∧ ∀ i m σ H, W i m σ H →
      ((Its x).stop i H ∧ D.nx σ H) ∨ ((Its x).go i H ∧ ∃ N : List (Option V) → Hp → Prop, (∀ σ' H', N σ' H' → ∃ m', m' < m ∧ W (i + 1) m' σ' H') ∧ ∀ v H', (Its x).yld i H v H' → g v σ H' fun σ2 H2 => tb { D with nx := N, ct := N, bk := D.nx } σ2 H2) := by
  refine ⟨fun i m σ H => m = x.cps.size - i ∧ i ≤ x.cps.size ∧ Pv i σ H, ⟨x.cps.size, by simp, Nat.zero_le _, h0⟩, ?_⟩
  rintro i m σ H ⟨rfl, hi, p⟩
  by_cases hlt : i < x.cps.size
  · refine .inr ⟨hlt, Pv (i + 1), fun σ' H' p' => ⟨x.cps.size - (i + 1), by omega, rfl, hlt, p'⟩, fun v H' y => ?_⟩
    obtain ⟨e, c, ec, ev⟩ := y
    subst e ev
    exact hs i c σ _ (by rw [Array.getElem?_toList]; exact ec) p
  · have e : i = x.cps.size := by omega
    subst e
    exact .inl ⟨Nat.le_refl _, hd σ H p⟩
/-! ### the rules with the written part K by name (within a comprehension X.K is not read off) -/
section
variable {X : Cx} (K : PySem.W.Frag)
theorem ix_list_ (h : X.K = K := by rfl) : IxR X (rIxL K) := h ▸ ix_list
theorem ix_tup_ (h : X.K = K := by rfl) : IxR X (rIxT K) := h ▸ ix_tup
theorem ix_seq_ (h : X.K = K := by rfl) : IxR X (rIx K) := h ▸ ix_seq
theorem sl_list_ (h : X.K = K := by rfl) : SlR X (rSlL K) := h ▸ sl_list
theorem sl_tupA_ (h : X.K = K := by rfl) : SlR X (rSlA K) := h ▸ sl_tupA
def rLenV (K : PySem.W.Frag) : List V → Hp → VK → Prop := fun xs H Q => ∃ x n, xs = [x] ∧ LenV K x H n ∧ Q (.int (n : Nat)) H
theorem call_len_ (h : X.K = K := by rfl) : CallR X (.builtin "len") (rLenV K) := h ▸ call_len
def rLenQ (K : PySem.W.Frag) : List V → Hp → VK → Prop := fun xs H Q => ∃ p ys, xs = [.ref p] ∧ (SqL K H p ys ∨ SqT K H p ys) ∧ Q (.int ys.length) H
theorem call_len_seq_ (h : X.K = K := by rfl) : CallR X (.builtin "len") (rLenQ K) := h ▸ call_len_seq
def rLenS : List V → Hp → VK → Prop := fun xs H Q => ∃ z, xs = [.str z] ∧ z.length ≤ sizeLine ∧ Q (.int z.length) H
theorem call_len_str_ : CallR X (.builtin "len") rLenS := call_len_str
theorem call_isi_ (h : X.K = K := by rfl) : CallR X (.builtin "isinstance") (rIsi K) := h ▸ call_isi
theorem call_isiT_ (h : X.K = K := by rfl) : CallR X (.builtin "isinstance") (rIsiT K) := h ▸ call_isiT
theorem cr_sum_ (hc : X.calm = true) (h : X.K = K := by rfl) : CallR X (.builtin "sum") (rSum K) := h ▸ cr_sum hc
theorem cr_max_ (hc : X.calm = true) (h : X.K = K := by rfl) : CallR X (.builtin "max") (rMax K) := h ▸ cr_max hc
theorem cr_min_ (hc : X.calm = true) (h : X.K = K := by rfl) : CallR X (.builtin "min") (rMin K) := h ▸ cr_min hc
theorem cr_all_ (hc : X.calm = true) (h : X.K = K := by rfl) : CallR X (.builtin "all") (rAll K) := h ▸ cr_all hc
theorem cr_any_ (hc : X.calm = true) (h : X.K = K := by rfl) : CallR X (.builtin "any") (rAny K) := h ▸ cr_any hc
def rTupOf (K : PySem.W.Frag) : List V → Hp → VK → Prop := fun xs H Q => ∃ p ys, xs = [.ref p] ∧ ((SqL K H p ys ∧ ∀ l, H l = none → Q (.ref l) (upd H l (.tup ys))) ∨ (SqT K H p ys ∧ Q (.ref p) H))
theorem call_tuple_of_ (h : X.K = K := by rfl) : CallR X (.type "tuple") (rTupOf K) := h ▸ call_tuple_of
def rListOf (K : PySem.W.Frag) : List V → Hp → VK → Prop := fun xs H Q => ∃ p ys, xs = [.ref p] ∧ (SqL K H p ys ∨ SqT K H p ys) ∧ ∀ l, H l = none → Q (.ref l) (upd H l (.lst ys))
theorem call_list_of_ (h : X.K = K := by rfl) : CallR X (.type "list") (rListOf K) := h ▸ call_list_of
theorem op_eqD_ (hu : X.A.units + 64 < cLine) (h : X.K = K := by rfl) : OpR X (compareOp .Eq) (rEqD K) := h ▸ op_eqD hu
theorem op_neD_ (hu : X.A.units + 64 < cLine) (h : X.K = K := by rfl) : OpR X (compareOp .NotEq) (rNeD K) := h ▸ op_neD hu
theorem op_in_seq_ (h : X.K = K := by rfl) : OpR X (compareOp .In) (rIn K false) := h ▸ op_in_seq
theorem op_notIn_seq_ (h : X.K = K := by rfl) : OpR X (compareOp .NotIn) (rIn K true) := h ▸ op_notIn_seq
def rJoinK (K : PySem.W.Frag) : V → List V → Hp → VK → Prop := fun x xs H Q => ∃ a p, ∃ ys : List Str, x = .str a ∧ xs = [.ref p] ∧ (SqL K H p (ys.map V.str) ∨ SqT K H p (ys.map V.str)) ∧ (ys.map (·.length)).sum + ys.length * a.length ≤ 16777216 ∧ Q (.str (Txt.join a ys)) H
theorem pe_join_ {o e : Expr} {to te : TE} {apos pos : Pos} (ho : PE X o to) (he : PE X e te) (hK : X.K = K := by rfl) (hs : starEach [e] X.env = [(false, eval e X.env)] := by rfl) (hbase : attributeBase o "join" X.env (eval o X.env) = eval o X.env := by rfl) (hline : (apos.endLine == pos.line) = true := by rfl) :
    PE X (.Call (.Attribute o "join" apos) [e] [] pos) (tM1 (rJoinK K) to te) := hK ▸ pe_join ho he hs hbase hline
theorem op_catA_ (h : X.K = K := by rfl) : OpR X (binaryOp .Add) (rCatA K) := h ▸ op_catA
end
/-! ### what the law's own draws keep -/
/-- a source of draws: at h a list of a number, a list of numbers at q, a number -/
structure LawH (H : Hp) (h q : Addr) : Prop where
  ne : h ≠ q
  src : ∃ (st ix : Int) (cells : List Int), H h = some (.lst [.int st, .ref q, .int ix]) ∧ H q = some (.lst (cells.map V.int)) ∧ cells.length ≤ 1000
/-- all but the source stands as it was -/
def Sm (h q : Addr) (H H' : Hp) : Prop := ∀ b o, H b = some o → b ≠ h → b ≠ q → H' b = some o
theorem Sm.refl (h q : Addr) (H : Hp) : Sm h q H H := fun _ _ e _ _ => e
theorem Sm.trans {h q : Addr} {H H1 H2 : Hp} (a : Sm h q H H1) (b : Sm h q H1 H2) : Sm h q H H2 := fun c o e n m => b c o (a c o e n m) n m
theorem Sm.of {h q : Addr} {H H' : Hp} (a : Same H H') : Sm h q H H' := fun c o e _ _ => a c o e
theorem Sm.seq {K : PySem.W.Frag} {h q : Addr} {H H' : Hp} {a : Addr} {xs : List V} (e : Sm h q H H') (n1 : a ≠ h) (n2 : a ≠ q) (z : SqL K H a xs) : SqL K H' a xs := by
  rcases z with (z | ⟨o, z⟩) | z
  · exact .inl (.inl (e _ _ z n1 n2))
  · exact .inl (.inr ⟨o, e _ _ z n1 n2⟩)
  · exact .inr z
theorem Sm.seqT {K : PySem.W.Frag} {h q : Addr} {H H' : Hp} {a : Addr} {xs : List V} (e : Sm h q H H') (n1 : a ≠ h) (n2 : a ≠ q) (z : SqT K H a xs) : SqT K H' a xs := by
  rcases z with (z | ⟨o, z⟩) | z
  · exact .inl (.inl (e _ _ z n1 n2))
  · exact .inl (.inr ⟨o, e _ _ z n1 n2⟩)
  · exact .inr z
theorem LawH.same {H H' : Hp} {h q : Addr} (L : LawH H h q) (a : Same H H') : LawH H' h q := by
  obtain ⟨n, st, ix, cells, e1, e2, e3⟩ := L
  exact ⟨n, st, ix, cells, a _ _ e1, a _ _ e2, e3⟩
theorem LawH.nn {H : Hp} {h q : Addr} (L : LawH H h q) : H h ≠ Option.none ∧ H q ≠ Option.none := by
  obtain ⟨n, st, ix, cells, e1, e2, e3⟩ := L
  exact ⟨fun z => by (rw [e1] at z; cases z), fun z => by (rw [e2] at z; cases z)⟩
theorem LawH.tup_ne {H : Hp} {h q t : Addr} {xs : List V} (L : LawH H h q) (e : H t = some (.tup xs)) : t ≠ h ∧ t ≠ q := by
  obtain ⟨n, st, ix, cells, e1, e2, e3⟩ := L
  exact ⟨fun z => by (rw [z, e1] at e; cases e), fun z => by (rw [z, e2] at e; cases e)⟩
theorem LawH.updL {H : Hp} {h q D : Addr} {l : List V} (L : LawH H h q) (n1 : D ≠ h) (n2 : D ≠ q) : LawH (upd H D (.lst l)) h q := by
  obtain ⟨ne, st, ix, cells, a, b, d⟩ := L
  exact ⟨ne, st, ix, cells, by rw [upd_ne (Ne.symm n1)]; exact a, by rw [upd_ne (Ne.symm n2)]; exact b, d⟩
theorem SqT.updL {K : PySem.W.Frag} {H : Hp} {a D : Addr} {xs l l' : List V} (e : H D = some (.lst l)) (z : SqT K H a xs) : SqT K (upd H D (.lst l')) a xs := by
  rcases z with (z | ⟨o, z⟩) | z
  · exact .inl (.inl (by rw [upd_ne (fun y => by rw [y, e] at z; cases z)]; exact z))
  · exact .inl (.inr ⟨o, by rw [upd_ne (fun y => by rw [y, e] at z; cases z)]; exact z⟩)
  · exact .inr z
end St
namespace St
open PySem PySem.Spec PyProof.Rows L2
/-! ### texts of the signs 0 and 1, words by a step -/
def sg (b : Bool) : Nat := if b then 49 else 48
theorem sg_inj {a b : Bool} (h : sg a = sg b) : a = b := by
  cases a <;> cases b <;> first | rfl | (exact absurd h (by decide))
/-- the text of some signs -/
def tx (l : List Bool) : Str := ⟨(l.map sg).toArray⟩
theorem tx_list (l : List Bool) : (tx l).cps.toList = l.map sg := by simp [tx]
theorem tx_len (l : List Bool) : (tx l).length = l.length := by simp [tx, Str.length]
theorem str_ext {a b : Str} (h : a.cps.toList = b.cps.toList) : a = b := by
  obtain ⟨a⟩ := a
  obtain ⟨b⟩ := b
  exact congrArg Str.mk (Array.toList_inj.mp h)
theorem app_list (a b : Str) : (a ++ b).cps.toList = a.cps.toList ++ b.cps.toList := by
  show (Str.append a b).cps.toList = _
  unfold Str.append
  simp
theorem tx_app (a b : List Bool) : tx a ++ tx b = tx (a ++ b) := by
  apply str_ext
  rw [app_list, tx_list, tx_list, tx_list, List.map_append]
theorem tx_inj {a b : List Bool} (h : tx a = tx b) : a = b := by
  have e : a.map sg = b.map sg := by rw [← tx_list, ← tx_list, h]
  exact (List.map_inj_right (fun _ _ h => sg_inj h)).mp e
theorem tx_one : ("1" : Str) = tx [true] := by decide +kernel
theorem tx_zero : ("0" : Str) = tx [false] := by decide +kernel
theorem tx_nil : ("" : Str) = tx [] := by decide +kernel
theorem tx_rep (b : Bool) (n : Nat) : repS (tx [b]) n = tx (List.replicate n b) := by
  apply str_ext
  unfold repS
  rw [tx_list]
  simp only [tx_list, List.map_replicate]
  induction n with
  | zero => rfl
  | succ n ih =>
    rw [List.replicate_succ, List.flatten_cons, ih, List.replicate_succ]
    rfl
/-- so many figures of a number by twos, the highest first -/
def fig (n : Nat) : Nat → List Bool
  | 0 => []
  | k + 1 => (n / 2 ^ k % 2 == 1) :: fig n k
theorem fig_len (n k : Nat) : (fig n k).length = k := by
  induction k with
  | zero => rfl
  | succ k ih => rw [fig, List.length_cons, ih]
/-- what figures are worth -/
def worth : List Bool → Nat
  | [] => 0
  | b :: r => (if b then 2 ^ r.length else 0) + worth r
theorem worth_fig (n k : Nat) : worth (fig n k) = n % 2 ^ k := by
  induction k with
  | zero => simp [fig, worth, Nat.mod_one]
  | succ k ih =>
    rw [fig, worth, ih, fig_len, Nat.pow_succ, Nat.mod_mul]
    have := Nat.mod_two_eq_zero_or_one (n / 2 ^ k)
    rcases this with h | h <;> rw [h] <;> simp <;> omega
theorem worth_lt (l : List Bool) : worth l < 2 ^ l.length := by
  induction l with
  | nil => simp [worth]
  | cons b r ih =>
    rw [worth, List.length_cons, Nat.pow_succ]
    split <;> omega
/-- the least number of figures for all rests -/
def wideN (m : Nat) : Nat := if m ≤ 1 then 0 else Nat.log2 (m - 1) + 1
theorem wide_le (m : Nat) : m ≤ 2 ^ wideN m := by
  unfold wideN
  split
  · omega
  · have := Nat.lt_log2_self (n := m - 1)
    omega
theorem wide_lt (m d : Nat) (h : d < wideN m) : 2 ^ d < m := by
  unfold wideN at h
  split at h
  · omega
  · have h1 := Nat.log2_self_le (n := m - 1) (by omega)
    have h2 : 2 ^ d ≤ 2 ^ (m - 1).log2 := Nat.pow_le_pow_right (by decide) (by omega)
    omega
theorem wide_eq {m c : Nat} (h1 : m ≤ 2 ^ c) (h2 : ∀ d, d < c → 2 ^ d < m) : wideN m = c := by
  rcases Nat.lt_trichotomy (wideN m) c with h | h | h
  · have a := h2 _ h
    have b := wide_le m
    omega
  · exact h
  · have a := wide_lt m c h
    omega
theorem wide_64 {m : Nat} (h : m ≤ 64) : wideN m ≤ 6 := by
  refine Nat.not_lt.mp fun c => ?_
  have := wide_lt m 6 c
  omega
def shortN (m : Nat) : Nat := 2 ^ wideN m - m
theorem short_lt {m : Nat} (h : 1 ≤ m) : shortN m < m := by
  unfold shortN
  have h1 := wide_le m
  cases e : wideN m with
  | zero =>
    rw [e] at h1
    simp at h1
    simp
    omega
  | succ c =>
    have h2 := wide_lt m c (by omega)
    rw [Nat.pow_succ]
    omega
theorem short_zero {m : Nat} (h : wideN m = 0) (h1 : 1 ≤ m) : m = 1 := by
  have := wide_le m
  rw [h] at this
  simp at this
  omega
/-- the word for a rest -/
def restB (m r : Nat) : List Bool := if r < shortN m then fig r (wideN m - 1) else fig (r + shortN m) (wideN m)
/-- the word for a number -/
def wordB (m n : Nat) : List Bool := List.replicate (n / m) true ++ false :: restB m (n % m)
theorem rest_len (m r : Nat) : (restB m r).length = if r < shortN m then wideN m - 1 else wideN m := by
  unfold restB
  split <;> rw [fig_len]
theorem rest_len_le (m r : Nat) : (restB m r).length ≤ wideN m := by
  rw [rest_len]
  split <;> omega
theorem word_len (m n : Nat) : (wordB m n).length = n / m + 1 + (restB m (n % m)).length := by
  unfold wordB
  simp
  omega
/-- a place of a text -/
theorem cut_tx (l : List Bool) (i j : Nat) : cutS (tx l) (some (i : Int)) (some (j : Int)) = tx ((l.drop i).take (j - i)) := by
  apply str_ext
  unfold cutS
  rw [tx_list, tx_len, HT.sIx_nat, HT.sIx_nat, tx_list]
  simp only [List.map_take, List.map_drop]
  by_cases h : i ≤ l.length
  · rw [Nat.min_eq_left h]
    by_cases h2 : j ≤ l.length
    · rw [Nat.min_eq_left h2]
    · rw [Nat.min_eq_right (show l.length ≤ j by omega)]
      rw [List.take_of_length_le (by simp), List.take_of_length_le (by simp; omega)]
  · rw [Nat.min_eq_right (show l.length ≤ i by omega)]
    have e1 : List.drop l.length (l.map sg) = [] := List.drop_eq_nil_of_le (by simp)
    have e2 : List.drop i (l.map sg) = [] := List.drop_eq_nil_of_le (by simp; omega)
    rw [e1, e2]
    simp
theorem cut_to (l : List Bool) (j : Nat) : cutS (tx l) none (some (j : Int)) = tx (l.take j) := by
  have := cut_tx l 0 j
  have e : cutS (tx l) none (some (j : Int)) = cutS (tx l) (some ((0 : Nat) : Int)) (some (j : Int)) := by
    unfold cutS
    have e0 : HT.sIx (tx l).length 0 (some ((0 : Nat) : Int)) = 0 := by rw [HT.sIx_nat, Nat.min_eq_left (Nat.zero_le _)]
    rw [e0, HT.sIx_none]
  rw [e, this, List.drop_zero, Nat.sub_zero]
theorem cut_from (l : List Bool) (i : Nat) : cutS (tx l) (some (i : Int)) none = tx (l.drop i) := by
  apply str_ext
  unfold cutS
  rw [tx_list, tx_len, HT.sIx_nat, HT.sIx_none, tx_list]
  simp only [List.map_drop]
  by_cases h : i ≤ l.length
  · rw [Nat.min_eq_left h, List.take_of_length_le (by simp)]
  · rw [Nat.min_eq_right (show l.length ≤ i by omega)]
    have e1 : List.drop l.length (l.map sg) = [] := List.drop_eq_nil_of_le (by simp)
    have e2 : List.drop i (l.map sg) = [] := List.drop_eq_nil_of_le (by simp; omega)
    rw [e1, e2]
    simp
/-- the sign at a place, as it is asked: text[at:at + 1] == "1" -/
theorem cut_at (l : List Bool) (i : Nat) : cutS (tx l) (some (i : Int)) (some ((i : Int) + 1)) = tx (l[i]?.toList) := by
  have := cut_tx l i (i + 1)
  rw [show ((i + 1 : Nat) : Int) = (i : Int) + 1 by omega] at this
  rw [this, Nat.add_sub_cancel_left]
  congr 1
  cases h : l[i]? with
  | none =>
    rw [List.drop_eq_nil_of_le (List.getElem?_eq_none_iff.mp h)]
    rfl
  | some b =>
    obtain ⟨hi, e⟩ := List.getElem?_eq_some_iff.mp h
    rw [List.drop_eq_getElem_cons hi, e]
    rfl
theorem at_is (o : Option Bool) : (tx o.toList = tx [true]) ↔ o = some true := by
  constructor
  · intro h
    have := tx_inj h
    cases o with
    | none => cases this
    | some b => exact congrArg some (List.cons.inj this).1
  · rintro rfl
    rfl
theorem fig_get (n k i : Nat) (h : i < k) : (fig n k)[i]? = some (n / 2 ^ (k - 1 - i) % 2 == 1) := by
  induction k generalizing i with
  | zero => omega
  | succ k ih =>
    cases i with
    | zero => simp [fig]
    | succ i =>
      rw [fig, List.getElem?_cons_succ, ih i (by omega)]
      rw [show k + 1 - 1 - (i + 1) = k - 1 - i by omega]
theorem take_more {α : Type} {l : List α} {i : Nat} {x : α} (h : l[i]? = some x) : l.take (i + 1) = l.take i ++ [x] := by
  rw [List.take_add_one, h]
  rfl
theorem fig_take (n k i : Nat) (h : i < k) : (fig n k).take (i + 1) = (fig n k).take i ++ [n / 2 ^ (k - 1 - i) % 2 == 1] := take_more (fig_get n k i h)
theorem bit_int (n d : Nat) : (((n : Int) / ((2 ^ d : Nat) : Int) % 2 = 1)) ↔ (n / 2 ^ d % 2 == 1) = true := by
  rw [beq_iff_eq, ← Int.natCast_ediv]
  omega
end St
namespace St
open PySem PySem.Spec PyProof.Rows L2
/-! ### reading words -/
def onesN : List Bool → Nat
  | true :: r => onesN r + 1
  | _ => 0
/-- the number whose word begins a row of signs, and how long it is -/
def rd (m : Nat) (l : List Bool) : Option (Nat × Nat) :=
  let k := onesN l
  let t := l.drop (k + 1)
  let c := wideN m
  let r := worth (t.take (c - 1))
  if l.length ≤ k then none else if t.length < c - 1 then none else
    if 0 < c ∧ shortN m ≤ r then (if t.length < c then none else some (k * m + (2 * r + (if t[c - 1]? = some true then 1 else 0) - shortN m), k + 1 + c))
    else some (k * m + r, k + 1 + (c - 1))
theorem ones_rep (k : Nat) (t : List Bool) : onesN (List.replicate k true ++ false :: t) = k := by
  induction k with
  | zero => rfl
  | succ k ih =>
    rw [List.replicate_succ, List.cons_append, onesN, ih]
theorem ones_split : ∀ (l : List Bool), onesN l < l.length → l = List.replicate (onesN l) true ++ false :: l.drop (onesN l + 1)
  | [], h => by cases h
  | false :: r, _ => rfl
  | true :: r, h => by
    have e : onesN (true :: r) = onesN r + 1 := rfl
    rw [e] at h ⊢
    have ih := ones_split r (by rw [List.length_cons] at h; omega)
    rw [List.replicate_succ, List.cons_append, List.drop_succ_cons]
    rw [← ih]
theorem fig_snoc (n k : Nat) : fig n (k + 1) = fig (n / 2) k ++ [n % 2 == 1] := by
  induction k with
  | zero => simp [fig]
  | succ k ih =>
    rw [fig, ih, fig, List.cons_append]
    rw [Nat.div_div_eq_div_mul, Nat.pow_succ, Nat.mul_comm 2]
theorem fig_worth (l : List Bool) : fig (worth l) l.length = l := by
  have low : ∀ (l : List Bool) (a : Nat), fig (a * 2 ^ l.length + worth l) l.length = l := by
    intro l
    induction l with
    | nil => intro a; rfl
    | cons b r ih =>
      intro a
      have hw := worth_lt r
      rw [List.length_cons, fig, worth]
      have e1 : a * 2 ^ (r.length + 1) + ((if b then 2 ^ r.length else 0) + worth r) = (2 * a + (if b then 1 else 0)) * 2 ^ r.length + worth r := by
        rw [Nat.pow_succ]
        cases b <;> simp <;> grind
      rw [e1, ih]
      congr 1
      rw [Nat.add_comm, Nat.add_mul_div_right _ _ (Nat.pow_pos (by decide)), Nat.div_eq_of_lt hw]
      cases b <;> simp <;> omega
  have := low l 0
  rw [Nat.zero_mul, Nat.zero_add] at this
  exact this
theorem worth_snoc (l : List Bool) (b : Bool) : worth (l ++ [b]) = 2 * worth l + (if b then 1 else 0) := by
  induction l with
  | nil => cases b <;> rfl
  | cons a r ih =>
    rw [List.cons_append, worth, ih, worth, List.length_append, List.length_singleton, Nat.pow_succ]
    cases a <;> simp <;> omega
theorem pow_half {c : Nat} (h : 1 ≤ c) : 2 ^ c = 2 * 2 ^ (c - 1) := by
  obtain ⟨d, rfl⟩ : ∃ d, c = d + 1 := ⟨c - 1, by omega⟩
  rw [Nat.add_sub_cancel, Nat.pow_succ']
theorem short_half {m : Nat} (h : 1 ≤ wideN m) : shortN m < 2 ^ (wideN m - 1) := by
  have := wide_lt m (wideN m - 1) (by omega)
  have e := pow_half h
  have hp : 0 < 2 ^ (wideN m - 1) := Nat.pow_pos (by decide)
  unfold shortN
  omega
theorem short_add {m : Nat} : shortN m + m = 2 ^ wideN m := by
  have := wide_le m
  unfold shortN
  omega
theorem rd_word (m : Nat) (hm : 1 ≤ m) (n : Nat) (post : List Bool) : rd m (wordB m n ++ post) = some (n, (wordB m n).length) := by
  have hk : onesN (wordB m n ++ post) = n / m := by
    unfold wordB
    rw [List.append_assoc, List.cons_append, ones_rep]
  have ht : (wordB m n ++ post).drop (n / m + 1) = restB m (n % m) ++ post := by
    have e : wordB m n ++ post = (List.replicate (n / m) true ++ [false]) ++ (restB m (n % m) ++ post) := by
      unfold wordB
      simp [List.append_assoc]
    rw [e]
    exact List.drop_left' (by simp)
  have hr : n % m < m := Nat.mod_lt _ hm
  have hsa := @short_add m
  have hlen : (wordB m n).length = n / m + 1 + (restB m (n % m)).length := word_len m n
  have hn : n / m * m + n % m = n := Nat.div_add_mod' n m
  unfold rd
  simp only [hk, ht]
  rw [if_neg (by rw [List.length_append, hlen]; omega)]
  by_cases c : n % m < shortN m
  · have w1 : 1 ≤ wideN m := by
      refine Nat.not_lt.mp fun z => ?_
      have e := short_zero (show wideN m = 0 by omega) hm
      subst e
      have : shortN 1 = 0 := by decide
      omega
    have hh := short_half w1
    have er : restB m (n % m) = fig (n % m) (wideN m - 1) := if_pos c
    have el : (restB m (n % m)).length = wideN m - 1 := by rw [er, fig_len]
    have et : (restB m (n % m) ++ post).take (wideN m - 1) = fig (n % m) (wideN m - 1) := by
      rw [List.take_append_of_le_length (by omega), ← el, List.take_length, er, fig_len]
    rw [if_neg (by rw [List.length_append]; omega), et, worth_fig, Nat.mod_eq_of_lt (by omega), if_neg (by omega), hlen, el, hn]
  · have er : restB m (n % m) = fig (n % m + shortN m) (wideN m) := if_neg c
    have el : (restB m (n % m)).length = wideN m := by rw [er, fig_len]
    by_cases w0 : wideN m = 0
    · have e := short_zero w0 hm
      subst e
      rw [if_neg (by rw [List.length_append, w0]; omega), if_neg (by omega), hlen, el, w0]
      simp [worth] at hn ⊢
    · obtain ⟨d, hd⟩ : ∃ d, wideN m = d + 1 := ⟨wideN m - 1, by omega⟩
      have ef : fig (n % m + shortN m) (wideN m) = fig ((n % m + shortN m) / 2) d ++ [(n % m + shortN m) % 2 == 1] := by rw [hd, fig_snoc]
      have et : (restB m (n % m) ++ post).take (wideN m - 1) = fig ((n % m + shortN m) / 2) d := by
        rw [er, ef, hd, List.append_assoc, Nat.add_sub_cancel]
        rw [List.take_append_of_le_length (by rw [fig_len]; exact Nat.le_refl _), List.take_of_length_le (by rw [fig_len]; exact Nat.le_refl _)]
      have eg : (restB m (n % m) ++ post)[wideN m - 1]? = some ((n % m + shortN m) % 2 == 1) := by
        rw [er, ef, hd, List.append_assoc, Nat.add_sub_cancel]
        rw [List.getElem?_append_right (by rw [fig_len]; exact Nat.le_refl _), fig_len, Nat.sub_self]
        rfl
      have hlt : (n % m + shortN m) / 2 < 2 ^ d := by
        have : 2 ^ wideN m = 2 * 2 ^ d := by rw [hd, Nat.pow_succ']
        omega
      rw [if_neg (by rw [List.length_append]; omega), et, worth_fig, Nat.mod_eq_of_lt hlt, if_pos ⟨by omega, by omega⟩, if_neg (by rw [List.length_append]; omega), eg, hlen, el]
      congr 2
      have hb : (if some ((n % m + shortN m) % 2 == 1) = some true then 1 else 0) = (n % m + shortN m) % 2 := by
        rcases Nat.mod_two_eq_zero_or_one (n % m + shortN m) with h | h <;> rw [h] <;> rfl
      rw [hb]
      omega
theorem rd_some (m : Nat) (hm : 1 ≤ m) (l : List Bool) (n e : Nat) (h : rd m l = some (n, e)) : ∃ post, l = wordB m n ++ post ∧ e = (wordB m n).length := by
  unfold rd at h
  simp only at h
  have hsa := @short_add m
  by_cases h1 : l.length ≤ onesN l
  · rw [if_pos h1] at h
    cases h
  rw [if_neg h1] at h
  have hl := ones_split l (by omega)
  generalize onesN l = k at *
  generalize l.drop (k + 1) = t at *
  subst hl
  by_cases h2 : t.length < wideN m - 1
  · rw [if_pos h2] at h
    cases h
  rw [if_neg h2] at h
  have tl : (t.take (wideN m - 1)).length = wideN m - 1 := by
    rw [List.length_take]
    omega
  have wl := worth_lt (t.take (wideN m - 1))
  rw [tl] at wl
  have fw := fig_worth (t.take (wideN m - 1))
  rw [tl] at fw
  by_cases h3 : 0 < wideN m ∧ shortN m ≤ worth (t.take (wideN m - 1))
  · rw [if_pos h3] at h
    by_cases h4 : t.length < wideN m
    · rw [if_pos h4] at h
      cases h
    rw [if_neg h4] at h
    obtain ⟨b, hb⟩ : ∃ b, t[wideN m - 1]? = some b := ⟨_, List.getElem?_eq_getElem (by omega)⟩
    rw [hb] at h
    have e2 := pow_half (c := wideN m) (by omega)
    generalize hbv : (if some b = some true then 1 else 0) = bv at h
    have hbv2 : bv ≤ 1 := by
      rw [← hbv]
      split <;> omega
    obtain ⟨rfl, rfl⟩ : k * m + (2 * worth (t.take (wideN m - 1)) + bv - shortN m) = n ∧ k + 1 + wideN m = e := by
      have := Option.some.inj h
      exact ⟨congrArg (·.1) this, congrArg (·.2) this⟩
    have r0 : 2 * worth (t.take (wideN m - 1)) + bv - shortN m < m := by omega
    have d1 : (k * m + (2 * worth (t.take (wideN m - 1)) + bv - shortN m)) / m = k := by
      rw [Nat.add_comm, Nat.add_mul_div_right _ _ (by omega), Nat.div_eq_of_lt r0, Nat.zero_add]
    have d2 : (k * m + (2 * worth (t.take (wideN m - 1)) + bv - shortN m)) % m = 2 * worth (t.take (wideN m - 1)) + bv - shortN m := by
      rw [Nat.add_comm, Nat.add_mul_mod_self_right, Nat.mod_eq_of_lt r0]
    have et : t.take (wideN m) = t.take (wideN m - 1) ++ [b] := by
      have := take_more hb
      rw [show wideN m - 1 + 1 = wideN m by omega] at this
      exact this
    have er : restB m (2 * worth (t.take (wideN m - 1)) + bv - shortN m) = t.take (wideN m) := by
      unfold restB
      rw [if_neg (by omega), show 2 * worth (t.take (wideN m - 1)) + bv - shortN m + shortN m = 2 * worth (t.take (wideN m - 1)) + bv by omega]
      have hw := worth_snoc (t.take (wideN m - 1)) b
      have hw2 : worth (t.take (wideN m)) = 2 * worth (t.take (wideN m - 1)) + bv := by
        rw [et, hw, ← hbv]
        cases b <;> rfl
      rw [← hw2]
      have := fig_worth (t.take (wideN m))
      rw [List.length_take, Nat.min_eq_left (by omega)] at this
      exact this
    refine ⟨t.drop (wideN m), ?_, ?_⟩
    · unfold wordB
      rw [d1, d2, er, List.append_assoc, List.cons_append, List.take_append_drop]
    · rw [word_len, d1, d2, er, List.length_take]
      omega
  · rw [if_neg h3] at h
    obtain ⟨rfl, rfl⟩ : k * m + worth (t.take (wideN m - 1)) = n ∧ k + 1 + (wideN m - 1) = e := by
      have := Option.some.inj h
      exact ⟨congrArg (·.1) this, congrArg (·.2) this⟩
    have r0 : worth (t.take (wideN m - 1)) < m := by
      by_cases w0 : wideN m = 0
      · rw [w0] at wl
        simp at wl
        rw [w0]
        simp [worth]
        omega
      · have := short_lt hm
        have : worth (t.take (wideN m - 1)) < shortN m := Nat.not_le.mp fun z => h3 ⟨by omega, z⟩
        omega
    have d1 : (k * m + worth (t.take (wideN m - 1))) / m = k := by
      rw [Nat.add_comm, Nat.add_mul_div_right _ _ (by omega), Nat.div_eq_of_lt r0, Nat.zero_add]
    have d2 : (k * m + worth (t.take (wideN m - 1))) % m = worth (t.take (wideN m - 1)) := by
      rw [Nat.add_comm, Nat.add_mul_mod_self_right, Nat.mod_eq_of_lt r0]
    have er : restB m (worth (t.take (wideN m - 1))) = t.take (wideN m - 1) := by
      unfold restB
      by_cases w0 : wideN m = 0
      · rw [if_neg (by have := short_zero w0 hm; subst this; have : shortN 1 = 0 := by decide
                       omega), w0]
        simp [fig]
      · have : worth (t.take (wideN m - 1)) < shortN m := Nat.not_le.mp fun z => h3 ⟨by omega, z⟩
        rw [if_pos this]
        exact fw
    refine ⟨t.drop (wideN m - 1), ?_, ?_⟩
    · unfold wordB
      rw [d1, d2, er, List.append_assoc, List.cons_append, List.take_append_drop]
    · rw [word_len, d1, d2, er, List.length_take]
      omega
theorem word_pre {m : Nat} (hm : 1 ≤ m) {a b : Nat} {p q : List Bool} (h : wordB m a ++ p = wordB m b ++ q) : a = b ∧ p = q := by
  have e1 := rd_word m hm a p
  have e2 := rd_word m hm b q
  rw [h, e2] at e1
  have e3 : b = a := congrArg (·.1) (Option.some.inj e1)
  subst e3
  exact ⟨rfl, List.append_cancel_left h⟩
theorem word_pos (m n : Nat) : 1 ≤ (wordB m n).length := by
  rw [word_len]
  generalize n / m = k
  omega
theorem ones_at : ∀ (l : List Bool) (i : Nat), i ≤ onesN l → (l[i]? = some true ↔ i < onesN l)
  | [], i, h => by
    have e : onesN [] = 0 := rfl
    rw [e]
    simp
  | false :: r, i, h => by
    have e : onesN (false :: r) = 0 := rfl
    rw [e] at h ⊢
    have : i = 0 := by omega
    subst this
    simp
  | true :: r, 0, h => by
    have e : onesN (true :: r) = onesN r + 1 := rfl
    rw [e]
    simp
  | true :: r, i + 1, h => by
    have e : onesN (true :: r) = onesN r + 1 := rfl
    rw [e] at h ⊢
    have ih := ones_at r i (by omega)
    rw [List.getElem?_cons_succ, ih]
    omega
theorem ones_le (l : List Bool) : onesN l ≤ l.length := by
  induction l with
  | nil => exact Nat.le_refl _
  | cons b r ih =>
    cases b
    · exact Nat.zero_le _
    · show onesN r + 1 ≤ r.length + 1
      omega
def bitN (t : List Bool) (i : Nat) : Nat := if t[i]? = some true then 1 else 0
theorem bitN_le (t : List Bool) (i : Nat) : bitN t i ≤ 1 := by
  unfold bitN
  split <;> omega
/-- what the first figures tell, those that lack being 0 -/
def pvN (t : List Bool) : Nat → Nat
  | 0 => 0
  | i + 1 => 2 * pvN t i + bitN t i
theorem pvN_eq (t : List Bool) : ∀ i, i ≤ t.length → pvN t i = worth (t.take i)
  | 0, _ => by simp [pvN, worth]
  | i + 1, h => by
    have ih := pvN_eq t i (by omega)
    have e : t[i]? = some t[i] := List.getElem?_eq_getElem (by omega)
    rw [pvN, ih, take_more e, worth_snoc]
    unfold bitN
    rw [e]
    cases t[i] <;> rfl
theorem pvN_lt (t : List Bool) : ∀ i, pvN t i < 2 ^ i
  | 0 => Nat.one_pos
  | i + 1 => by
    have ih := pvN_lt t i
    have := bitN_le t i
    rw [pvN, Nat.pow_succ]
    omega
/-- the same with figures that may lack, as the program reckons -/
theorem rd_pv (m : Nat) (l : List Bool) : rd m l =
    (if l.length ≤ onesN l then none else
      if 0 < wideN m ∧ shortN m ≤ pvN (l.drop (onesN l + 1)) (wideN m - 1) then
        (if onesN l + 1 + (wideN m - 1) + 1 ≤ l.length then some (onesN l * m + (2 * pvN (l.drop (onesN l + 1)) (wideN m - 1) + bitN (l.drop (onesN l + 1)) (wideN m - 1) - shortN m), onesN l + 1 + (wideN m - 1) + 1) else none)
      else (if onesN l + 1 + (wideN m - 1) ≤ l.length then some (onesN l * m + pvN (l.drop (onesN l + 1)) (wideN m - 1), onesN l + 1 + (wideN m - 1)) else none)) := by
  unfold rd
  simp only
  by_cases h1 : l.length ≤ onesN l
  · rw [if_pos h1, if_pos h1]
  rw [if_neg h1, if_neg h1]
  have tl : (l.drop (onesN l + 1)).length = l.length - (onesN l + 1) := List.length_drop
  by_cases h2 : (l.drop (onesN l + 1)).length < wideN m - 1
  · rw [if_pos h2]
    split
    · rw [if_neg (by omega)]
    · rw [if_neg (by omega)]
  rw [if_neg h2, pvN_eq _ _ (by omega)]
  by_cases h3 : 0 < wideN m ∧ shortN m ≤ worth ((l.drop (onesN l + 1)).take (wideN m - 1))
  · rw [if_pos h3, if_pos h3]
    by_cases h4 : (l.drop (onesN l + 1)).length < wideN m
    · rw [if_pos h4, if_neg (by omega)]
    · rw [if_neg h4]
      unfold bitN
      rw [if_pos (show onesN l + 1 + (wideN m - 1) + 1 ≤ l.length by omega)]
      rw [show onesN l + 1 + wideN m = onesN l + 1 + (wideN m - 1) + 1 by omega]
  · rw [if_neg h3, if_neg h3, if_pos (by omega)]
/-- the number whose word begins at a place, and where it ends -/
def feN (m : Nat) (l : List Bool) (b : Nat) : Option (Nat × Nat) := (rd m (l.drop b)).map fun p => (p.1, b + p.2)
theorem rd_le {m : Nat} {l : List Bool} {n e : Nat} (hm : 1 ≤ m) (h : rd m l = some (n, e)) : 1 ≤ e ∧ e ≤ l.length := by
  obtain ⟨post, rfl, rfl⟩ := rd_some m hm l n e h
  exact ⟨word_pos m n, by rw [List.length_append]; omega⟩
/-- all words that stand one behind the other, and where each ends -/
def cutsF (m : Nat) : Nat → List Bool → Nat → List (Nat × Nat)
  | 0, _, _ => []
  | f + 1, l, b => match rd m l with
    | none => []
    | some (n, e) => (n, b + e) :: cutsF m f (l.drop e) (b + e)
def cuts (m : Nat) (l : List Bool) : List (Nat × Nat) := cutsF m (l.length + 1) l 0
theorem cutsF_none {m : Nat} {l : List Bool} (h : rd m l = none) (f b : Nat) : cutsF m f l b = [] := by
  cases f with
  | zero => rfl
  | succ f => rw [cutsF, h]
theorem cutsF_some {m : Nat} {l : List Bool} {n e : Nat} (h : rd m l = some (n, e)) (f b : Nat) : cutsF m (f + 1) l b = (n, b + e) :: cutsF m f (l.drop e) (b + e) := by
  rw [cutsF, h]
theorem cutsF_fuel {m : Nat} (hm : 1 ≤ m) : ∀ (f g : Nat) (l : List Bool) (b : Nat), l.length < f → l.length < g → cutsF m f l b = cutsF m g l b
  | 0, _, _, _, h, _ => by omega
  | _ + 1, 0, _, _, _, h => by omega
  | f + 1, g + 1, l, b, h1, h2 => by
    cases h : rd m l with
    | none => rw [cutsF_none h, cutsF_none h]
    | some p =>
      obtain ⟨n, e⟩ := p
      obtain ⟨e1, e2⟩ := rd_le hm h
      rw [cutsF_some h, cutsF_some h]
      rw [cutsF_fuel hm f g (l.drop e) (b + e) (by rw [List.length_drop]; omega) (by rw [List.length_drop]; omega)]
theorem rd_nil (m : Nat) : rd m [] = none := by
  unfold rd
  simp
theorem cuts_word {m : Nat} (hm : 1 ≤ m) (n : Nat) : cuts m (wordB m n) = [(n, (wordB m n).length)] := by
  have h := rd_word m hm n []
  rw [List.append_nil] at h
  unfold cuts
  rw [cutsF_some h, List.drop_length, cutsF_none (rd_nil m), Nat.zero_add]
/-! ### words of greater numbers are greater -/
def ltB (a b : List Bool) : Prop := ∃ c p q, a = c ++ false :: p ∧ b = c ++ true :: q
theorem worth_ltB : ∀ (a b : List Bool) (p q : List Bool), a.length = b.length → worth a < worth b → ltB (a ++ p) (b ++ q)
  | [], b, p, q, hl, h => by
    cases b with
    | nil => exact absurd h (by decide)
    | cons => cases hl
  | x :: a, [], p, q, hl, h => by cases hl
  | x :: a, y :: b, p, q, hl, h => by
    have hl' : a.length = b.length := by simpa using hl
    rw [worth, worth, hl'] at h
    have h1 := worth_lt a
    have h2 := worth_lt b
    rw [hl'] at h1
    cases x <;> cases y
    · obtain ⟨c, p', q', e1, e2⟩ := worth_ltB a b p q hl' (by simpa using h)
      exact ⟨false :: c, p', q', by rw [List.cons_append, e1]; rfl, by rw [List.cons_append, e2]; rfl⟩
    · exact ⟨[], a ++ p, b ++ q, rfl, rfl⟩
    · simp at h
      omega
    · obtain ⟨c, p', q', e1, e2⟩ := worth_ltB a b p q hl' (by simpa using h)
      exact ⟨true :: c, p', q', by rw [List.cons_append, e1]; rfl, by rw [List.cons_append, e2]; rfl⟩
theorem ltB_pre (c : List Bool) {a b : List Bool} (h : ltB a b) : ltB (c ++ a) (c ++ b) := by
  obtain ⟨d, p, q, rfl, rfl⟩ := h
  exact ⟨c ++ d, p, q, by rw [List.append_assoc], by rw [List.append_assoc]⟩
theorem rest_ltB {m r s : Nat} (hm : 1 ≤ m) (hs : s < m) (h : r < s) : ltB (restB m r) (restB m s) := by
  have hsa := @short_add m
  unfold restB
  by_cases c1 : s < shortN m
  · have w1 : 1 ≤ wideN m := by
      refine Nat.not_lt.mp fun z => ?_
      have e := short_zero (show wideN m = 0 by omega) hm
      subst e
      have : shortN 1 = 0 := by decide
      omega
    have hh := short_half w1
    rw [if_pos (by omega), if_pos c1]
    have := worth_ltB (fig r (wideN m - 1)) (fig s (wideN m - 1)) [] [] (by rw [fig_len, fig_len]) (by rw [worth_fig, worth_fig, Nat.mod_eq_of_lt (by omega), Nat.mod_eq_of_lt (by omega)]; exact h)
    simpa using this
  · rw [if_neg c1]
    by_cases c2 : r < shortN m
    · rw [if_pos c2]
      have w1 : 1 ≤ wideN m := by
        refine Nat.not_lt.mp fun z => ?_
        have e := short_zero (show wideN m = 0 by omega) hm
        subst e
        have : shortN 1 = 0 := by decide
        omega
      have hh := short_half w1
      have ph := pow_half w1
      obtain ⟨d, hd⟩ : ∃ d, wideN m = d + 1 := ⟨wideN m - 1, by omega⟩
      rw [hd, fig_snoc, Nat.add_sub_cancel]
      rw [hd, Nat.add_sub_cancel] at hh ph
      have := worth_ltB (fig r d) (fig ((s + shortN m) / 2) d) [] [(s + shortN m) % 2 == 1] (by rw [fig_len, fig_len]) (by
        rw [worth_fig, worth_fig, Nat.mod_eq_of_lt (by omega), Nat.mod_eq_of_lt (by rw [hd] at hsa; omega)]
        omega)
      simpa using this
    · rw [if_neg c2]
      have := worth_ltB (fig (r + shortN m) (wideN m)) (fig (s + shortN m) (wideN m)) [] [] (by rw [fig_len, fig_len]) (by rw [worth_fig, worth_fig, Nat.mod_eq_of_lt (by omega), Nat.mod_eq_of_lt (by omega)]; omega)
      simpa using this
theorem word_ltB {m a b : Nat} (hm : 1 ≤ m) (h : a < b) : ltB (wordB m a) (wordB m b) := by
  have ha := Nat.div_add_mod' a m
  have hb := Nat.div_add_mod' b m
  have ra := Nat.mod_lt a (show m > 0 by omega)
  have rb := Nat.mod_lt b (show m > 0 by omega)
  have hle : a / m ≤ b / m := Nat.div_le_div_right (by omega)
  unfold wordB
  by_cases c : a / m = b / m
  · rw [c]
    refine ltB_pre _ ?_
    have := ltB_pre [false] (rest_ltB (m := m) (r := a % m) (s := b % m) hm rb (by rw [c] at ha; omega))
    simpa using this
  · obtain ⟨d, hd⟩ : ∃ d, b / m = a / m + (d + 1) := ⟨b / m - a / m - 1, by omega⟩
    rw [hd, ← List.replicate_append_replicate, List.append_assoc]
    refine ltB_pre _ ⟨[], restB m (a % m), List.replicate d true ++ false :: restB m (b % m), rfl, ?_⟩
    rw [List.replicate_succ]
    rfl
theorem ltB_codes {a b : List Bool} (h : ltB a b) : a.map sg < b.map sg := by
  obtain ⟨c, p, q, rfl, rfl⟩ := h
  rw [List.map_append, List.map_append]
  induction c with
  | nil =>
    show (48 :: p.map sg : List Nat) < 49 :: q.map sg
    exact List.Lex.rel (by decide)
  | cons x c ih => exact List.Lex.cons ih
theorem codes_irrefl (a : List Nat) : ¬ a < a := List.lt_irrefl a
theorem ltB_not {a b : List Bool} (h : ltB a b) : ¬ b.map sg < a.map sg := fun z => List.lt_irrefl _ (List.lt_trans (ltB_codes h) z)
/-- where the last word ends -/
def endOf (r : List (Nat × Nat)) : Nat := (r.getLast?.map (·.2)).getD 0
theorem endOf_snoc (r : List (Nat × Nat)) (x : Nat × Nat) : endOf (r ++ [x]) = x.2 := by
  unfold endOf
  rw [List.getLast?_concat]
  rfl
/-- vs are tuples of these pairs -/
structure PrAt (H : Hp) (vs : List V) (r : List (Nat × Nat)) : Prop where
  len : vs.length = r.length
  at_ : ∀ (i : Nat) (x : Nat × Nat), r[i]? = some x → ∃ t, vs[i]? = some (.ref t) ∧ H t = some (.tup [.int (x.1 : Nat), .int (x.2 : Nat)])
theorem PrAt.same {H H' : Hp} {vs : List V} {r : List (Nat × Nat)} (h : PrAt H vs r) (s : Same H H') : PrAt H' vs r := ⟨h.len, fun i x e => by
  obtain ⟨t, a, b⟩ := h.at_ i x e
  exact ⟨t, a, s _ _ b⟩⟩
theorem PrAt.snoc {H : Hp} {vs : List V} {r : List (Nat × Nat)} {t : Addr} {n e : Nat} (h : PrAt H vs r) (ht : H t = some (.tup [.int (n : Nat), .int (e : Nat)])) : PrAt H (vs ++ [.ref t]) (r ++ [(n, e)]) := by
  refine ⟨by rw [List.length_append, List.length_append, h.len]; rfl, fun i x hx => ?_⟩
  by_cases hi : i < r.length
  · rw [List.getElem?_append_left hi] at hx
    obtain ⟨t', a, b⟩ := h.at_ i x hx
    exact ⟨t', by rw [List.getElem?_append_left (by rw [h.len]; exact hi)]; exact a, b⟩
  · have hi2 : i < (r ++ [(n, e)]).length := (List.getElem?_eq_some_iff.mp hx).1
    rw [List.length_append, List.length_singleton] at hi2
    have : i = r.length := by omega
    subst this
    rw [List.getElem?_append_right (Nat.le_refl _), Nat.sub_self] at hx
    cases Option.some.inj hx
    exact ⟨t, by rw [← h.len, List.getElem?_append_right (Nat.le_refl _), Nat.sub_self]; rfl, ht⟩
def prD (r : List (Nat × Nat)) : List PyData := r.map fun p => .tuple [.int (p.1 : Nat), .int (p.2 : Nat)]
theorem PrAt.dpAll {K : PySem.W.Frag} {H : Hp} : ∀ {vs : List V} {r : List (Nat × Nat)}, PrAt H vs r → DpAll K H vs (prD r)
  | [], [], _ => .nil
  | [], _ :: _, h => by have := h.len; cases this
  | _ :: _, [], h => by have := h.len; cases this
  | v :: vs, x :: r, h => by
    obtain ⟨t, a, b⟩ := h.at_ 0 x rfl
    cases Option.some.inj a
    have h' : PrAt H vs r := ⟨by have := h.len; simpa using this, fun i y e => h.at_ (i + 1) y e⟩
    exact .cons (.tup (.inl (.inl b)) (.cons (.int _) (.cons (.int _) .nil))) (PrAt.dpAll h')
theorem prD_ok (r : List (Nat × Nat)) : OkN 2 (.list (prD r)) := by
  intro d hd
  obtain ⟨p, _, rfl⟩ := List.mem_map.mp hd
  intro d hd
  simp only [List.mem_cons, List.not_mem_nil, or_false] at hd
  rcases hd with rfl | rfl <;> trivial
theorem rd_bound {m : Nat} (hm : 1 ≤ m) {l : List Bool} {b n e : Nat} (hb : b ≤ l.length) (h : feN m l b = some (n, e)) : b < e ∧ e ≤ l.length ∧ ∃ d, rd m (l.drop b) = some (n, d) ∧ e = b + d := by
  unfold feN at h
  cases h2 : rd m (l.drop b) with
  | none => rw [h2] at h; cases h
  | some p =>
    obtain ⟨n', d⟩ := p
    rw [h2] at h
    obtain ⟨rfl, rfl⟩ : n' = n ∧ b + d = e := by
      have := Option.some.inj h
      exact ⟨congrArg (·.1) this, congrArg (·.2) this⟩
    have := rd_le hm h2
    rw [List.length_drop] at this
    exact ⟨by omega, by omega, d, rfl, rfl⟩
theorem fe_none {m : Nat} {l : List Bool} {b : Nat} (h : feN m l b = none) : rd m (l.drop b) = none := by
  unfold feN at h
  cases h2 : rd m (l.drop b) with
  | none => rfl
  | some p => rw [h2] at h; cases h
theorem cuts_step {m : Nat} (hm : 1 ≤ m) {l : List Bool} {b n e : Nat} (hb : b ≤ l.length) (h : feN m l b = some (n, e)) :
    cutsF m ((l.drop b).length + 1) (l.drop b) b = (n, e) :: cutsF m ((l.drop e).length + 1) (l.drop e) e := by
  obtain ⟨h1, h2, d, h3, rfl⟩ := rd_bound hm hb h
  rw [cutsF_some h3, List.drop_drop]
  rw [cutsF_fuel hm (l.drop b).length ((l.drop (b + d)).length + 1) (l.drop (b + d)) (b + d) (by rw [List.length_drop, List.length_drop]; omega) (by omega)]
theorem cutsF_len {m : Nat} (hm : 1 ≤ m) : ∀ (f : Nat) (l : List Bool) (b : Nat), (cutsF m f l b).length ≤ l.length
  | 0, _, _ => Nat.zero_le _
  | f + 1, l, b => by
    cases h : rd m l with
    | none => rw [cutsF_none h]; exact Nat.zero_le _
    | some p =>
      obtain ⟨n, e⟩ := p
      obtain ⟨e1, e2⟩ := rd_le hm h
      have := cutsF_len hm f (l.drop e) (b + e)
      rw [cutsF_some h, List.length_cons]
      rw [List.length_drop] at this
      omega
theorem cuts_len {m : Nat} (hm : 1 ≤ m) (l : List Bool) : (cuts m l).length ≤ l.length := cutsF_len hm _ l 0
end St
namespace St
open PySem PySem.Spec PyProof.Rows L2
/-! ### rows of words -/
def rowB (m : Nat) (ns : List Nat) : List Bool := (ns.map (wordB m)).flatten
theorem join_tx (ls : List (List Bool)) : Txt.join ("" : Str) (ls.map tx) = tx ls.flatten := by
  rw [TL.join_eq, tx_nil]
  apply str_ext
  show TL.tl (Str.join (tx []) (ls.map tx)) = _
  rw [TL.tl_join, tx_list]
  have e : ∀ ls : List (List Bool), TL.joinL (TL.tl (tx [])) ((ls.map tx).map TL.tl) = ls.flatten.map sg := by
    intro ls
    induction ls with
    | nil => rfl
    | cons a r ih =>
      cases r with
      | nil =>
        show TL.tl (tx a) = _
        rw [List.flatten_cons, List.flatten_nil, List.append_nil]
        exact tx_list a
      | cons b r =>
        show TL.tl (tx a) ++ (TL.tl (tx []) ++ TL.joinL (TL.tl (tx [])) (((b :: r).map tx).map TL.tl)) = _
        rw [ih, List.flatten_cons (l := a), List.map_append]
        show (tx a).cps.toList ++ ((tx []).cps.toList ++ _) = _
        rw [tx_list, tx_list]
        rfl
  exact e ls
theorem join_len (ls : List (List Bool)) : ((ls.map tx).map (·.length)).sum = ls.flatten.length := by
  induction ls with
  | nil => rfl
  | cons a r ih =>
    rw [List.map_cons, List.map_cons, List.sum_cons, ih, List.flatten_cons, List.length_append, tx_len]
theorem row_len (m : Nat) (ns : List Nat) : (rowB m ns).length = (ns.map fun n => (wordB m n).length).sum := by
  unfold rowB
  induction ns with
  | nil => rfl
  | cons a r ih =>
    rw [List.map_cons, List.flatten_cons, List.length_append, ih, List.map_cons, List.sum_cons]
theorem row_ge (m : Nat) (ns : List Nat) : (ns.map fun n => n / m + 1).sum ≤ (rowB m ns).length := by
  rw [row_len]
  induction ns with
  | nil => exact Nat.le_refl _
  | cons a r ih =>
    rw [List.map_cons, List.map_cons, List.sum_cons, List.sum_cons]
    have := word_len m a
    generalize a / m = k at *
    omega
theorem sum_int (ns : List Nat) : (ns.map fun (n : Nat) => (n : Int)).sum = ((ns.sum : Nat) : Int) := by
  induction ns with
  | nil => rfl
  | cons a r ih =>
    rw [List.map_cons, List.sum_cons, List.sum_cons, ih, Int.natCast_add]
theorem mem_le_sum {ns : List Nat} {f : Nat → Nat} {n : Nat} (h : n ∈ ns) : f n ≤ (ns.map f).sum := by
  induction ns with
  | nil => cases h
  | cons a r ih =>
    rw [List.map_cons, List.sum_cons]
    rcases List.mem_cons.mp h with rfl | h
    · omega
    · have := ih h
      omega
theorem row_le {m c : Nat} (h64 : m ≤ 64) : ∀ {ns : List Nat}, (∀ n ∈ ns, n / m ≤ c) → (rowB m ns).length ≤ ns.length * (c + 7)
  | [], _ => Nat.zero_le _
  | a :: r, h => by
    have ih := row_le h64 (ns := r) fun n hn => h n (List.mem_cons_of_mem _ hn)
    have h1 := h a List.mem_cons_self
    have h2 := rest_len_le m (a % m)
    have h3 := wide_64 h64
    have h4 := word_len m a
    have e : (rowB m (a :: r)).length = (wordB m a).length + (rowB m r).length := by
      unfold rowB
      rw [List.map_cons, List.flatten_cons, List.length_append]
    rw [e, List.length_cons, Nat.succ_mul]
    generalize a / m = k at *
    omega
/-- all steps by which the words of numbers are a text -/
def stepsN (ns : List Nat) (l : List Bool) (k : Nat) : List Nat := ((List.range k).map (· + 1)).filter fun m => decide (rowB m ns = l)
theorem stepsN_succ (ns : List Nat) (l : List Bool) (k : Nat) : stepsN ns l (k + 1) = stepsN ns l k ++ (if rowB (k + 1) ns = l then [k + 1] else []) := by
  unfold stepsN
  rw [List.range_succ, List.map_append, List.filter_append]
  congr 1
  by_cases c : rowB (k + 1) ns = l
  · simp [c]
  · simp [c]
theorem stepsN_len (ns : List Nat) (l : List Bool) (k : Nat) : (stepsN ns l k).length ≤ k := by
  unfold stepsN
  refine Nat.le_trans (List.length_filter_le _ _) ?_
  simp
end St
namespace St
open PySem PySem.Spec PyProof.Rows L2
/-! ### own errors -/
/-- the class at x -/
def ClsAt (K : PySem.W.Frag) (x : Str) (C : Addr) : Prop := PySem.W.nsIn K mainGlobals x = some (some (.ref C))
theorem ClsAt.one {K : PySem.W.Frag} {x : Str} {C D : Addr} (h : ClsAt K x C) (h' : ClsAt K x D) : C = D := by
  have := h.symm.trans h'
  cases this
  rfl
/-- what the top has written of an own error class without own __init__ -/
structure ExT (K : PySem.W.Frag) (mg : Str → Option Value) (x : Str) (C : Addr) : Prop where
  n : ClsAt K x C
  g : mg x = some (.ref C)
  q : PySem.W.excIn K C [.type "ValueError", .type "Exception", .type "BaseException", .type "object"] "ValueError.__new__" = true
  k : PySem.W.keepIn K (.ref C) = true
  b : PySem.W.subIn K (.ref C) (.type "BaseException") = some true
  t : PySem.W.typeIn K (.ref C) = some (.type "type")
  d : PySem.W.hasDictIn K C = true
  s : PySem.W.subIn K (.ref C) (.ref C) = some true
theorem ExT.te {K : PySem.W.Frag} {mg : Str → Option Value} {x : Str} {C : Addr} (T : ExT K mg x C) : PySem.W.exmOne K (.ref C) (.ref C) = some true :=
  PySem.W.exm_ref T.b T.d T.t T.s
/-- as Cal, of a def that may raise -/
structure CalR (P : Program) (w : World) (K : PySem.W.Frag) (mg : Str → Option Value) (base : Heap) (x : Str) (ps : List Str) (k : Nat) (sp : Sp) (f : Addr) (fd : FuncData) : Prop where
  ok : FnOk P w K mg base (L2.CX P w) k f fd ps sp
  g : mg x = some (.ref f)
  kp : PySem.W.keepIn K (.ref f) = true
  b : Binds K fd ps []
def CalX (P : Program) (w : World) (K : PySem.W.Frag) (mg : Str → Option Value) (base : Heap) (x : Str) (ps : List Str) (k : Nat) (sp : Sp) : Prop := ∃ f fd, CalR P w K mg base x ps k sp f fd
section
variable {X : Cx} {C : Addr} {bmB : List Value} {B newId initId : String}
/-- X() -/
theorem pmk_own0 {x : Str} {p pos : Pos} (F : ExcBaseFacts B newId initId bmB) (q : PySem.W.excIn X.K C bmB newId = true) (gC : X.mg x = some (.ref C)) (kC : PySem.W.keepIn X.K (.ref C) = true) (r : Raises X (.ref C)) (hg : Gl X x)
    (hdb : (x == ("__debug__" : Str)) = false := by decide) : PMk X (.Call (.Name x p) [] [] pos) (fun _ H Q => Q (.ref C) none H) := by
  intro pins s σ H Q I h
  refine wpAny_Call_Name_kw (ld_glob I hg gC ?_ hdb)
  refine PySem.W.callWith_K0 I.kIn kC ?_
  show wpAny _ _ (call (.ref C) []) _ _ _
  obtain ⟨bm, N, nm, qn, bs, hdct, sn, sub, ab, col, dd, k0, k1, k2, k3, k5, mN, hC, hN, hni, T⟩ := exc_obj I.kIn q
  refine wpAny_call_exc_subT F T hC hN hni (fun h' e hm => ?_) (Nat.zero_le _)
  exact mk_of I hm r h (I.hok.gone hm.new)
theorem ps_raise0 {x : Str} {p pos pos2 : Pos} {W : WX} (tk : Takes X W) (T : ExT X.K X.mg x C) (hg : Gl X x) (hdb : (x == ("__debug__" : Str)) = false := by decide) (hc : X.calm = true := by rfl) :
    PS X (.Raise (some (.Call (.Name x p) [] [] pos)) none pos2) (fun _ σ H => W (.ref C) none σ H) :=
  ps_raise hc tk (pmk_own0 PySem.F.excBase_ValueError T.q T.g T.k (raises_own T.b T.t) hg hdb)
/-- isinstance(e, c), e the error that the suite holds -/
theorem call_isX {a D : Addr} {oe : Obj} {cls : Value} {d : Option Addr} {pn : List (Addr × Obj)} (E : ExcC X.K D) (hz : Zc cls d oe) (hf : ∃ vs, oe.data = .fields vs) :
    CallR (X.suite a ((a, oe) :: pn)) (.builtin "isinstance") (fun xs H Q => cls = .ref D ∧ d = none ∧ rIsE X.K D a xs H Q) := by
  intro pins s σ H xs us Q I r h
  obtain ⟨rfl, rfl, h⟩ := h
  exact call_isE E hz hf pins s σ H xs us Q I r h
end
theorem kit_sub {K : PySem.W.Frag} {C S : Addr} (hd : PySem.W.hasDictIn K S = true) (ht : PySem.W.typeIn K (.ref S) = some (.type "type")) (h : PySem.W.subIn K (.ref C) (.ref S) = some true) : PySem.W.kitOne K (.ref C) (.ref S) = some true := by
  obtain ⟨cd, hc, _⟩ := PySem.W.any_some hd
  have e : ((PySem.W.clsIn K S).isSome && PySem.W.typeIn K (.ref S) == some (.type "type")) = true := by rw [hc, ht] <;> rfl
  show (if (Value.ref C == Value.ref S) = true then some true else (if ((PySem.W.clsIn K S).isSome && PySem.W.typeIn K (.ref S) == some (.type "type")) = true then PySem.W.subIn K (.ref C) (.ref S) else none)) = some true
  rw [if_pos e, h]
  split <;> rfl
end St
namespace St
open PySem PySem.Spec PyProof.Rows L2
/-! ### reading by a dict of the ends of words, as the laws do it -/
theorem rest_inj {m r s : Nat} (hm : 1 ≤ m) (hr : r < m) (hs : s < m) (h : restB m r = restB m s) : r = s := by
  have e : wordB m r ++ [] = wordB m s ++ [] := by
    unfold wordB
    rw [Nat.div_eq_of_lt hr, Nat.div_eq_of_lt hs, Nat.mod_eq_of_lt hr, Nat.mod_eq_of_lt hs, h]
  exact (word_pre hm e).1
structure Known (m j : Nat) (kvs : List (Key × V)) : Prop where
  len : kvs.length ≤ j
  has : ∀ r, r < j → valV kvs (.inr (tx (restB m r))) = some (.int (r : Nat))
  no : ∀ w, (∀ r, r < j → restB m r ≠ w) → valV kvs (.inr (tx w)) = none
theorem Known.nil (m : Nat) : Known m 0 [] := ⟨Nat.le_refl _, fun r h => by omega, fun w _ => valV_nil⟩
theorem Known.more {m j : Nat} {kvs : List (Key × V)} (hm : 1 ≤ m) (hj : j < m) (h : Known m j kvs) : Known m (j + 1) (putK kvs (.inr (tx (restB m j))) (.int (j : Nat))) := by
  refine ⟨?_, ?_, ?_⟩
  · have := length_putK kvs (.inr (tx (restB m j))) (.int (j : Nat))
    have := h.len
    omega
  · intro r hr
    rw [valV_put]
    by_cases c : r = j
    · rw [if_pos (by rw [c]), c]
    · rw [if_neg (fun z => c (rest_inj hm (by omega) hj (tx_inj (Sum.inr.inj z)))), h.has r (by omega)]
  · intro w hw
    rw [valV_put, if_neg (fun z => hw j (by omega) (tx_inj (Sum.inr.inj z)).symm), h.no w fun r hr => hw r (by omega)]
theorem word_of {m k r : Nat} (hr : r < m) : wordB m (k * m + r) = List.replicate k true ++ false :: restB m r := by
  have d1 : (k * m + r) / m = k := by
    rw [Nat.add_comm, Nat.add_mul_div_right _ _ (by omega), Nat.div_eq_of_lt hr, Nat.zero_add]
  have d2 : (k * m + r) % m = r := by
    rw [Nat.add_comm, Nat.add_mul_mod_self_right, Nat.mod_eq_of_lt hr]
  unfold wordB
  rw [d1, d2]
theorem fe_hit {m r c a k : Nat} {l : List Bool} (hm : 1 ≤ m) (hr : r < m) (hk : onesN (l.drop a) = k) (h : (l.drop (a + k + 1)).take c = restB m r) (hc : a + k + 1 + c ≤ l.length) :
    feN m l a = some (k * m + r, a + k + 1 + c) := by
  have hs := ones_split (l.drop a) (by rw [List.length_drop]; omega)
  rw [hk, List.drop_drop, show a + (k + 1) = a + k + 1 by omega] at hs
  have e : l.drop a = wordB m (k * m + r) ++ (l.drop (a + k + 1)).drop c := by
    rw [word_of hr, List.append_assoc, List.cons_append, ← h, List.take_append_drop]
    exact hs
  have hl : (wordB m (k * m + r)).length = k + 1 + c := by
    rw [word_of hr, List.length_append, List.length_replicate, List.length_cons, ← h, List.length_take, List.length_drop]
    omega
  unfold feN
  rw [e, rd_word m hm, hl]
  show some (k * m + r, a + (k + 1 + c)) = _
  rw [show a + (k + 1 + c) = a + k + 1 + c by omega]
theorem fe_is {m a k n e : Nat} {l : List Bool} (hm : 1 ≤ m) (ha : a ≤ l.length) (hk : onesN (l.drop a) = k) (h : feN m l a = some (n, e)) :
    ∃ r c, r < m ∧ c ≤ wideN m ∧ e = a + k + 1 + c ∧ e ≤ l.length ∧ (l.drop (a + k + 1)).take c = restB m r := by
  obtain ⟨h1, h2, d, h3, rfl⟩ := rd_bound hm ha h
  obtain ⟨post, e1, e2⟩ := rd_some m hm _ _ _ h3
  have hk2 : k = n / m := by
    rw [← hk, e1]
    unfold wordB
    rw [List.append_assoc, List.cons_append, ones_rep]
  have hlen := word_len m n
  refine ⟨n % m, (restB m (n % m)).length, Nat.mod_lt _ (by omega), rest_len_le m _, by rw [e2, hlen, hk2]; omega, h2, ?_⟩
  have e3 : l.drop (a + k + 1) = restB m (n % m) ++ post := by
    rw [show a + k + 1 = a + (k + 1) by omega, ← List.drop_drop, e1, hk2]
    have : wordB m n ++ post = (List.replicate (n / m) true ++ [false]) ++ (restB m (n % m) ++ post) := by
      unfold wordB
      simp [List.append_assoc]
    rw [this]
    exact List.drop_left' (by simp)
  rw [e3, List.take_left' rfl]
theorem ones_more {l : List Bool} {a i : Nat} (h : i ≤ onesN (l.drop a)) : (l[a + i]? = some true) ↔ i < onesN (l.drop a) := by
  have := ones_at (l.drop a) i h
  rw [List.getElem?_drop] at this
  exact this
end St
namespace St
open PySem PySem.Spec PyProof.Rows L2
/-! ### the words of a row are read back -/
def lastD (r : List (Nat × Nat)) (d : Nat) : Nat := (r.getLast?.map (·.2)).getD d
theorem lastD_cons (x : Nat × Nat) (r : List (Nat × Nat)) (d : Nat) : lastD (x :: r) d = lastD r x.2 := by
  unfold lastD
  rw [List.getLast?_cons]
  cases r.getLast? <;> rfl
theorem cutsF_row {m : Nat} (hm : 1 ≤ m) : ∀ (ns : List Nat) (f b : Nat), (rowB m ns).length < f →
    (cutsF m f (rowB m ns) b).map (fun x => x.1) = ns ∧ lastD (cutsF m f (rowB m ns) b) b = b + (rowB m ns).length
  | [], f, b, _ => by
    have e : rowB m [] = [] := rfl
    rw [e, cutsF_none (rd_nil m)]
    exact ⟨rfl, rfl⟩
  | n :: r, 0, b, h => by omega
  | n :: r, f + 1, b, h => by
    have e : rowB m (n :: r) = wordB m n ++ rowB m r := by
      unfold rowB
      rw [List.map_cons, List.flatten_cons]
    have h2 := rd_word m hm n (rowB m r)
    have hp := word_pos m n
    rw [e] at h ⊢
    rw [List.length_append] at h ⊢
    rw [cutsF_some h2, List.drop_left' rfl]
    obtain ⟨i1, i2⟩ := cutsF_row hm r f (b + (wordB m n).length) (by omega)
    refine ⟨by rw [List.map_cons, i1], ?_⟩
    rw [lastD_cons]
    show lastD _ (b + (wordB m n).length) = _
    rw [i2]
    omega
theorem cuts_row {m : Nat} (hm : 1 ≤ m) (ns : List Nat) : (cuts m (rowB m ns)).map (fun x => x.1) = ns ∧ endOf (cuts m (rowB m ns)) = (rowB m ns).length := by
  obtain ⟨h1, h2⟩ := cutsF_row hm ns ((rowB m ns).length + 1) 0 (by omega)
  refine ⟨h1, ?_⟩
  rw [Nat.zero_add] at h2
  exact h2
theorem ones_word {m k r : Nat} (hr : r < m) : List.replicate k true ++ wordB m r = wordB m (k * m + r) := by
  rw [word_of hr]
  unfold wordB
  rw [Nat.div_eq_of_lt hr, Nat.mod_eq_of_lt hr]
  rfl
theorem joinP {R G : Prop} (C : Prop) (main : (C → G) → R) (k : C → G) : R := main k
theorem dp_nums {K : PySem.W.Frag} {H : Hp} {T : Addr} {r : List (Nat × Nat)} (h : SqT K H T (r.map fun p => V.int (p.1 : Nat))) : Dp K H (.ref T) (.tuple (r.map fun p => PyData.int (p.1 : Nat))) := by
  refine .tup h ?_
  have e : ∀ r : List (Nat × Nat), DpAll K H (r.map fun p => V.int (p.1 : Nat)) (r.map fun p => PyData.int (p.1 : Nat)) := by
    intro r
    induction r with
    | nil => exact .nil
    | cons a r ih => exact .cons (.int _) ih
  exact e r
theorem ok_nums (n : Nat) (r : List (Nat × Nat)) (h : r.length ≤ 1000000) : OkD (n + 1) (.tuple (r.map fun p => PyData.int (p.1 : Nat))) := ⟨by rw [List.length_map]; exact h, fun d hd => by
  obtain ⟨x, _, rfl⟩ := List.mem_map.mp hd
  cases n <;> trivial⟩
theorem nx_of {D : Ends} {σ σ' : List (Option V)} {H : Hp} (e : σ = σ') (h : D.nx σ' H) : D.nx σ H := by
  rw [e]
  exact h
end St
namespace St
open PySem PySem.Spec PyProof.Rows L2
def topS (i : Nat) : Stmt := PySem.Challenge.pw_stepruns_k02_whole_rows_read.main.body.getD i (.Pass ⟨0, 0, 0, 0⟩)

abbrev s__law_mix : Stmt := topS 18
theorem sc__law_mix : FnScope ["_law_script", "_law_seed", "_law_state", "_law_cell"] ["_law_script", "_law_seed"] (defScope s__law_mix) := ⟨rfl, rfl, rfl, by decide +kernel, rfl, by decide +kernel, by decide +kernel⟩
def sp__law_mix (K : PySem.W.Frag) : Sp := fun vs H Q _ => ∃ (a : Addr) (ns : List Int) (sd : Int), vs = [.ref a, .int sd] ∧ SqL K H a (ns.map V.int) ∧ ns.length ≤ 63 ∧
  ∀ (h q : Addr) (H' : Hp), Same H H' → H h = none → H q = none → LawH H' h q → Q (.ref h) H'
section
variable {P : Program} {w : World} {K : PySem.W.Frag} {mg : Str → Option Value} {base : Heap}
theorem ok__law_mix (A : At K mg "_law_mix" s__law_mix ["_law_script", "_law_seed"]) (B : Bn mg) : CalE P w K mg base "_law_mix" ["_law_script", "_law_seed"] 1 (sp__law_mix K) := by
  obtain ⟨f, fd, F, gF, bF⟩ := A
  refine ⟨f, fd, F.ok sc__law_mix (fun vs H Q E h => ?_) (fun cdv A outer s H vs Q E hr h => ?_), gF, F.kp, bF⟩
  · repeat (first | (obtain ⟨rfl, _⟩ := h; rfl) | (obtain ⟨_, h⟩ := h))
  · obtain ⟨a, ns, sd, rfl, hS, hl, q⟩ := h
    refine ⟨_, (pss_cons (ps_set (i := 2) sc__law_mix.nd rfl (.inl rfl) (pv 1))
      (pss_cons (ps_for PassesOwn.never rfl (pi_list (pv 0)) (pg_name (i := 3) sc__law_mix.nd rfl (.inl rfl))
      (pss_one (ps_set (i := 2) sc__law_mix.nd rfl (.inl rfl) (pe_op op_mod (pe_callTy call_int1 (by rfl) B.int_ (by decide +kernel) (pa_cons (pe_op op_add (pe_op op_add (pe_op op_mul (pv 2) pe_int) (pe_op op_mod (pe_callTy call_int1 (by rfl) B.int_ (by decide +kernel) (pa_cons (pv 3) pa_nil)) pe_int)) pe_int) pa_nil)) pe_int))))
      (pss_one (ps_ret (pe_lst (pa_cons (pv 2) (pa_cons (pe_callTy (call_list_of_ K) (by rfl) B.list_ (by decide +kernel) (pa_cons (pv 0) pa_nil)) (pa_cons pe_int pa_nil)))))))), ?_⟩
    -- _law_state = _law_seed
    refine ⟨_, rfl, ?_⟩
    refine ⟨_, rfl, a, rfl, ⟨_, hS⟩, for_list (K := K) (a := a) (xs := ns.map V.int) (fun i σ H2 => ∃ (st : Int) (v : Option V), σ = [some (.ref a), some (.int sd), some (.int st), v] ∧ H2 = H)
      ⟨_, _, rfl, rfl⟩ (fun i σ H2 _ ⟨_, _, _, e⟩ => e ▸ hS) ?_ ?_⟩
    · rintro i y σ H2 hi ⟨st, v, rfl, rfl⟩
      obtain ⟨z, rfl⟩ : ∃ z, y = V.int z := by
        rw [List.getElem?_map] at hi
        cases e : ns[i]? with
        | none => rw [e] at hi; cases hi
        | some z => rw [e] at hi; exact ⟨z, (Option.some.inj hi).symm⟩
      refine ⟨_, rfl, _, _, rfl, rfl, .inr (by omega), _, rfl, .inl ⟨_, rfl, _, _, rfl, rfl, (by decide : (0 : Int) < 2147483629), _, _, rfl, rfl, _, _, rfl, rfl, .inl ⟨_, rfl, _, _, rfl, rfl, (by decide : (0 : Int) < 2147483647), ?_⟩⟩⟩
      exact ⟨_, _, rfl, rfl⟩
    · rintro σ H2 ⟨st, v, rfl, rfl⟩
      -- return [state, list(script), 0]
      refine ⟨_, rfl, _, rfl, a, _, rfl, .inl hS, fun c nc => ⟨(by show 3 ≤ sizeLine; decide), fun p np => ?_⟩⟩
      have npc : p ≠ c := fun e => by rw [e, upd_same] at np; cases np
      refine q p c _ ((same_new nc _).trans (same_new np _)) ((same_new nc _).free np) nc ⟨npc, st, 0, ns, upd_same, ?_, by omega⟩
      rw [upd_ne npc.symm, upd_same]
end

abbrev s__law_next : Stmt := topS 19
theorem sc__law_next : FnScope ["_law_h", "_law_cap", "_law_cell"] ["_law_h", "_law_cap"] (defScope s__law_next) := ⟨rfl, rfl, rfl, by decide +kernel, rfl, by decide +kernel, by decide +kernel⟩
def sp__law_next (K : PySem.W.Frag) : Sp := fun vs H Q _ => ∃ (h q : Addr) (cap : Int), vs = [.ref h, .int cap] ∧ LawH H h q ∧ 0 < cap ∧ cap < 2 ^ 300 ∧
  ∀ (k : Int) (H' : Hp), 0 ≤ k → k < cap → LawH H' h q → Sm h q H H' → Q (.int k) H'
theorem cap_wide {cap : Int} (h : 0 < cap) (h' : cap < 2 ^ 300) : CDivW z cap := wide_div (b := 300) h (by omega) (by decide) (by decide)
section
variable {P : Program} {w : World} {K : PySem.W.Frag} {mg : Str → Option Value} {base : Heap}
theorem ok__law_next (A : At K mg "_law_next" s__law_next ["_law_h", "_law_cap"]) (B : Bn mg) : CalE P w K mg base "_law_next" ["_law_h", "_law_cap"] 1 (sp__law_next K) := by
  obtain ⟨f, fd, F, gF, bF⟩ := A
  refine ⟨f, fd, F.ok sc__law_next (fun vs H Q E h => ?_) (fun cdv A outer s H vs Q E hr h => ?_), gF, F.kp, bF⟩
  · repeat (first | (obtain ⟨rfl, _⟩ := h; rfl) | (obtain ⟨_, h⟩ := h))
  · obtain ⟨h, q, cap, rfl, L, c0, c1, k⟩ := h
    refine ⟨_, (pss_cons (ps_set (i := 2) sc__law_next.nd rfl (.inl rfl) (pe_ix (ix_list_ K) (pe_op op_cat (pe_ix (ix_list_ K) (pv 0) pe_int (fun _ _ => rfl)) (pe_lst (pa_cons pe_int pa_nil))) (pe_op op_mod (pe_callTy call_int1 (by rfl) B.int_ (by decide +kernel) (pa_cons (pe_ix (ix_list_ K) (pv 0) pe_int (fun _ _ => rfl)) pa_nil)) (pe_callB (call_max2 rfl) (by rfl) B.max_ (by decide +kernel) (pa_cons pe_int (pa_cons (pe_callB (call_len_seq_ K) (by rfl) B.len_ (by decide +kernel) (pa_cons (pe_ix (ix_list_ K) (pv 0) pe_int (fun _ _ => rfl)) pa_nil)) pa_nil)))) (fun _ _ => rfl)))
      (pss_cons (ps_if (pt_cmpR op_ge (pv 2) (pe_op op_pow pe_int pe_int) (nomark _))
      (pss_cons (ps_asg (pe_op op_fdivW (pv 2) (pv 1)) (pg_sub (pe_ix (ix_list_ K) (pv 0) pe_int (fun _ _ => rfl)) (pe_op op_mod (pe_callTy call_int1 (by rfl) B.int_ (by decide +kernel) (pa_cons (pe_ix (ix_list_ K) (pv 0) pe_int (fun _ _ => rfl)) pa_nil)) (pe_callB (call_len_seq_ K) (by rfl) B.len_ (by decide +kernel) (pa_cons (pe_ix (ix_list_ K) (pv 0) pe_int (fun _ _ => rfl)) pa_nil))) set_list))
      (pss_one (ps_ret (pe_op op_mod (pe_callTy call_int1 (by rfl) B.int_ (by decide +kernel) (pa_cons (pv 2) pa_nil)) (pv 1)))))
      pss_nil)
      (pss_cons (ps_asg (pe_op op_mod (pe_callTy call_int1 (by rfl) B.int_ (by decide +kernel) (pa_cons (pe_op op_add (pe_op op_add (pe_op op_mul (pe_ix (ix_list_ K) (pv 0) pe_int (fun _ _ => rfl)) pe_int) (pe_op op_mul (pv 2) pe_int)) pe_int) pa_nil)) pe_int) (pg_sub (pv 0) pe_int set_list))
      (pss_cons (ps_asg (pe_op op_add (pe_ix (ix_list_ K) (pv 0) pe_int (fun _ _ => rfl)) pe_int) (pg_sub (pv 0) pe_int set_list))
      (pss_one (ps_ret (pe_op op_mod (pe_callTy call_int1 (by rfl) B.int_ (by decide +kernel) (pa_cons (pe_op op_fdiv (pe_ix (ix_list_ K) (pv 0) pe_int (fun _ _ => rfl)) pe_int) pa_nil)) (pv 1)))))))), ?_⟩
    obtain ⟨hne, st, ix, cells, eh, eq, hl⟩ := id L
    have sL : SqL K H h [.int st, .ref q, .int ix] := .inl (.inl eh)
    have sQ : SqL K H q (cells.map V.int) := .inl (.inl eq)
    have l3 : ([V.int 0] : List V).length ≤ sizeLine := by show 1 ≤ sizeLine; decide
    have lm : (cells.map V.int).length = cells.length := List.length_map _
    -- (h[1] + [0])[h[2] % max(1, len(h[1]))]
    refine ⟨_, rfl, h, _, 1, _, rfl, rfl, sL, rfl, l3, fun z nz => ?_⟩
    have s1 : Same H (upd H z (.lst [.int 0])) := same_new nz _
    have lq : (cells.map V.int).length + ([V.int 0] : List V).length ≤ sizeLine := by
      rw [lm]
      show cells.length + 1 ≤ sizeLine
      have := sizeLine_eq
      omega
    refine ⟨q, z, _, _, rfl, rfl, s1 _ _ eq, upd_same, lq, fun z2 nz2 => ?_⟩
    have s2 := s1.trans (same_new nz2 (.lst (cells.map V.int ++ [.int 0])))
    have e2 : (upd (upd H z (.lst [.int 0])) z2 (.lst (cells.map V.int ++ [.int 0]))) z2 = some (.lst (cells.map V.int ++ [.int 0])) := upd_same
    generalize upd (upd H z (.lst [.int 0])) z2 (.lst (cells.map V.int ++ [.int 0])) = H2 at *
    obtain ⟨m, em, hm⟩ : ∃ m : Int, (if ((cells.map V.int).length : Int) > 1 then ((cells.map V.int).length : Int) else 1) = m ∧ (0 < m ∧ m ≤ cells.length + 1 ∧ (cells = [] → m = 1) ∧ (cells ≠ [] → m = cells.length)) := by
      refine ⟨_, rfl, ?_⟩
      rw [lm]
      cases cells with
      | nil => simp
      | cons c r =>
        simp only [List.length_cons]
        split
        · exact ⟨by omega, by omega, (fun z => by cases z), fun _ => rfl⟩
        · exact ⟨by omega, by omega, (fun z => by cases z), fun _ => by omega⟩
    obtain ⟨m0, m1, m2, m3⟩ := hm
    have j0 : 0 ≤ ix % m := Int.emod_nonneg _ (by omega)
    have j1 : ix % m < m := Int.emod_lt_of_pos _ m0
    obtain ⟨j, ej⟩ : ∃ j : Nat, ix % m = (j : Int) := ⟨(ix % m).toNat, by omega⟩
    obtain ⟨c, ec, hc⟩ : ∃ c : Int, (cells.map V.int ++ [V.int 0])[j]? = some (.int c) ∧ (10 ^ 18 ≤ c → j < cells.length ∧ cells ≠ []) := by
      by_cases hj : j < cells.length
      · refine ⟨cells[j], ?_, fun _ => ⟨hj, fun z => by rw [z] at hj; cases hj⟩⟩
        rw [List.getElem?_append_left (by rw [lm]; exact hj), List.getElem?_map, List.getElem?_eq_getElem hj]
        rfl
      · have hn : j = cells.length := by
          by_cases hc : cells = []
          · have := m2 hc
            subst hc
            simp
            omega
          · have := m3 hc
            omega
        subst hn
        refine ⟨0, ?_, fun z => by omega⟩
        rw [List.getElem?_append_right (by rw [lm]; exact Nat.le_refl _), lm, Nat.sub_self]
        rfl
    refine ⟨_, rfl, h, _, 2, _, rfl, rfl, s2.seq sL, rfl, .inl ⟨ix, rfl, _, rfl, h, _, 1, _, rfl, rfl, s2.seq sL, rfl, q, _, rfl, .inl (s2.seq sQ), 1, _, rfl, ?_⟩⟩
    show rI (fun _ j => 0 < j) (fun i j => V.int (i % j)) (V.int ix) (.int (if ((cells.map V.int).length : Int) > 1 then ((cells.map V.int).length : Int) else 1)) H2 _
    rw [em]
    refine ⟨_, _, rfl, rfl, m0, z2, _, _, _, rfl, rfl, .inl (.inl e2), by rw [ej]; exact atI_nat ec, ?_⟩
    -- if _law_cell >= 10 ** 18
    refine ⟨_, rfl, _, _, rfl, rfl, ⟨by decide, by decide, by decide⟩, _, _, rfl, rfl, _, rfl, ?_⟩
    have h2 := s2.seq sL
    have q2 := s2.seq sQ
    have eh2 := s2 _ _ eh
    have eq2 := s2 _ _ eq
    refine ite2 (fun b => ?_) (fun b => ?_)
    · have b' : 10 ^ 18 ≤ c := of_decide_eq_true b
      obtain ⟨hj, hne0⟩ := hc b'
      have m4 := m3 hne0
      refine ⟨_, rfl, _, rfl, _, _, rfl, rfl, cap_wide c0 c1, ?_⟩
      refine ⟨_, rfl, h, _, 1, _, rfl, rfl, h2, rfl, _, rfl, h, _, 2, _, rfl, rfl, h2, rfl, .inl ⟨ix, rfl, _, rfl, h, _, 1, _, rfl, rfl, h2, rfl, q, _, rfl, .inl q2, _, _, rfl, rfl, ?_, ?_⟩⟩
      · show (0 : Int) < ((cells.map V.int).length : Int)
        rw [lm]
        omega
      refine ⟨q, _, _, j, rfl, rfl, eq2, ?_, ?_⟩
      · rw [lm, ← m4, ej]
        unfold ixN
        rw [if_pos (by omega), if_pos (by omega), Int.toNat_natCast]
      refine ⟨_, rfl, .inl ⟨_, rfl, _, rfl, _, _, rfl, rfl, c0, ?_⟩⟩
      refine k _ _ (Int.emod_nonneg _ (by omega)) (Int.emod_lt_of_pos _ c0) ⟨hne, st, ix, cells.set j (c / cap), by rw [upd_ne hne]; exact eh2, by rw [upd_same, List.map_set], by rw [List.length_set]; exact hl⟩ (fun b o e n1 n2 => ?_)
      rw [upd_ne n2]
      exact s2 _ _ e
    · refine ⟨_, rfl, h, _, 0, _, rfl, rfl, h2, rfl, _, _, rfl, rfl, .inr (by omega), _, rfl, _, _, rfl, rfl, .inr (by omega), _, _, rfl, rfl, _, _, rfl, rfl, .inl ⟨_, rfl, _, _, rfl, rfl, (by decide : (0 : Int) < 2147483647), ?_⟩⟩
      refine ⟨_, rfl, h, _, 0, 0, rfl, rfl, eh2, rfl, ?_⟩
      have e3 := @upd_same H2 h (.lst [.int ((st * 48271 + c * 69621 + 11) % 2147483647), .ref q, .int ix])
      refine ⟨_, rfl, h, _, 2, _, rfl, rfl, .inl (.inl e3), rfl, _, _, rfl, rfl, _, rfl, h, _, 2, 2, rfl, rfl, e3, rfl, ?_⟩
      refine ⟨_, rfl, h, _, 0, _, rfl, rfl, .inl (.inl upd_same), rfl, _, _, rfl, rfl, ⟨by decide, by decide⟩, .inl ⟨_, rfl, _, rfl, _, _, rfl, rfl, c0, ?_⟩⟩
      refine k _ _ (Int.emod_nonneg _ (by omega)) (Int.emod_lt_of_pos _ c0) ⟨hne, _, _, cells, upd_same, by rw [upd_ne hne.symm, upd_ne hne.symm]; exact eq2, hl⟩ (fun b o e n1 n2 => ?_)
      rw [upd_ne n1, upd_ne n1]
      exact s2 _ _ e
end

abbrev s__law_alike : Stmt := topS 20
theorem sc__law_alike : FnScope ["_law_found", "_law_due", "_law_k"] ["_law_found", "_law_due"] (defScope s__law_alike) := ⟨rfl, rfl, rfl, by decide +kernel, rfl, by decide +kernel, by decide +kernel⟩
def tnD : PyData → String
  | .none => "NoneType" | .bool _ => "bool" | .int _ => "int" | .str _ => "str" | .list _ => "list" | .tuple _ => "tuple" | .dict _ => "dict"
theorem Dp.ty {K : PySem.W.Frag} {H : Hp} {v : V} {d : PyData} (h : Dp K H v d) : TyX K H v (.type (tnD d)) := by
  cases h with
  | non => exact .base .non
  | bl b => exact .base (.bl b)
  | int i => exact .base (.int i)
  | str x => exact .base (.str x)
  | lst h _ => exact tyL h
  | tup h _ => exact tyT h
def isLD : PyData → Bool
  | .list _ => true | _ => false
theorem kaTL {K : PySem.W.Frag} (d : PyData) : PySem.W.kitAny K (.type (tnD d)) [.type "tuple", .type "list"] = some (isTL d) := by
  have no : ∀ T : String, kitB T "tuple" = some false → kitB T "list" = some false → PySem.W.kitAny K (.type T) [.type "tuple", .type "list"] = some false := fun T h1 h2 =>
    kitAny_cons (b := false) (kit_ty h1) (fun _ => kitAny_cons (b := false) (kit_ty h2) (fun _ => rfl) (fun z => nomatch z)) (fun z => nomatch z)
  have c1 : kitB "tuple" "tuple" = some true := by decide +kernel
  have c2 : kitB "list" "tuple" = some false := by decide +kernel
  have c3 : kitB "list" "list" = some true := by decide +kernel
  cases d with
  | none => exact no "NoneType" (by decide +kernel) (by decide +kernel)
  | bool b => exact no "bool" (by decide +kernel) (by decide +kernel)
  | int b => exact no "int" (by decide +kernel) (by decide +kernel)
  | str b => exact no "str" (by decide +kernel) (by decide +kernel)
  | dict b => exact no "dict" (by decide +kernel) (by decide +kernel)
  | tuple b => exact kitAny_cons (b := true) (kit_ty c1) (fun z => nomatch z) (fun _ => rfl)
  | list b => exact kitAny_cons (b := false) (kit_ty c2) (fun _ => kitAny_cons (b := true) (kit_ty c3) (fun z => nomatch z) (fun _ => rfl)) (fun z => nomatch z)
theorem kaL {K : PySem.W.Frag} (d : PyData) : PySem.W.kitOne K (.type (tnD d)) (.type "list") = some (isLD d) := by
  have c1 : kitB "NoneType" "list" = some false := by decide +kernel
  have c2 : kitB "bool" "list" = some false := by decide +kernel
  have c3 : kitB "int" "list" = some false := by decide +kernel
  have c4 : kitB "str" "list" = some false := by decide +kernel
  have c5 : kitB "list" "list" = some true := by decide +kernel
  have c6 : kitB "tuple" "list" = some false := by decide +kernel
  have c7 : kitB "dict" "list" = some false := by decide +kernel
  cases d <;> first | exact kit_ty c1 | exact kit_ty c2 | exact kit_ty c3 | exact kit_ty c4 | exact kit_ty c5 | exact kit_ty c6 | exact kit_ty c7
theorem kit_of_names {K : PySem.W.Frag} (c : String) (g : PyData → Bool) (h : ∀ d, kitB (tnD d) c = some (g d)) (d : PyData) : PySem.W.kitOne K (.type (tnD d)) (.type c) = some (g d) := kit_ty (h d)
def isSD : PyData → Bool
  | .str _ => true | _ => false
def isID : PyData → Bool
  | .int _ => true | .bool _ => true | _ => false
def isBD : PyData → Bool
  | .bool _ => true | _ => false
theorem tab {c : String} {b1 b2 b3 b4 b5 b6 b7 : Bool} (h : kitB "NoneType" c = some b1 ∧ kitB "bool" c = some b2 ∧ kitB "int" c = some b3 ∧ kitB "str" c = some b4 ∧ kitB "list" c = some b5 ∧ kitB "tuple" c = some b6 ∧ kitB "dict" c = some b7) (d : PyData) :
    kitB (tnD d) c = some (match d with | .none => b1 | .bool _ => b2 | .int _ => b3 | .str _ => b4 | .list _ => b5 | .tuple _ => b6 | .dict _ => b7) := by
  obtain ⟨h1, h2, h3, h4, h5, h6, h7⟩ := h
  cases d <;> assumption
theorem kS {K : PySem.W.Frag} (d : PyData) : PySem.W.kitOne K (.type (tnD d)) (.type "str") = some (isSD d) := by
  have := kit_ty (K := K) (tab (c := "str") (by decide +kernel : kitB "NoneType" "str" = some false ∧ kitB "bool" "str" = some false ∧ kitB "int" "str" = some false ∧ kitB "str" "str" = some true ∧ kitB "list" "str" = some false ∧ kitB "tuple" "str" = some false ∧ kitB "dict" "str" = some false) d)
  cases d <;> exact this
theorem kI {K : PySem.W.Frag} (d : PyData) : PySem.W.kitOne K (.type (tnD d)) (.type "int") = some (isID d) := by
  have := kit_ty (K := K) (tab (c := "int") (by decide +kernel : kitB "NoneType" "int" = some false ∧ kitB "bool" "int" = some true ∧ kitB "int" "int" = some true ∧ kitB "str" "int" = some false ∧ kitB "list" "int" = some false ∧ kitB "tuple" "int" = some false ∧ kitB "dict" "int" = some false) d)
  cases d <;> exact this
theorem kB {K : PySem.W.Frag} (d : PyData) : PySem.W.kitOne K (.type (tnD d)) (.type "bool") = some (isBD d) := by
  have := kit_ty (K := K) (tab (c := "bool") (by decide +kernel : kitB "NoneType" "bool" = some false ∧ kitB "bool" "bool" = some true ∧ kitB "int" "bool" = some false ∧ kitB "str" "bool" = some false ∧ kitB "list" "bool" = some false ∧ kitB "tuple" "bool" = some false ∧ kitB "dict" "bool" = some false) d)
  cases d <;> exact this
def spA (K : PySem.W.Frag) (n : Nat) : Sp := fun vs H Q _ => ∃ (x y : V) (d : PyData) (m : Nat), vs = [x, y] ∧ n = m + 1 ∧ Dp K H x d ∧ Dp K H y d ∧ OkD m d ∧ ∀ H', Same H H' → Q (.bl true) H'
def sp__law_alike (K : PySem.W.Frag) : Sp := spA K 5
section
variable {P : Program} {w : World} {K : PySem.W.Frag} {mg : Str → Option Value} {base : Heap}
theorem ok__law_alike (A : At K mg "_law_alike" s__law_alike ["_law_found", "_law_due"]) (B : Bn mg) : CalE P w K mg base "_law_alike" ["_law_found", "_law_due"] 5 (sp__law_alike K) := by
  obtain ⟨f, fd, F, gF, bF⟩ := A
  have key : ∀ n, FnOk P w K mg base CX0 n f fd ["_law_found", "_law_due"] (spA K n) := by
    intro n
    induction n with
    | zero =>
      have no : ∀ vs H Q E, ¬ spA K 0 vs H Q E := fun vs H Q E h => by
        obtain ⟨x, y, d, m, _, h1, _⟩ := h
        omega
      exact ⟨fun vs H Q E h => absurd h (no vs H Q E), fun A outer s H args us vs Q E _ _ _ _ h => absurd h (no vs H Q E)⟩
    | succ n ih =>
      have G__law_alike : Cal P w K mg base "_law_alike" ["_law_found", "_law_due"] n (spA K n) f fd := ⟨ih, gF, F.kp, bF⟩
      refine F.ok sc__law_alike (fun vs H Q E h => ?_) (fun cdv A outer s H vs Q E hr h => ?_)
      · obtain ⟨x, y, d, m, rfl, _⟩ := h
        rfl
      obtain ⟨x, y, d, m, rfl, em, hx, hy, hd, q⟩ := h
      have em' : n = m := Nat.succ.inj em
      subst em'
      refine ⟨_, (pss_cons (ps_if (pt_val (pe_callB (call_isiT_ K) (by rfl) B.isinstance_ (by decide +kernel) (pa_cons (pv 1) (pa_cons (pe_tup (pa_cons (pe_bltn (v := .ty "tuple") (by rfl) B.tuple_ (by decide +kernel) rfl) (pa_cons (pe_bltn (v := .ty "list") (by rfl) B.list_ (by decide +kernel) rfl) pa_nil))) pa_nil))))
      (pss_cons (ps_if (PW.pt (pw_or (pt_not (pt_val (pe_callB (call_isiT_ K) (by rfl) B.isinstance_ (by decide +kernel) (pa_cons (pv 0) (pa_cons (pe_tup (pa_cons (pe_bltn (v := .ty "tuple") (by rfl) B.tuple_ (by decide +kernel) rfl) (pa_cons (pe_bltn (v := .ty "list") (by rfl) B.list_ (by decide +kernel) rfl) pa_nil))) pa_nil))))) (pw_or1 (pt_cmpR op_ne (pe_callB (call_isi_ K) (by rfl) B.isinstance_ (by decide +kernel) (pa_cons (pv 0) (pa_cons (pe_bltn (v := .ty "list") (by rfl) B.list_ (by decide +kernel) rfl) pa_nil))) (pe_callB (call_isi_ K) (by rfl) B.isinstance_ (by decide +kernel) (pa_cons (pv 1) (pa_cons (pe_bltn (v := .ty "list") (by rfl) B.list_ (by decide +kernel) rfl) pa_nil))) (nomark _)))))
      (pss_one (ps_ret pe_bl))
      pss_nil)
      (pss_cons (ps_if (pt_cmpR op_ne (pe_callB (call_len_ K) (by rfl) B.len_ (by decide +kernel) (pa_cons (pv 0) pa_nil)) (pe_callB (call_len_ K) (by rfl) B.len_ (by decide +kernel) (pa_cons (pv 1) pa_nil)) (nomark _))
      (pss_one (ps_ret pe_bl))
      pss_nil)
      (pss_one (ps_ret (pe_cmpR (op_eqD_ K hr.units) (pe_lc (own := [("_law_k", 2)]) (g := gName 2) (tt := _) rfl sc__law_alike.nd (pi_range1 (by rfl) B.range_ (pa_cons (pe_callB (call_len_ K) (by rfl) B.len_ (by decide +kernel) (pa_cons (pv 1) pa_nil)) pa_nil)) (blkOk_by (own := [("_law_k", 2)]) (N := ["_law_found", "_law_due", "_law_k"]) (sc := defScope s__law_alike) (by decide +kernel)) (fun _ _ _ _ _ => (pg_name (i := 2) sc__law_alike.nd rfl (.inl rfl))) (fun _ _ _ _ _ => (pts_one (pt_not (pt_val (pe_call G__law_alike.ok (hr.mono (by first | decide | exact Nat.le_refl _)) (by rfl) G__law_alike.g G__law_alike.kp G__law_alike.b .nil pass0 (pa_cons (pe_ix (ix_seq_ K) (pv 0) (pv 2) (fun _ _ => rfl)) (pa_cons (pe_ix (ix_seq_ K) (pv 1) (pv 2) (fun _ _ => rfl)) pa_nil))))))) (fun _ _ _ _ _ => (pv 2))) (pe_lst pa_nil) (nomark _))))))
      pss_nil)
      (pss_cons (ps_if (PW.pt (pw_or (pt_cmp (pc_isN (pv 1))) (pw_or1 (pt_val (pe_callB (call_isi_ K) (by rfl) B.isinstance_ (by decide +kernel) (pa_cons (pv 1) (pa_cons (pe_bltn (v := .ty "str") (by rfl) B.str_ (by decide +kernel) rfl) pa_nil)))))))
      (pss_one (ps_ret (pe_and (pe_cmpR op_eq (pv 0) (pv 1) (nomark _)) (pe_one (pe_cmpR op_eq (pe_callB (call_isi_ K) (by rfl) B.isinstance_ (by decide +kernel) (pa_cons (pv 0) (pa_cons (pe_bltn (v := .ty "str") (by rfl) B.str_ (by decide +kernel) rfl) pa_nil))) (pe_callB (call_isi_ K) (by rfl) B.isinstance_ (by decide +kernel) (pa_cons (pv 1) (pa_cons (pe_bltn (v := .ty "str") (by rfl) B.str_ (by decide +kernel) rfl) pa_nil))) (nomark _))))))
      pss_nil)
      (pss_one (ps_ret (pe_and (pe_callB (call_isi_ K) (by rfl) B.isinstance_ (by decide +kernel) (pa_cons (pv 0) (pa_cons (pe_bltn (v := .ty "int") (by rfl) B.int_ (by decide +kernel) rfl) pa_nil))) (pe_and (pe_cmpR op_eq (pe_callB (call_isi_ K) (by rfl) B.isinstance_ (by decide +kernel) (pa_cons (pv 0) (pa_cons (pe_bltn (v := .ty "bool") (by rfl) B.bool_ (by decide +kernel) rfl) pa_nil))) (pe_callB (call_isi_ K) (by rfl) B.isinstance_ (by decide +kernel) (pa_cons (pv 1) (pa_cons (pe_bltn (v := .ty "bool") (by rfl) B.bool_ (by decide +kernel) rfl) pa_nil))) (nomark _)) (pe_one (pe_cmpR op_eq (pv 0) (pv 1) (nomark _))))))))), ?_⟩
      -- isinstance(due, (tuple, list))
      refine ⟨_, rfl, (by show 2 ≤ sizeLine; decide), fun p np => ?_⟩
      have s1 := same_new np (.tup [.ty "tuple", .ty "list"])
      have x1 := Dp.same s1 hx
      have y1 := Dp.same s1 hy
      have two : ([V.ty "tuple", V.ty "list"] : List V).length ≤ sizeLine := by show 2 ≤ sizeLine; decide
      refine ⟨_, p, _, _, _, _, rfl, upd_same, .cons (.ty _) (.cons (.ty _) .nil), Dp.ty y1, kaTL d, _, rfl, ?_⟩
      have flat : isTL d = false → (d = .none ∨ (∃ b, d = .bool b) ∨ (∃ i, d = .int i) ∨ ∃ z, d = .str z) := by
        intro h
        cases d with
        | none => exact .inl rfl
        | bool b => exact .inr (.inl ⟨b, rfl⟩)
        | int i => exact .inr (.inr (.inl ⟨i, rfl⟩))
        | str z => exact .inr (.inr (.inr ⟨z, rfl⟩))
        | list _ => cases h
        | tuple _ => cases h
        | dict _ => cases hy
      cases hd0 : isTL d with
      | true =>
        refine iteT ?_
        -- not isinstance(found, (tuple, list)) or isinstance(found, list) != isinstance(due, list)
        refine ⟨_, rfl, two, fun p2 np2 => ?_⟩
        have s2 := same_new np2 (.tup [.ty "tuple", .ty "list"])
        refine ⟨_, p2, _, _, _, _, rfl, upd_same, .cons (.ty _) (.cons (.ty _) .nil), Dp.ty (Dp.same s2 x1), kaTL d, _, rfl, ?_⟩
        have x2 := Dp.same s2 x1
        have y2 := Dp.same s2 y1
        have s3 := s1.trans s2
        generalize upd (upd H p (.tup [.ty "tuple", .ty "list"])) p2 (.tup [.ty "tuple", .ty "list"]) = H2 at *
        rw [hd0]
        refine iteF ?_
        refine ⟨_, rfl, _, _, _, _, _, rfl, .ty _, Dp.ty x2, kaL d, _, rfl, _, _, _, _, _, rfl, .ty _, Dp.ty y2, kaL d, rfl, _, rfl, ?_⟩
        refine iteNS rfl ?_
        obtain ⟨a, xs, ds, rfl, ha, da⟩ := Dp.seq x2 hd0
        obtain ⟨b, ys, es, rfl, hb, db⟩ := Dp.seq y2 hd0
        have ee : es = ds := by
          rcases ha with ⟨e1, _⟩ | ⟨e1, _⟩ <;> rcases hb with ⟨e2, _⟩ | ⟨e2, _⟩
          · exact PyData.list.inj (e2.symm.trans e1)
          · cases e2.symm.trans e1
          · cases e2.symm.trans e1
          · exact PyData.tuple.inj (e2.symm.trans e1)
        subst ee
        have qa : SqL K H2 a xs ∨ SqT K H2 a xs := ha.elim (fun z => .inl z.2) (fun z => .inr z.2)
        have qb : SqL K H2 b ys ∨ SqT K H2 b ys := hb.elim (fun z => .inl z.2) (fun z => .inr z.2)
        have lx : xs.length = es.length := DpAll.length da
        have ly : ys.length = es.length := DpAll.length db
        obtain ⟨n', rfl, hsz, hok⟩ : ∃ n', n = n' + 1 ∧ es.length ≤ 1000000 ∧ ∀ d ∈ es, OkD n' d := by
          cases n with
          | zero => rcases ha with ⟨rfl, _⟩ | ⟨rfl, _⟩ <;> exact absurd hd id
          | succ n' => rcases ha with ⟨rfl, _⟩ | ⟨rfl, _⟩ <;> exact ⟨n', rfl, hd.1, hd.2⟩
        have La : ∀ H3, Same H2 H3 → LenV K (.ref a) H3 es.length := fun H3 s => qa.elim (fun z => .inl ⟨_, s.seq z, lx.symm⟩) (fun z => .inr ⟨_, Same.seqT s z, lx.symm⟩)
        have Lb : ∀ H3, Same H2 H3 → LenV K (.ref b) H3 es.length := fun H3 s => qb.elim (fun z => .inl ⟨_, s.seq z, ly.symm⟩) (fun z => .inr ⟨_, Same.seqT s z, ly.symm⟩)
        -- len(found) != len(due)
        refine ⟨_, rfl, _, es.length, rfl, La _ (Same.refl _), _, rfl, _, es.length, rfl, Lb _ (Same.refl _), rfl, _, rfl, iteNS rfl ?_⟩
        -- the comprehension
        refine ⟨_, rfl, _, es.length, rfl, Lb _ (Same.refl _), (es.length : Int), rfl, by omega, by omega, fun D nD => ?_⟩
        refine lc_range (lo := 0) (n := es.length) (fun i H' => Same H2 H' ∧ H' D = some (.lst [])) ⟨same_new nD _, upd_same⟩ ?_ ?_
        · rintro i H3 hi ⟨s4, eD⟩
          have hdi : es[i]? = some es[i] := List.getElem?_eq_getElem hi
          obtain ⟨u, hu, du⟩ := DpAll.get da hdi
          obtain ⟨v, hv, dv⟩ := DpAll.get db hdi
          have ei : (0 : Int) + (i : Int) = ((i : Nat) : Int) := Int.zero_add _
          refine ⟨rfl, _, rfl, _, rfl, ?_⟩
          have g1 : rIx K (.ref a) (.int (0 + (i : Int))) H3 = fun Q => rIx K (.ref a) (.int (0 + (i : Int))) H3 Q := rfl
          have ra : ∀ Q : VK, Q u H3 → rIx K (.ref a) (.int (0 + (i : Int))) H3 Q := fun Q q => qa.elim (fun z => .inl ⟨a, xs, _, u, rfl, rfl, s4.seq z, at_of ei hu, q⟩) (fun z => .inr (.inl ⟨a, xs, _, u, rfl, rfl, Same.seqT s4 z, at_of ei hu, q⟩))
          have rb : ∀ Q : VK, Q v H3 → rIx K (.ref b) (.int (0 + (i : Int))) H3 Q := fun Q q => qb.elim (fun z => .inl ⟨b, ys, _, v, rfl, rfl, s4.seq z, at_of ei hv, q⟩) (fun z => .inr (.inl ⟨b, ys, _, v, rfl, rfl, Same.seqT s4 z, at_of ei hv, q⟩))
          refine ra _ ?_
          refine ⟨_, rfl, _, rfl, rb _ ?_⟩
          refine ⟨u, v, es[i], n', rfl, rfl, Dp.same s4 du, Dp.same s4 dv, hok _ (List.getElem_mem hi), fun H4 s5 => ?_⟩
          refine ⟨_, rfl, iteF ?_⟩
          exact ⟨s4.trans s5, s5 _ _ eD⟩
        · rintro H3 ⟨s4, eD⟩
          refine ⟨(by show 0 ≤ sizeLine; decide), fun l nl => ?_⟩
          have s5 := same_new nl (.lst [])
          refine ⟨.list [], .list [], .lst (.inl (.inl (s5 _ _ eD))) .nil, .lst (.inl (.inl upd_same)) .nil, by decide +kernel, by decide +kernel, ?_⟩
          have e : PyData.eqv (.list []) (.list []) = true := by decide +kernel
          rw [e]
          exact q _ (s3.trans (s4.trans s5))
      | false =>
        refine iteF ?_
        have cS : ∀ H3 (Q : VK), Same H H3 → Q (.bl true) H3 → (tOp rEq (tCB (rIsi K) (tCons (tVar 0) (tCons (tC (V.ty "str")) tNil))) (tCB (rIsi K) (tCons (tVar 1) (tCons (tC (V.ty "str")) tNil)))) [some x, some y, none] H3 Q := fun H3 Q s q => by
          refine ⟨_, rfl, _, _, _, _, _, rfl, .ty _, Dp.ty (Dp.same s hx), kS d, _, rfl, _, _, _, _, _, rfl, .ty _, Dp.ty (Dp.same s hy), kS d, rfl, ?_⟩
          rw [decide_eq_true rfl]
          exact q
        have cB : ∀ H3 (Q : VK), Same H H3 → Q (.bl true) H3 → (tOp rEq (tCB (rIsi K) (tCons (tVar 0) (tCons (tC (V.ty "bool")) tNil))) (tCB (rIsi K) (tCons (tVar 1) (tCons (tC (V.ty "bool")) tNil)))) [some x, some y, none] H3 Q := fun H3 Q s q => by
          refine ⟨_, rfl, _, _, _, _, _, rfl, .ty _, Dp.ty (Dp.same s hx), kB d, _, rfl, _, _, _, _, _, rfl, .ty _, Dp.ty (Dp.same s hy), kB d, rfl, ?_⟩
          rw [decide_eq_true rfl]
          exact q
        have exy : x = y ∧ scal x y = true := by
          rcases flat hd0 with rfl | ⟨b, rfl⟩ | ⟨i, rfl⟩ | ⟨z, rfl⟩ <;> cases hx <;> cases hy <;> exact ⟨rfl, rfl⟩
        obtain ⟨rfl, hsc⟩ := exy
        -- due is None or isinstance(due, str)
        refine ⟨_, rfl, _, rfl, ?_⟩
        have fin : ∀ b : Bool, (b = true → isSD d = true ∨ x = .non) → (b = false → isID d = true) → (fun b H1 => if b = true then tRet (tAndV (tOp rEq (tVar 0) (tVar 1)) (tOp rEq (tCB (rIsi K) (tCons (tVar 0) (tCons (tC (V.ty "str")) tNil))) (tCB (rIsi K) (tCons (tVar 1) (tCons (tC (V.ty "str")) tNil)))))
            { nx := fun _ _ => False, rt := Q } [some x, some x, none] H1 else tRet (tAndV (tCB (rIsi K) (tCons (tVar 0) (tCons (tC (V.ty "int")) tNil))) (tAndV (tOp rEq (tCB (rIsi K) (tCons (tVar 0) (tCons (tC (V.ty "bool")) tNil))) (tCB (rIsi K) (tCons (tVar 1) (tCons (tC (V.ty "bool")) tNil)))) (tOp rEq (tVar 0) (tVar 1)))) { nx := fun _ _ => False, rt := Q } [some x, some x, none] H1) b (upd H p (.tup [.ty "tuple", .ty "list"])) := by
          intro b h1 h2
          cases b with
          | true =>
            refine iteT ?_
            refine ⟨_, rfl, _, rfl, hsc, _, rfl, iteDT rfl ?_⟩
            exact cS _ _ s1 (q _ s1)
          | false =>
            refine iteF ?_
            refine ⟨_, rfl, _, _, _, _, _, rfl, .ty _, Dp.ty x1, kI d, _, rfl, ?_⟩
            rw [h2 rfl]
            refine iteT (cB _ _ s1 ⟨_, rfl, iteT ⟨_, rfl, _, rfl, hsc, ?_⟩⟩)
            rw [decide_eq_true rfl]
            exact q _ s1
        by_cases c : x = .non
        · exact iteDT c (fin true (fun _ => .inr c) (fun z => nomatch z))
        · refine iteDF c ?_
          refine ⟨_, rfl, _, _, _, _, _, rfl, .ty _, Dp.ty y1, kS d, _, rfl, fin _ (fun z => .inl z) (fun z => ?_)⟩
          rcases flat hd0 with rfl | ⟨b, rfl⟩ | ⟨i, rfl⟩ | ⟨w, rfl⟩
          · cases hx
            exact absurd rfl c
          · rfl
          · rfl
          · cases z
  exact ⟨f, fd, key 5, gF, F.kp, bF⟩
end

abbrev s__law_pick : Stmt := topS 21
theorem sc__law_pick : FnScope ["_law_h", "_law_things"] ["_law_h", "_law_things"] (defScope s__law_pick) := ⟨rfl, rfl, rfl, by decide +kernel, rfl, by decide +kernel, by decide +kernel⟩
def sp__law_pick (K : PySem.W.Frag) : Sp := fun vs H Q _ => ∃ (h q t : Addr) (xs : List V), vs = [.ref h, .ref t] ∧ LawH H h q ∧ SqL K H t xs ∧ t ≠ h ∧ t ≠ q ∧ xs ≠ [] ∧ xs.length ≤ 1000 ∧
  ∀ (k : Nat) (x : V) (H' : Hp), xs[k]? = some x → LawH H' h q → Sm h q H H' → Q x H'
theorem pickI {K : PySem.W.Frag} {H0 : Hp} {h q t : Addr} {xs : List V} {Q : VK} (L : LawH H0 h q) (nt : H0 t = none) (hx : xs ≠ []) (hl : xs.length ≤ 1000) (k : ∀ x ∈ xs, ∀ H', LawH H' h q → Sm h q H0 H' → Q x H') : sp__law_pick K [.ref h, .ref t] (upd H0 t (.lst xs)) Q E0 := by
  have s3 := same_new nt (.lst xs)
  obtain ⟨hne, st, ix, cells, eh, eq, _⟩ := id L
  exact ⟨h, q, t, _, rfl, L.same s3, .inl (.inl upd_same), ne_new eh nt, ne_new eq nt, hx, hl, fun j x H3 ex L3 S3 => k x (List.mem_of_getElem? ex) H3 L3 (Sm.trans (Sm.of s3) S3)⟩
section
variable {P : Program} {w : World} {K : PySem.W.Frag} {mg : Str → Option Value} {base : Heap}
theorem ok__law_pick (A : At K mg "_law_pick" s__law_pick ["_law_h", "_law_things"]) (B : Bn mg) (H__law_next : CalE P w K mg base "_law_next" ["_law_h", "_law_cap"] 1 (sp__law_next K)) : CalE P w K mg base "_law_pick" ["_law_h", "_law_things"] 2 (sp__law_pick K) := by
  obtain ⟨f, fd, F, gF, bF⟩ := A
  obtain ⟨f__law_next, fd__law_next, G__law_next⟩ := H__law_next
  refine ⟨f, fd, F.ok sc__law_pick (fun vs H Q E h => ?_) (fun cdv A outer s H vs Q E hr h => ?_), gF, F.kp, bF⟩
  · repeat (first | (obtain ⟨rfl, _⟩ := h; rfl) | (obtain ⟨_, h⟩ := h))
  · obtain ⟨h, q, t, xs, rfl, L, hS, n1, n2, hx, hl, k⟩ := h
    have hp : 0 < xs.length := List.length_pos_iff.mpr hx
    refine ⟨_, (pss_one (ps_ret (pe_ix (ix_list_ K) (pv 1) (pe_call G__law_next.ok (hr.mono (by first | decide | exact Nat.le_refl _)) (by rfl) G__law_next.g G__law_next.kp G__law_next.b .nil pass0 (pa_cons (pv 0) (pa_cons (pe_callB (call_len_seq_ K) (by rfl) B.len_ (by decide +kernel) (pa_cons (pv 1) pa_nil)) pa_nil))) (fun _ _ => rfl)))), ?_⟩
    refine ⟨_, rfl, _, rfl, _, rfl, t, xs, rfl, .inl hS, h, q, _, rfl, L, by omega, by omega, fun j H' j0 j1 L' S' => ?_⟩
    obtain ⟨i, rfl⟩ : ∃ i : Nat, j = (i : Int) := ⟨j.toNat, by omega⟩
    have hi : i < xs.length := by omega
    have ex : xs[i]? = some xs[i] := List.getElem?_eq_getElem hi
    exact ⟨t, xs, _, _, rfl, rfl, S'.seq n1 n2 hS, atI_nat ex, k i _ H' ex L' S'⟩
end

abbrev s__law_step : Stmt := topS 22
theorem sc__law_step : FnScope ["_law_h"] ["_law_h"] (defScope s__law_step) := ⟨rfl, rfl, rfl, by decide +kernel, rfl, by decide +kernel, by decide +kernel⟩
def sp__law_step (K : PySem.W.Frag) : Sp := fun vs H Q _ => ∃ (h q : Addr), vs = [.ref h] ∧ LawH H h q ∧
  ∀ (m : Nat) (H' : Hp), 1 ≤ m → m ≤ 64 → LawH H' h q → Sm h q H H' → Q (.int (m : Nat)) H'
section
variable {P : Program} {w : World} {K : PySem.W.Frag} {mg : Str → Option Value} {base : Heap}
theorem ok__law_step (A : At K mg "_law_step" s__law_step ["_law_h"]) (B : Bn mg) (H__law_next : CalE P w K mg base "_law_next" ["_law_h", "_law_cap"] 1 (sp__law_next K)) (H__law_pick : CalE P w K mg base "_law_pick" ["_law_h", "_law_things"] 2 (sp__law_pick K)) : CalE P w K mg base "_law_step" ["_law_h"] 3 (sp__law_step K) := by
  obtain ⟨f, fd, F, gF, bF⟩ := A
  obtain ⟨f__law_next, fd__law_next, G__law_next⟩ := H__law_next
  obtain ⟨f__law_pick, fd__law_pick, G__law_pick⟩ := H__law_pick
  refine ⟨f, fd, F.ok sc__law_step (fun vs H Q E h => ?_) (fun cdv A outer s H vs Q E hr h => ?_), gF, F.kp, bF⟩
  · repeat (first | (obtain ⟨rfl, _⟩ := h; rfl) | (obtain ⟨_, h⟩ := h))
  · obtain ⟨h, q, rfl, L, k⟩ := h
    refine ⟨_, (pss_one (ps_ret (pe_op op_add pe_int (pe_call G__law_next.ok (hr.mono (by first | decide | exact Nat.le_refl _)) (by rfl) G__law_next.g G__law_next.kp G__law_next.b .nil pass0 (pa_cons (pv 0) (pa_cons (pe_call G__law_pick.ok (hr.mono (by first | decide | exact Nat.le_refl _)) (by rfl) G__law_pick.g G__law_pick.kp G__law_pick.b .nil pass0 (pa_cons (pv 0) (pa_cons (pe_lst (pa_cons pe_int (pa_cons pe_int (pa_cons pe_int (pa_cons pe_int pa_nil))))) pa_nil))) pa_nil)))))), ?_⟩
    refine ⟨_, rfl, _, rfl, (by show 4 ≤ sizeLine; decide), fun t nt => pickI L nt (fun z => by cases z) (by show 4 ≤ 1000; decide) fun x hx H1 L1 S1 => ?_⟩
    obtain ⟨c, rfl, c0, c1⟩ : ∃ c : Int, x = .int c ∧ 1 ≤ c ∧ c ≤ 64 := by
      simp only [List.mem_cons, List.not_mem_nil, or_false] at hx
      rcases hx with rfl | rfl | rfl | rfl <;> exact ⟨_, rfl, by decide, by decide⟩
    refine ⟨h, q, c, rfl, L1, by omega, by omega, fun z H2 z0 z1 L2 S2 => ?_⟩
    obtain ⟨y, rfl⟩ : ∃ y : Nat, z = (y : Int) := ⟨z.toNat, by omega⟩
    refine ⟨_, _, rfl, rfl, ?_⟩
    show Q (.int (1 + (y : Int))) H2
    rw [show (1 + (y : Int)) = ((1 + y : Nat) : Int) by omega]
    exact k _ _ (by omega) (by omega) L2 (S1.trans S2)
end

abbrev s__law_row : Stmt := topS 25
theorem sc__law_row : FnScope ["_law_h", "_law_step_here", "_law_found", "_law_k"] ["_law_h", "_law_step_here"] (defScope s__law_row) := ⟨rfl, rfl, rfl, by decide +kernel, rfl, by decide +kernel, by decide +kernel⟩
def sp__law_row (K : PySem.W.Frag) : Sp := fun vs H Q _ => ∃ (h q : Addr) (m : Nat), vs = [.ref h, .int (m : Nat)] ∧ LawH H h q ∧ 1 ≤ m ∧ m ≤ 64 ∧
  ∀ (T : Addr) (ns : List Nat) (H' : Hp), ns.length ≤ 10 → (∀ n ∈ ns, n < 20 * m) → LawH H' h q → Sm h q H H' → H T = none → H' T = some (.tup (ns.map fun n => V.int (n : Nat))) → Q (.ref T) H'
theorem Sm.free {h q : Addr} {H H' : Hp} (s : Sm h q H H') {l : Addr} (hl : H' l = Option.none) (hh : H h = Option.none → H' h = Option.none) (hq : H q = Option.none → H' q = Option.none) (nh : H' h ≠ Option.none) (nq : H' q ≠ Option.none) : H l = Option.none := by
  cases e : H l with
  | none => rfl
  | some o =>
    have n1 : l ≠ h := fun z => nh (z ▸ hl)
    have n2 : l ≠ q := fun z => nq (z ▸ hl)
    rw [s l o e n1 n2] at hl
    cases hl
theorem LawH.h_ne {H : Hp} {h q : Addr} (L : LawH H h q) : H h ≠ Option.none ∧ H q ≠ Option.none := by
  obtain ⟨_, st, ix, cells, a, b, _⟩ := L
  exact ⟨fun z => (by rw [a] at z; cases z), fun z => (by rw [b] at z; cases z)⟩
theorem Sm.free' {h q : Addr} {H H' : Hp} (s : Sm h q H H') (L : LawH H' h q) {l : Addr} (hl : H' l = Option.none) : H l = Option.none := by
  obtain ⟨a, b⟩ := L.h_ne
  cases e : H l with
  | none => rfl
  | some o =>
    rw [s l o e (fun z => a (z ▸ hl)) (fun z => b (z ▸ hl))] at hl
    cases hl
section
variable {P : Program} {w : World} {K : PySem.W.Frag} {mg : Str → Option Value} {base : Heap}
theorem ok__law_row (A : At K mg "_law_row" s__law_row ["_law_h", "_law_step_here"]) (B : Bn mg) (H__law_pick : CalE P w K mg base "_law_pick" ["_law_h", "_law_things"] 2 (sp__law_pick K)) (H__law_next : CalE P w K mg base "_law_next" ["_law_h", "_law_cap"] 1 (sp__law_next K)) : CalE P w K mg base "_law_row" ["_law_h", "_law_step_here"] 3 (sp__law_row K) := by
  obtain ⟨f, fd, F, gF, bF⟩ := A
  obtain ⟨f__law_pick, fd__law_pick, G__law_pick⟩ := H__law_pick
  obtain ⟨f__law_next, fd__law_next, G__law_next⟩ := H__law_next
  refine ⟨f, fd, F.ok sc__law_row (fun vs H Q E h => ?_) (fun cdv A outer s H vs Q E hr h => ?_), gF, F.kp, bF⟩
  · repeat (first | (obtain ⟨rfl, _⟩ := h; rfl) | (obtain ⟨_, h⟩ := h))
  · obtain ⟨h, q, m, rfl, L, m1, m64, k⟩ := h
    have hsz := sizeLine_eq
    refine ⟨_, (pss_cons (ps_set (i := 2) sc__law_row.nd rfl (.inl rfl) (pe_lst pa_nil))
      (pss_cons (ps_for PassesOwn.never rfl (pi_range1 (by rfl) B.range_ (pa_cons (pe_call G__law_pick.ok (hr.mono (by first | decide | exact Nat.le_refl _)) (by rfl) G__law_pick.g G__law_pick.kp G__law_pick.b .nil pass0 (pa_cons (pv 0) (pa_cons (pe_lst (pa_cons pe_int (pa_cons pe_int (pa_cons pe_int (pa_cons pe_int pa_nil))))) pa_nil))) pa_nil)) (pg_name (i := 3) sc__law_row.nd rfl (.inl rfl))
      (pss_one (ps_expr (pe_bm PySem.F.plainAttrs_list PySem.F.slot_list_append PySem.F.type_list_append mt_append (pv 2) (pa_cons (pe_call G__law_next.ok (hr.mono (by first | decide | exact Nat.le_refl _)) (by rfl) G__law_next.g G__law_next.kp G__law_next.b .nil pass0 (pa_cons (pv 0) (pa_cons (pe_op op_mul (pe_call G__law_pick.ok (hr.mono (by first | decide | exact Nat.le_refl _)) (by rfl) G__law_pick.g G__law_pick.kp G__law_pick.b .nil pass0 (pa_cons (pv 0) (pa_cons (pe_lst (pa_cons pe_int (pa_cons pe_int (pa_cons pe_int pa_nil)))) pa_nil))) (pv 1)) pa_nil))) pa_nil)))))
      (pss_one (ps_ret (pe_callTy (call_tuple_of_ K) (by rfl) B.tuple_ (by decide +kernel) (pa_cons (pv 2) pa_nil)))))), ?_⟩
    refine ⟨(by show 0 ≤ sizeLine; omega), fun D nD => ?_⟩
    have s0 := same_new nD (.lst [])
    have e0 := @upd_same H D (.lst [])
    have L0 := L.same s0
    obtain ⟨hnh, hnq⟩ := L.h_ne
    have nDh : D ≠ h := fun z => hnh (z ▸ nD)
    have nDq : D ≠ q := fun z => hnq (z ▸ nD)
    have S0 : Sm h q H (upd H D (.lst [])) := Sm.of s0
    generalize upd H D (.lst []) = H0 at *
    refine ⟨_, rfl, (by show 4 ≤ sizeLine; omega), fun t nt => pickI L0 nt (fun z => by cases z) (by show 4 ≤ 1000; decide) fun x hx H1 L1 S1 => ?_⟩
    obtain ⟨c, rfl, c10⟩ : ∃ c : Nat, x = .int (c : Nat) ∧ c ≤ 10 := by
      simp only [List.mem_cons, List.not_mem_nil, or_false] at hx
      rcases hx with rfl | rfl | rfl | rfl
      · exact ⟨0, rfl, by decide⟩
      · exact ⟨1, rfl, by decide⟩
      · exact ⟨3, rfl, by decide⟩
      · exact ⟨10, rfl, by decide⟩
    refine ⟨_, rfl, by omega, by omega, for_range (lo := 0) (n := c) (fun i σ H2 => ∃ (ns : List Nat) (v3 : Option V), σ = [some (.ref h), some (.int (m : Nat)), some (.ref D), v3] ∧ ns.length = i ∧ (∀ n ∈ ns, n < 20 * m) ∧ LawH H2 h q ∧ Sm h q H H2 ∧ H2 D = some (.lst (ns.map fun n => V.int (n : Nat)))) ⟨[], none, rfl, rfl, (fun n hn => by cases hn), L1, S0.trans S1, S1 _ _ e0 nDh nDq⟩ ?_ ?_⟩
    · rintro i σ H2 hi ⟨ns, v3, rfl, hlen, hns, L2, S2, eD⟩
      refine ⟨_, rfl, .inl ⟨rfl, _, .inl (.inl eD)⟩, _, rfl, _, rfl, (by show 3 ≤ sizeLine; omega), fun t nt => pickI L2 nt (fun z => by cases z) (by show 3 ≤ 1000; decide) fun x hx H3 L3 S3 => ?_⟩
      obtain ⟨c, rfl, c0, c20⟩ : ∃ c : Nat, x = .int (c : Nat) ∧ 1 ≤ c ∧ c ≤ 20 := by
        simp only [List.mem_cons, List.not_mem_nil, or_false] at hx
        rcases hx with rfl | rfl | rfl
        · exact ⟨2, rfl, by decide, by decide⟩
        · exact ⟨5, rfl, by decide, by decide⟩
        · exact ⟨20, rfl, by decide, by decide⟩
      have hcm : c * m ≤ 20 * m := Nat.mul_le_mul_right _ c20
      have hcm1 : 1 ≤ c * m := Nat.mul_le_mul c0 m1
      refine ⟨_, rfl, _, _, rfl, rfl, .inl (by omega), h, q, ((c * m : Nat) : Int), ?_, L3, by omega, by omega, fun z H4 z0 z1 L4 S4 => ?_⟩
      · show [V.ref h, V.int ((c : Int) * (m : Int))] = _
        rw [← Int.natCast_mul]
      obtain ⟨y, rfl⟩ : ∃ y : Nat, z = (y : Int) := ⟨z.toNat, by omega⟩
      have eD4 := S4 _ _ (S3 _ _ eD nDh nDq) nDh nDq
      refine ⟨D, _, _, rfl, rfl, eD4, by rw [List.length_map]; omega, ?_⟩
      refine ⟨ns ++ [y], _, rfl, by rw [List.length_append, hlen]; rfl, ?_, ?_, ?_, ?_⟩
      · intro n hn
        rcases List.mem_append.mp hn with hn | hn
        · exact hns n hn
        · rw [List.mem_singleton.mp hn]
          omega
      · obtain ⟨ne, st, ix, cells, a, b, d⟩ := L4
        exact ⟨ne, st, ix, cells, by rw [upd_ne (Ne.symm nDh)]; exact a, by rw [upd_ne (Ne.symm nDq)]; exact b, d⟩
      · intro b o ho nb1 nb2
        rw [upd_ne (ne_of_none ho nD)]
        exact S4 _ _ (S3 _ _ (S2 _ _ ho nb1 nb2) nb1 nb2) nb1 nb2
      · rw [upd_same, List.map_append]
        rfl
    · rintro σ H2 ⟨ns, v3, rfl, hlen, hns, L2, S2, eD⟩
      refine ⟨_, rfl, D, _, rfl, .inl ⟨.inl (.inl eD), fun T nT => ?_⟩⟩
      have s5 := same_new nT (.tup (ns.map fun n => V.int (n : Nat)))
      exact k T ns _ (by omega) hns (L2.same s5) (S2.trans (Sm.of s5)) (S2.free' L2 nT) upd_same
end

abbrev s_is_integer : Stmt := topS 6
theorem sc_is_integer : FnScope ["thing", "low", "high"] ["thing", "low", "high"] (defScope s_is_integer) := ⟨rfl, rfl, rfl, by decide +kernel, rfl, by decide +kernel, by decide +kernel⟩
/-- the values of «any value» -/
inductive AnyV (K : PySem.W.Frag) (H : Hp) : V → Prop
  | non : AnyV K H .non
  | bl (b : Bool) : AnyV K H (.bl b)
  | int (i : Int) : AnyV K H (.int i)
  | str (x : Str) : AnyV K H (.str x)
  | lst {a : Addr} (h : TyX K H (.ref a) (.type "list")) : AnyV K H (.ref a)
  | tup {a : Addr} (h : TyX K H (.ref a) (.type "tuple")) : AnyV K H (.ref a)
  | dct {a : Addr} (h : TyX K H (.ref a) (.type "dict")) : AnyV K H (.ref a)
def isI (x : V) (lo hi : Int) : Bool := match x with
  | .int n => decide (lo ≤ n) && decide (n ≤ hi)
  | _ => false
theorem isI_yes {n lo hi : Int} (h : lo ≤ n) (h' : n ≤ hi) : isI (.int n) lo hi = true := by
  show (decide (lo ≤ n) && decide (n ≤ hi)) = true
  rw [decide_eq_true h, decide_eq_true h']
  rfl
def sp_is_integer (K : PySem.W.Frag) : Sp := fun vs H Q _ => ∃ (x : V) (lo hi : Int), vs = [x, .int lo, .int hi] ∧ AnyV K H x ∧ Q (.bl (isI x lo hi)) H
section
variable {P : Program} {w : World} {K : PySem.W.Frag} {mg : Str → Option Value} {base : Heap}
theorem ok_is_integer (A : At K mg "is_integer" s_is_integer ["thing", "low", "high"]) (B : Bn mg) : CalE P w K mg base "is_integer" ["thing", "low", "high"] 1 (sp_is_integer K) := by
  obtain ⟨f, fd, F, gF, bF⟩ := A
  refine ⟨f, fd, F.ok sc_is_integer (fun vs H Q E h => ?_) (fun cdv A outer s H vs Q E hr h => ?_), gF, F.kp, bF⟩
  · repeat (first | (obtain ⟨rfl, _⟩ := h; rfl) | (obtain ⟨_, h⟩ := h))
  · obtain ⟨x, lo, hi, rfl, hx, q⟩ := h
    refine ⟨_, (pss_one (ps_ret (pe_and (pe_callB (call_isi_ K) (by rfl) B.isinstance_ (by decide +kernel) (pa_cons (pv 0) (pa_cons (pe_bltn (v := .ty "int") (by rfl) B.int_ (by decide +kernel) rfl) pa_nil))) (pe_and (pe_not (pe_callB (call_isi_ K) (by rfl) B.isinstance_ (by decide +kernel) (pa_cons (pv 0) (pa_cons (pe_bltn (v := .ty "bool") (by rfl) B.bool_ (by decide +kernel) rfl) pa_nil)))) (pe_one (pe_chain op_le op_le (pv 1) (pv 0) (pv 2))))))), ?_⟩
    have no : ∀ T : String, TyX K H x (.type T) → kitB T "int" = some false → isI x lo hi = false → (tRet (tAndV (tCB (rIsi K) (tCons (tVar 0) (tCons (tC (.ty "int")) tNil))) (tAndV (tNotV (tCB (rIsi K) (tCons (tVar 0) (tCons (tC (.ty "bool")) tNil)))) (tChain (rI0 fun i j => .bl (decide (i ≤ j))) (rI0 fun i j => .bl (decide (i ≤ j))) (tVar 1) (tVar 0) (tVar 2))))) { nx := fun _ H' => Q .non H', rt := Q } (start ["thing", "low", "high"] [x, .int lo, .int hi]) H := fun T hT hk hi => by
      refine ⟨_, rfl, _, _, _, _, false, rfl, .ty _, hT, kit_ty hk, _, rfl, iteF ?_⟩
      rw [hi] at q
      exact q
    cases hx with
    | non => exact no _ (.base .non) (by decide +kernel) rfl
    | str z => exact no _ (.base (.str z)) (by decide +kernel) rfl
    | lst h => exact no _ h (by decide +kernel) rfl
    | tup h => exact no _ h (by decide +kernel) rfl
    | dct h => exact no _ h (by decide +kernel) rfl
    | bl b =>
      refine ⟨_, rfl, _, _, _, _, true, rfl, .ty _, .base (.bl b), kit_ty (by decide +kernel), _, rfl, iteT ?_⟩
      refine ⟨_, rfl, _, _, _, _, true, rfl, .ty _, .base (.bl b), kit_ty (by decide +kernel), _, rfl, _, rfl, iteF ?_⟩
      exact q
    | int n =>
      refine ⟨_, rfl, _, _, _, _, true, rfl, .ty _, .base (.int n), kit_ty (by decide +kernel), _, rfl, iteT ?_⟩
      refine ⟨_, rfl, _, _, _, _, false, rfl, .ty _, .base (.int n), kit_ty (by decide +kernel), _, rfl, _, rfl, iteT ?_⟩
      refine ⟨_, rfl, _, rfl, _, _, rfl, rfl, _, rfl, ?_⟩
      have e : isI (.int n) lo hi = (decide (lo ≤ n) && decide (n ≤ hi)) := rfl
      rw [e] at q
      by_cases c : lo ≤ n
      · rw [decide_eq_true c]
        rw [decide_eq_true c, Bool.true_and] at q
        exact iteT ⟨_, rfl, _, _, rfl, rfl, q⟩
      · rw [decide_eq_false c]
        rw [decide_eq_false c, Bool.false_and] at q
        exact iteF q
end

abbrev s_check_step : Stmt := topS 10
theorem sc_check_step : FnScope ["thing"] ["thing"] (defScope s_check_step) := ⟨rfl, rfl, rfl, by decide +kernel, rfl, by decide +kernel, by decide +kernel⟩
def sp_check_step (K : PySem.W.Frag) : Sp := fun vs H Q _ => ∃ m : Nat, vs = [.int (m : Nat)] ∧ 1 ≤ m ∧ m ≤ 64 ∧ Q .non H
section
variable {P : Program} {w : World} {K : PySem.W.Frag} {mg : Str → Option Value} {base : Heap}
theorem ok_check_step (A : At K mg "check_step" s_check_step ["thing"]) (B : Bn mg) (H_is_integer : CalE P w K mg base "is_integer" ["thing", "low", "high"] 1 (sp_is_integer K)) (K_MOST_STEP : ∃ v, mg "MOST_STEP" = some v ∧ RelV (.int 64) v) : CalE P w K mg base "check_step" ["thing"] 2 (sp_check_step K) := by
  obtain ⟨f, fd, F, gF, bF⟩ := A
  obtain ⟨f_is_integer, fd_is_integer, G_is_integer⟩ := H_is_integer
  obtain ⟨v_MOST_STEP, C_MOST_STEP⟩ := K_MOST_STEP
  refine ⟨f, fd, F.ok sc_check_step (fun vs H Q E h => ?_) (fun cdv A outer s H vs Q E hr h => ?_), gF, F.kp, bF⟩
  · repeat (first | (obtain ⟨rfl, _⟩ := h; rfl) | (obtain ⟨_, h⟩ := h))
  · obtain ⟨m, rfl, h1, h2, k⟩ := h
    obtain ⟨_, rfl⟩ := C_MOST_STEP.2
    refine ⟨_, (pss_one (ps_if (pt_not (pt_val (pe_call G_is_integer.ok (hr.mono (by first | decide | exact Nat.le_refl _)) (by rfl) G_is_integer.g G_is_integer.kp G_is_integer.b .nil pass0 (pa_cons (pv 0) (pa_cons pe_int (pa_cons (pe_glob (by rfl) C_MOST_STEP.1 C_MOST_STEP.2) pa_nil))))))
      (pss_one ps_never)
      pss_nil)), ?_⟩
    refine ⟨_, rfl, _, _, _, rfl, .int _, ?_⟩
    rw [isI_yes (by omega) (by omega)]
    exact ⟨_, rfl, iteF k⟩
end

abbrev s_check_text : Stmt := topS 11
theorem sc_check_text : FnScope ["thing", "sign"] ["thing"] (defScope s_check_text) := ⟨rfl, rfl, rfl, by decide +kernel, rfl, by decide +kernel, by decide +kernel⟩
theorem sign_in (b : Bool) : decide (sg b ∈ ("01" : Str).cps.toList) = true := by
  cases b <;> decide +kernel
def sp_check_text (K : PySem.W.Frag) : Sp := fun vs H Q _ => ∃ l : List Bool, vs = [.str (tx l)] ∧ l.length ≤ 4000 ∧ ∀ H', Same H H' → Q .non H'
section
variable {P : Program} {w : World} {K : PySem.W.Frag} {mg : Str → Option Value} {base : Heap}
theorem ok_check_text (A : At K mg "check_text" s_check_text ["thing"]) (B : Bn mg) (K_MOST_TEXT : ∃ v, mg "MOST_TEXT" = some v ∧ RelV (.int 4000) v) : CalE P w K mg base "check_text" ["thing"] 1 (sp_check_text K) := by
  obtain ⟨f, fd, F, gF, bF⟩ := A
  obtain ⟨v_MOST_TEXT, C_MOST_TEXT⟩ := K_MOST_TEXT
  refine ⟨f, fd, F.ok sc_check_text (fun vs H Q E h => ?_) (fun cdv A outer s H vs Q E hr h => ?_), gF, F.kp, bF⟩
  · repeat (first | (obtain ⟨rfl, _⟩ := h; rfl) | (obtain ⟨_, h⟩ := h))
  · obtain ⟨l, rfl, hl, k⟩ := h
    obtain ⟨_, rfl⟩ := C_MOST_TEXT.2
    have hsz := sizeLine_eq
    refine ⟨_, (pss_one (ps_if (PW.pt (pw_or (pt_not (pt_val (pe_callB (call_isi_ K) (by rfl) B.isinstance_ (by decide +kernel) (pa_cons (pv 0) (pa_cons (pe_bltn (v := .ty "str") (by rfl) B.str_ (by decide +kernel) rfl) pa_nil))))) (pw_or (pt_cmpR op_gt (pe_callB call_len_str_ (by rfl) B.len_ (by decide +kernel) (pa_cons (pv 0) pa_nil)) (pe_glob (by rfl) C_MOST_TEXT.1 C_MOST_TEXT.2) (nomark _)) (pw_or1 (pt_not (pt_val (pe_callB (cr_all_ K rfl) (by rfl) B.all_ (by decide +kernel) (pa_cons (pe_lc (own := [("sign", 1)]) (g := gName 1) (tt := tYes) rfl sc_check_text.nd (pi_str (pv 0)) (blkOk_by (own := [("sign", 1)]) (N := ["thing", "sign"]) (sc := defScope s_check_text) (by decide +kernel)) (fun _ _ _ _ _ => (pg_name (i := 1) sc_check_text.nd rfl (.inl rfl))) (fun _ _ _ _ _ => pts_nil) (fun _ _ _ _ _ => (pe_cmpR op_in_sign (pv 1) pe_str (by rfl)))) pa_nil))))))))
      (pss_one ps_never)
      pss_nil)), ?_⟩
    refine ⟨_, rfl, _, _, _, _, true, rfl, .ty _, .base (.str _), kit_ty (by decide +kernel), _, rfl, iteF ?_⟩
    refine ⟨_, rfl, _, rfl, by rw [tx_len]; omega, _, _, rfl, rfl, _, rfl, iteDF (by rw [tx_len]; omega) ?_⟩
    refine ⟨_, rfl, _, rfl, fun D nD => ?_⟩
    refine lc_str (x := tx l) (fun i H2 => Same H H2 ∧ H2 D = some (.lst ((List.replicate i true).map V.bl))) ⟨same_new nD _, upd_same⟩ ?_ ?_
    · rintro i c H2 hc ⟨s2, e2⟩
      have hi : i < l.length := by
        have := (List.getElem?_eq_some_iff.mp hc).1
        rw [tx_list, List.length_map] at this
        exact this
      obtain ⟨b, hb⟩ : ∃ b, c = sg b := by
        rw [tx_list, List.getElem?_map] at hc
        cases e : l[i]? with
        | none => rw [e] at hc; cases hc
        | some b => rw [e] at hc; exact ⟨b, (Option.some.inj hc).symm⟩
      subst hb
      refine ⟨rfl, _, rfl, sg b, _, rfl, rfl, _, e2, ?_, ?_, ?_⟩
      · rw [List.length_map, List.length_replicate]
        omega
      · intro a o ho
        rw [upd_ne (ne_of_none ho nD)]
        exact s2 a o ho
      · rw [upd_same, sign_in, ← List.replicate_append_replicate, List.map_append]
        rfl
    · rintro H2 ⟨s2, e2⟩
      refine ⟨D, _, rfl, .inl (.inl e2), ?_⟩
      have e : (List.replicate (tx l).cps.size true).all id = true := by
        rw [List.all_eq_true]
        intro x hx
        rw [List.eq_of_mem_replicate hx]
        rfl
      rw [e]
      exact ⟨_, rfl, iteF (k H2 s2)⟩
end

abbrev s_power_of_two : Stmt := topS 13
theorem sc_power_of_two : FnScope ["times"] ["times"] (defScope s_power_of_two) := ⟨rfl, rfl, rfl, by decide +kernel, rfl, by decide +kernel, by decide +kernel⟩
def sp_power_of_two (K : PySem.W.Frag) : Sp := fun vs H Q _ => ∃ t : Nat, vs = [.int (t : Nat)] ∧ t ≤ 1000 ∧ Q (.int ((2 ^ t : Nat) : Int)) H
section
variable {P : Program} {w : World} {K : PySem.W.Frag} {mg : Str → Option Value} {base : Heap}
theorem ok_power_of_two (A : At K mg "power_of_two" s_power_of_two ["times"]) (B : Bn mg) : CalE P w K mg base "power_of_two" ["times"] 1 (sp_power_of_two K) := by
  obtain ⟨f, fd, F, gF, bF⟩ := A
  refine ⟨f, fd, F.ok sc_power_of_two (fun vs H Q E h => ?_) (fun cdv A outer s H vs Q E hr h => ?_), gF, F.kp, bF⟩
  · repeat (first | (obtain ⟨rfl, _⟩ := h; rfl) | (obtain ⟨_, h⟩ := h))
  · obtain ⟨t, rfl, ht, k⟩ := h
    refine ⟨_, (pss_one (ps_ret (pe_op op_shl pe_int (pv 0)))), ?_⟩
    refine ⟨_, rfl, _, _, rfl, rfl, ⟨by omega, by omega, by decide⟩, ?_⟩
    have e : (1 : Int) * 2 ^ ((t : Int)).toNat = ((2 ^ t : Nat) : Int) := by
      rw [Int.one_mul, Int.toNat_natCast, Int.natCast_pow]
      rfl
    show Q (.int ((1 : Int) * 2 ^ ((t : Int)).toNat)) H
    rw [e]
    exact k
end

abbrev s_wide : Stmt := topS 12
theorem sc_wide : FnScope ["step", "found"] ["step"] (defScope s_wide) := ⟨rfl, rfl, rfl, by decide +kernel, rfl, by decide +kernel, by decide +kernel⟩
def sp_wide (K : PySem.W.Frag) : Sp := fun vs H Q _ => ∃ m : Nat, vs = [.int (m : Nat)] ∧ m ≤ 64 ∧ Q (.int (wideN m : Nat)) H
section
variable {P : Program} {w : World} {K : PySem.W.Frag} {mg : Str → Option Value} {base : Heap}
theorem ok_wide (A : At K mg "wide" s_wide ["step"]) (B : Bn mg) (H_power_of_two : CalE P w K mg base "power_of_two" ["times"] 1 (sp_power_of_two K)) : CalE P w K mg base "wide" ["step"] 2 (sp_wide K) := by
  obtain ⟨f, fd, F, gF, bF⟩ := A
  obtain ⟨f_power_of_two, fd_power_of_two, G_power_of_two⟩ := H_power_of_two
  refine ⟨f, fd, F.ok sc_wide (fun vs H Q E h => ?_) (fun cdv A outer s H vs Q E hr h => ?_), gF, F.kp, bF⟩
  · repeat (first | (obtain ⟨rfl, _⟩ := h; rfl) | (obtain ⟨_, h⟩ := h))
  · obtain ⟨m, rfl, hm, k⟩ := h
    have h6 := wide_64 hm
    refine ⟨_, (pss_cons (ps_set (i := 1) sc_wide.nd rfl (.inl rfl) pe_int)
      (pss_cons (ps_while PassesOwn.never (pt_cmpR op_lt (pe_call G_power_of_two.ok (hr.mono (by first | decide | exact Nat.le_refl _)) (by rfl) G_power_of_two.g G_power_of_two.kp G_power_of_two.b .nil pass0 (pa_cons (pv 1) pa_nil)) (pv 0) (nomark _))
      (pss_one (ps_aug (i := 1) sc_wide.nd rfl (.inl rfl) pe_int ip_add)))
      (pss_one (ps_ret (pv 1))))), ?_⟩
    refine ⟨fun n σ H2 => ∃ c : Nat, n = 6 - c ∧ σ = [some (.int (m : Nat)), some (.int (c : Nat))] ∧ (∀ d, d < c → 2 ^ d < m) ∧ c ≤ 6 ∧ H2 = H, ⟨6, 0, rfl, rfl, fun d h => by omega, by decide, rfl⟩, ?_⟩
    rintro n σ H2 ⟨c, rfl, rfl, hc, c6, rfl⟩
    refine ⟨_, rfl, c, rfl, by omega, _, rfl, _, _, rfl, rfl, _, rfl, ite2 (fun z => ?_) (fun z => ?_)⟩
    · have z' : 2 ^ c < m := Int.ofNat_lt.mp (of_decide_eq_true z)
      have c5 : c < 6 := by
        refine Nat.not_le.mp fun y => ?_
        have : c = 6 := by omega
        subst this
        omega
      refine ⟨fun σ' H' => ∃ c' : Nat, c' = c + 1 ∧ σ' = [some (.int (m : Nat)), some (.int (c' : Nat))] ∧ H' = H2, fun σ' H' ⟨c', e0, e1, e2⟩ => ⟨6 - c', by omega, c', rfl, e1, fun d hd => ?_, by omega, e2⟩, ?_⟩
      · by_cases hd' : d = c
        · exact hd' ▸ z'
        · exact hc d (by omega)
      exact ⟨_, rfl, _, _, rfl, rfl, c + 1, rfl, rfl, rfl⟩
    · have z' : m ≤ 2 ^ c := Nat.not_lt.mp fun y => z (decide_eq_true (Int.ofNat_lt.mpr y))
      rw [wide_eq z' hc] at k
      exact ⟨_, rfl, k⟩
end

abbrev s_first_end : Stmt := topS 14
theorem sc_first_end : FnScope ["step", "text", "begin", "at", "many", "short", "ones", "rest", "place", "end"] ["step", "text", "begin"] (defScope s_first_end) := ⟨rfl, rfl, rfl, by decide +kernel, rfl, by decide +kernel, by decide +kernel⟩
def sp_first_end (K : PySem.W.Frag) : Sp := fun vs H Q _ => ∃ (m : Nat) (l : List Bool) (b : Nat), vs = [.int (m : Nat), .str (tx l), .int (b : Nat)] ∧ 1 ≤ m ∧ m ≤ 64 ∧ l.length ≤ 100000 ∧ b ≤ l.length ∧
  (∀ n e, feN m l b = some (n, e) → ∀ p H', Same H H' → H p = none → H' p = some (.tup [.int (n : Nat), .int (e : Nat)]) → Q (.ref p) H') ∧ (feN m l b = none → Q .non H)
theorem max0 (c : Nat) : (if (c : Int) - 1 > 0 then (c : Int) - 1 else 0) = ((c - 1 : Nat) : Int) := by
  split <;> omega
section
variable {P : Program} {w : World} {K : PySem.W.Frag} {mg : Str → Option Value} {base : Heap}
theorem ok_first_end (A : At K mg "first_end" s_first_end ["step", "text", "begin"]) (B : Bn mg) (H_wide : CalE P w K mg base "wide" ["step"] 2 (sp_wide K)) (H_power_of_two : CalE P w K mg base "power_of_two" ["times"] 1 (sp_power_of_two K)) : CalE P w K mg base "first_end" ["step", "text", "begin"] 3 (sp_first_end K) := by
  obtain ⟨f, fd, F, gF, bF⟩ := A
  obtain ⟨f_wide, fd_wide, G_wide⟩ := H_wide
  obtain ⟨f_power_of_two, fd_power_of_two, G_power_of_two⟩ := H_power_of_two
  refine ⟨f, fd, F.ok sc_first_end (fun vs H Q E h => ?_) (fun cdv A outer s H vs Q E hr h => ?_), gF, F.kp, bF⟩
  · repeat (first | (obtain ⟨rfl, _⟩ := h; rfl) | (obtain ⟨_, h⟩ := h))
  · obtain ⟨m, l, b, rfl, hm, h64, hl, hb, k1, k2⟩ := h
    have hsz := sizeLine_eq
    have h6 := wide_64 h64
    have es : ((2 ^ wideN m : Nat) : Int) - (m : Int) = ((shortN m : Nat) : Int) := by
      unfold shortN
      have := wide_le m
      omega
    have ol := ones_le (l.drop b)
    rw [List.length_drop] at ol
    have bits : ∀ (i : Nat) (A B : Prop), (l[i]? = some true → A) → (l[i]? ≠ some true → B) → (if decide (V.str (cutS (tx l) (some (i : Int)) (some ((i : Int) + 1))) = V.str ("1" : Str)) = true then A else B) := by
      intro i A B h1 h2
      have e : (V.str (cutS (tx l) (some (i : Int)) (some ((i : Int) + 1))) = V.str ("1" : Str)) ↔ l[i]? = some true := by
        rw [cut_at, tx_one]
        exact ⟨fun z => (at_is _).mp (V.str.inj z), fun z => congrArg V.str ((at_is _).mpr z)⟩
      by_cases c : l[i]? = some true
      · exact iteDT (e.mpr c) (h1 c)
      · exact iteDF (fun z => c (e.mp z)) (h2 c)
    have tl : (tx l).length ≤ sizeLine := by rw [tx_len]; omega
    have dg : ∀ i, (l.drop b)[i]? = l[b + i]? := fun i => List.getElem?_drop
    have rp := rd_pv m (l.drop b)
    have dd : (l.drop b).drop (onesN (l.drop b) + 1) = l.drop (b + (onesN (l.drop b) + 1)) := by rw [List.drop_drop]
    have ld : (l.drop b).length = l.length - b := List.length_drop
    rw [dd, ld] at rp
    have feq : feN m l b = (rd m (l.drop b)).map fun p => (p.1, b + p.2) := rfl
    generalize hk : onesN (l.drop b) = kk at *
    refine ⟨_, (pss_cons (ps_set (i := 3) sc_first_end.nd rfl (.inl rfl) (pv 2))
      (pss_cons (ps_while PassesOwn.never (pt_cmpR op_eq (pe_slice sl_str (pv 1) (po_some (pv 3)) (po_some (pe_op op_add (pv 3) pe_int))) pe_str (nomark _))
      (pss_one (ps_aug (i := 3) sc_first_end.nd rfl (.inl rfl) pe_int ip_add)))
      (pss_cons (ps_set (i := 4) sc_first_end.nd rfl (.inl rfl) (pe_call G_wide.ok (hr.mono (by first | decide | exact Nat.le_refl _)) (by rfl) G_wide.g G_wide.kp G_wide.b .nil pass0 (pa_cons (pv 0) pa_nil)))
      (pss_cons (ps_set (i := 5) sc_first_end.nd rfl (.inl rfl) (pe_op op_sub (pe_call G_power_of_two.ok (hr.mono (by first | decide | exact Nat.le_refl _)) (by rfl) G_power_of_two.g G_power_of_two.kp G_power_of_two.b .nil pass0 (pa_cons (pv 4) pa_nil)) (pv 0)))
      (pss_cons (ps_if (pt_cmpR op_ge (pv 3) (pe_callB call_len_str_ (by rfl) B.len_ (by decide +kernel) (pa_cons (pv 1) pa_nil)) (nomark _))
      (pss_one (ps_ret pe_non))
      pss_nil)
      (pss_cons (ps_par3 (i := 6) (j := 3) (l := 7) (by rfl) sc_first_end.nd rfl rfl rfl (by decide) (by decide) (by decide) rfl rfl rfl (pa_cons (pe_op op_sub (pv 3) (pv 2)) (pa_cons (pe_op op_add (pv 3) pe_int) (pa_cons pe_int pa_nil))) (by rfl))
      (pss_cons (ps_for PassesOwn.never rfl (pi_range1 (by rfl) B.range_ (pa_cons (pe_op op_sub (pv 4) pe_int) pa_nil)) (pg_name (i := 8) sc_first_end.nd rfl (.inl rfl))
      (pss_one (ps_set (i := 7) sc_first_end.nd rfl (.inl rfl) (pe_op op_add (pe_op op_mul pe_int (pv 7)) (pe_ifExp (pt_cmpR op_eq (pe_slice sl_str (pv 1) (po_some (pe_op op_add (pv 3) (pv 8))) (po_some (pe_op op_add (pe_op op_add (pv 3) (pv 8)) pe_int))) pe_str (nomark _)) pe_int pe_int)))))
      (pss_cons (ps_set (i := 9) sc_first_end.nd rfl (.inl rfl) (pe_op op_add (pv 3) (pe_callB (call_max2 rfl) (by rfl) B.max_ (by decide +kernel) (pa_cons pe_int (pa_cons (pe_op op_sub (pv 4) pe_int) pa_nil)))))
      (pss_cons (ps_if (PW.pt (pw_and (pt_cmpR op_gt (pv 4) pe_int (nomark _)) (pw_and1 (pt_cmpR op_ge (pv 7) (pv 5) (nomark _)))))
      (pss_cons (ps_set (i := 7) sc_first_end.nd rfl (.inl rfl) (pe_op op_sub (pe_op op_add (pe_op op_mul pe_int (pv 7)) (pe_ifExp (pt_cmpR op_eq (pe_slice sl_str (pv 1) (po_some (pv 9)) (po_some (pe_op op_add (pv 9) pe_int))) pe_str (nomark _)) pe_int pe_int)) (pv 5)))
      (pss_one (ps_aug (i := 9) sc_first_end.nd rfl (.inl rfl) pe_int ip_add)))
      pss_nil)
      (pss_one (ps_ret (pe_ifExp (pt_cmpR op_le (pv 9) (pe_callB call_len_str_ (by rfl) B.len_ (by decide +kernel) (pa_cons (pv 1) pa_nil)) (nomark _)) (pe_tup (pa_cons (pe_op op_add (pe_op op_mul (pv 6) (pv 0)) (pv 7)) (pa_cons (pv 9) pa_nil))) pe_non)))))))))))), ?_⟩
    refine ⟨_, rfl, ?_⟩
    -- while text[at:at + 1] == "1"
    refine ⟨fun x σ H2 => ∃ i : Nat, x = kk - i ∧ i ≤ kk ∧ σ = [some (.int (m : Nat)), some (.str (tx l)), some (.int (b : Nat)), some (.int ((b + i : Nat) : Int)), none, none, none, none, none, none] ∧ H2 = H, ⟨kk, 0, rfl, Nat.zero_le _, rfl, rfl⟩, ?_⟩
    rintro x σ H2 ⟨i, rfl, hi, rfl, rfl⟩
    refine ⟨_, rfl, _, rfl, _, rfl, _, rfl, _, _, rfl, rfl, _, rfl, _, rfl, tl, rfl, _, rfl, ?_⟩
    have oa := ones_at (l.drop b) i (by omega)
    rw [dg, hk] at oa
    refine bits (b + i) _ _ (fun c => ?_) (fun c => ?_)
    · have c' := oa.mp c
      refine ⟨fun σ' H' => ∃ j : Nat, j = i + 1 ∧ σ' = [some (.int (m : Nat)), some (.str (tx l)), some (.int (b : Nat)), some (.int ((b + j : Nat) : Int)), none, none, none, none, none, none] ∧ H' = H2, fun σ' H' ⟨j, e0, e1, e2⟩ => ⟨kk - j, by omega, j, rfl, by omega, e1, e2⟩, ?_⟩
      exact ⟨_, rfl, _, _, rfl, rfl, i + 1, rfl, rfl, rfl⟩
    have c' : i = kk := by
      have : ¬ i < kk := fun z => c (oa.mpr z)
      omega
    subst c'
    -- many, short
    refine ⟨_, rfl, m, rfl, h64, ?_⟩
    refine ⟨_, rfl, wideN m, rfl, by omega, _, rfl, _, _, rfl, rfl, ?_⟩
    -- if at >= len(text)
    refine ⟨_, rfl, _, rfl, _, rfl, tl, _, _, rfl, rfl, _, rfl, ite2 (fun z => ?_) (fun z => ?_)⟩
    · have z' := of_decide_eq_true z
      rw [tx_len] at z'
      refine k2 ?_
      rw [feq, rp, if_pos (by omega)]
      rfl
    have z' : ¬ (l.length ≤ b + i) := fun y => z (decide_eq_true (by rw [tx_len]; omega))
    rw [if_neg (by omega)] at rp
    -- ones, at, rest = at - begin, at + 1, 0
    refine ⟨_, rfl, _, rfl, _, _, rfl, rfl, _, rfl, _, _, rfl, rfl, _, _, _, rfl, ?_⟩
    -- the figures
    have e3 : ((b + i : Nat) : Int) - (b : Int) = (i : Int) := by omega
    refine ⟨_, rfl, _, _, rfl, rfl, _, rfl, by omega, by omega, ?_⟩
    rw [show (((wideN m : Nat) : Int) - 1).toNat = wideN m - 1 by omega]
    refine for_range (lo := 0) (n := wideN m - 1) (fun j σ H3 => ∃ v, σ = [some (.int (m : Nat)), some (.str (tx l)), some (.int (b : Nat)), some (.int ((b + i + 1 : Nat) : Int)), some (.int (wideN m : Nat)), some (.int (shortN m : Nat)), some (.int (i : Nat)), some (.int (pvN (l.drop (b + (i + 1))) j : Nat)), v, none] ∧ H3 = H2) ⟨none, ?_, rfl⟩ ?_ ?_
    · show [some (V.int (m : Int)), some (.str (tx l)), some (.int (b : Int)), some (.int (((b + i : Nat) : Int) + 1)), some (.int (wideN m : Nat)), some (.int (((2 ^ wideN m : Nat) : Int) - (m : Int))), some (.int (((b + i : Nat) : Int) - (b : Int))), some (.int 0), none, none] = _
      rw [es, e3]
      rfl
    · rintro j σ H3 hj ⟨v, rfl, rfl⟩
      have ej : ((b + i + 1 : Nat) : Int) + (0 + (j : Int)) = ((b + i + 1 + j : Nat) : Int) := by omega
      refine ⟨_, rfl, _, _, rfl, rfl, .inl (by omega), _, rfl, _, rfl, _, rfl, _, _, rfl, rfl, _, rfl, _, rfl, _, rfl, _, _, rfl, rfl, _, _, rfl, rfl, _, rfl, _, rfl, tl, rfl, _, rfl, ?_⟩
      show (if decide (V.str (cutS (tx l) (some (((b + i + 1 : Nat) : Int) + (0 + (j : Int)))) (some (((b + i + 1 : Nat) : Int) + (0 + (j : Int)) + 1))) = V.str ("1" : Str)) = true then _ else _)
      rw [ej]
      have eb : (l.drop (b + (i + 1)))[j]? = l[b + i + 1 + j]? := by
        rw [List.getElem?_drop]
        congr 1
      refine bits (b + i + 1 + j) _ _ (fun c => ?_) (fun c => ?_)
      · refine ⟨_, _, rfl, rfl, some (.int (0 + (j : Int))), ?_, rfl⟩
        have e : pvN (l.drop (b + (i + 1))) (j + 1) = 2 * pvN (l.drop (b + (i + 1))) j + 1 := by
          rw [pvN]
          unfold bitN
          rw [eb, if_pos c]
        rw [e]
        rfl
      · refine ⟨_, _, rfl, rfl, some (.int (0 + (j : Int))), ?_, rfl⟩
        have e : pvN (l.drop (b + (i + 1))) (j + 1) = 2 * pvN (l.drop (b + (i + 1))) j + 0 := by
          rw [pvN]
          unfold bitN
          rw [eb, if_neg c]
        rw [e]
        rfl
    · rintro σ H3 ⟨v, rfl, rfl⟩
      have pl := pvN_lt (l.drop (b + (i + 1))) (wideN m - 1)
      generalize hpv : pvN (l.drop (b + (i + 1))) (wideN m - 1) = r at *
      -- end = at + max(0, many - 1)
      refine ⟨_, rfl, _, rfl, _, _, rfl, rfl, _, _, rfl, ?_⟩
      show rI0 (fun i j => V.int (i + j)) (.int ((b + i + 1 : Nat) : Int)) (.int (if ((wideN m : Nat) : Int) - 1 > 0 then ((wideN m : Nat) : Int) - 1 else 0)) _ _
      rw [max0]
      refine ⟨_, _, rfl, rfl, ?_⟩
      have ee : ((b + i + 1 : Nat) : Int) + ((wideN m - 1 : Nat) : Int) = ((b + (i + 1 + (wideN m - 1)) : Nat) : Int) := by omega
      -- the end, whichever way
      have fin : ∀ (e r' : Nat) (v8 : Option V), rd m (l.drop b) = (if e ≤ l.length then some (i * m + r', e - b) else none) → b ≤ e →
          tRet (tIf (tTest (tOp (rI0 fun i j => V.bl (decide (i ≤ j))) (tVar 9) (tCB rLenS (tCons (tVar 1) tNil)))) (tTup (tCons (tOp (rI0 fun i j => V.int (i + j)) (tOp (rI CMul fun i j => V.int (i * j)) (tVar 6) (tVar 0)) (tVar 7)) (tCons (tVar 9) tNil))) (tC .non)) { nx := fun _ H' => Q .non H', rt := Q }
            [some (.int (m : Nat)), some (.str (tx l)), some (.int (b : Nat)), some (.int ((b + i + 1 : Nat) : Int)), some (.int (wideN m : Nat)), some (.int (shortN m : Nat)), some (.int (i : Nat)), some (.int (r' : Nat)), v8, some (.int (e : Nat))] H3 := by
        intro e r' v8 hrd hbe
        refine ⟨_, rfl, _, rfl, _, rfl, tl, _, _, rfl, rfl, _, rfl, ite2 (fun y => ?_) (fun y => ?_)⟩
        · have y' := of_decide_eq_true y
          rw [tx_len] at y'
          rw [if_pos (by omega)] at hrd
          refine ⟨_, rfl, _, rfl, _, _, rfl, rfl, .inl (by omega), _, rfl, _, _, rfl, rfl, _, rfl, (by show 2 ≤ sizeLine; omega), fun p np => ?_⟩
          refine k1 (i * m + r') e ?_ p _ (same_new np _) np ?_
          · rw [feq, hrd]
            show some (i * m + r', b + (e - b)) = _
            rw [show b + (e - b) = e by omega]
          · rw [upd_same]
            show some (HO.tup [V.int ((i : Int) * (m : Int) + (r' : Int)), V.int (e : Int)]) = _
            rw [← Int.natCast_mul, ← Int.natCast_add]
        · have y' : ¬ e ≤ l.length := fun x => y (decide_eq_true (by rw [tx_len]; omega))
          rw [if_neg y'] at hrd
          refine k2 ?_
          rw [feq, hrd]
          rfl
      have hbk : ∀ x, (i + 1 + x ≤ l.length - b) ↔ b + (i + 1 + x) ≤ l.length := fun x => by omega
      -- if many > 0 and rest >= short
      refine ⟨_, rfl, _, _, rfl, rfl, _, rfl, ite2 (fun y => ?_) (fun y => ?_)⟩
      · have y' : 0 < wideN m := Int.ofNat_lt.mp (of_decide_eq_true y)
        refine ⟨_, rfl, _, rfl, _, _, rfl, rfl, _, rfl, ite2 (fun u => ?_) (fun u => ?_)⟩
        · have u' : shortN m ≤ r := by
            have := of_decide_eq_true u
            omega
          rw [if_pos ⟨y', u'⟩] at rp
          refine ⟨_, rfl, _, _, rfl, rfl, .inl (by omega), _, rfl, _, rfl, _, rfl, _, rfl, _, _, rfl, rfl, _, rfl, _, rfl, tl, rfl, _, rfl, ?_⟩
          show (if decide (V.str (cutS (tx l) (some (((b + i + 1 : Nat) : Int) + ((wideN m - 1 : Nat) : Int))) (some (((b + i + 1 : Nat) : Int) + ((wideN m - 1 : Nat) : Int) + 1))) = V.str ("1" : Str)) = true then _ else _)
          rw [ee]
          have eb : (l.drop (b + (i + 1)))[wideN m - 1]? = l[b + (i + 1 + (wideN m - 1))]? := by
            rw [List.getElem?_drop]
            congr 1
            omega
          refine bits (b + (i + 1 + (wideN m - 1))) _ _ (fun c => ?_) (fun c => ?_)
          · refine ⟨_, _, rfl, rfl, _, rfl, _, _, rfl, rfl, _, rfl, _, _, rfl, rfl, ?_⟩
            have eB : bitN (l.drop (b + (i + 1))) (wideN m - 1) = 1 := by
              unfold bitN
              rw [eb, if_pos c]
            rw [eB] at rp
            have := fin (b + (i + 1 + (wideN m - 1)) + 1) (2 * r + 1 - shortN m) v (by
              rw [rp]
              by_cases q : b + (i + 1 + (wideN m - 1)) + 1 ≤ l.length
              · rw [if_pos q, if_pos (by omega)]
                congr 2
                omega
              · rw [if_neg q, if_neg (by omega)]) (by omega)
            rw [show ((2 * r + 1 - shortN m : Nat) : Int) = 2 * (r : Int) + 1 - (shortN m : Int) by omega, show ((b + (i + 1 + (wideN m - 1)) + 1 : Nat) : Int) = ((b + (i + 1 + (wideN m - 1)) : Nat) : Int) + 1 by omega, ← ee] at this
            exact this
          · refine ⟨_, _, rfl, rfl, _, rfl, _, _, rfl, rfl, _, rfl, _, _, rfl, rfl, ?_⟩
            have eB : bitN (l.drop (b + (i + 1))) (wideN m - 1) = 0 := by
              unfold bitN
              rw [eb, if_neg c]
            rw [eB] at rp
            have := fin (b + (i + 1 + (wideN m - 1)) + 1) (2 * r + 0 - shortN m) v (by
              rw [rp]
              by_cases q : b + (i + 1 + (wideN m - 1)) + 1 ≤ l.length
              · rw [if_pos q, if_pos (by omega)]
                congr 2
                omega
              · rw [if_neg q, if_neg (by omega)]) (by omega)
            rw [show ((2 * r + 0 - shortN m : Nat) : Int) = 2 * (r : Int) + 0 - (shortN m : Int) by omega, show ((b + (i + 1 + (wideN m - 1)) + 1 : Nat) : Int) = ((b + (i + 1 + (wideN m - 1)) : Nat) : Int) + 1 by omega, ← ee] at this
            exact this
        · have u' : ¬ shortN m ≤ r := fun x => u (decide_eq_true (Int.ofNat_le.mpr x))
          rw [if_neg (fun x => u' x.2)] at rp
          have := fin (b + (i + 1 + (wideN m - 1))) r v (by
              rw [rp]
              by_cases q : b + (i + 1 + (wideN m - 1)) ≤ l.length
              · rw [if_pos q, if_pos (by omega)]
                congr 2
                omega
              · rw [if_neg q, if_neg (by omega)]) (by omega)
          rw [← ee] at this
          exact this
      · have y' : ¬ 0 < wideN m := fun x => y (decide_eq_true (Int.ofNat_lt.mpr x))
        rw [if_neg (fun x => y' x.1)] at rp
        refine iteF ?_
        have := fin (b + (i + 1 + (wideN m - 1))) r v (by
            rw [rp]
            by_cases q : b + (i + 1 + (wideN m - 1)) ≤ l.length
            · rw [if_pos q, if_pos (by omega)]
              congr 2
              omega
            · rw [if_neg q, if_neg (by omega)]) (by omega)
        rw [← ee] at this
        exact this
end

abbrev s_cut_by : Stmt := topS 15
theorem sc_cut_by : FnScope ["step", "text", "found", "at", "here"] ["step", "text"] (defScope s_cut_by) := ⟨rfl, rfl, rfl, by decide +kernel, rfl, by decide +kernel, by decide +kernel⟩
def sp_cut_by (K : PySem.W.Frag) : Sp := fun vs H Q _ => ∃ (m : Nat) (l : List Bool), vs = [.int (m : Nat), .str (tx l)] ∧ 1 ≤ m ∧ m ≤ 64 ∧ l.length ≤ 100000 ∧
  ∀ (D : Addr) (us : List V) (H' : Hp), Same H H' → H D = none → H' D = some (.lst us) → PrAt H' us (cuts m l) → Q (.ref D) H'
section
variable {P : Program} {w : World} {K : PySem.W.Frag} {mg : Str → Option Value} {base : Heap}
theorem ok_cut_by (A : At K mg "cut_by" s_cut_by ["step", "text"]) (B : Bn mg) (H_first_end : CalE P w K mg base "first_end" ["step", "text", "begin"] 3 (sp_first_end K)) : CalE P w K mg base "cut_by" ["step", "text"] 4 (sp_cut_by K) := by
  obtain ⟨f, fd, F, gF, bF⟩ := A
  obtain ⟨f_first_end, fd_first_end, G_first_end⟩ := H_first_end
  refine ⟨f, fd, F.ok sc_cut_by (fun vs H Q E h => ?_) (fun cdv A outer s H vs Q E hr h => ?_), gF, F.kp, bF⟩
  · repeat (first | (obtain ⟨rfl, _⟩ := h; rfl) | (obtain ⟨_, h⟩ := h))
  · obtain ⟨m, l, rfl, hm, h64, hl, k⟩ := h
    have hsz := sizeLine_eq
    refine ⟨_, (pss_cons (ps_par (i := 2) (j := 3) (by rfl) sc_cut_by.nd rfl rfl (by decide) rfl rfl (pa_cons (pe_lst pa_nil) (pa_cons pe_int pa_nil)) (by rfl))
      (pss_cons (ps_set (i := 4) sc_cut_by.nd rfl (.inl rfl) (pe_call G_first_end.ok (hr.mono (by first | decide | exact Nat.le_refl _)) (by rfl) G_first_end.g G_first_end.kp G_first_end.b .nil pass0 (pa_cons (pv 0) (pa_cons (pv 1) (pa_cons (pv 3) pa_nil)))))
      (pss_cons (ps_while PassesOwn.never (pt_cmp (pc_notN (pv 4)))
      (pss_cons (ps_expr (pe_bm PySem.F.plainAttrs_list PySem.F.slot_list_append PySem.F.type_list_append mt_append (pv 2) (pa_cons (pv 4) pa_nil)))
      (pss_cons (ps_set (i := 3) sc_cut_by.nd rfl (.inl rfl) (pe_ix (ix_tup_ K) (pv 4) pe_int (fun _ _ => rfl)))
      (pss_one (ps_set (i := 4) sc_cut_by.nd rfl (.inl rfl) (pe_call G_first_end.ok (hr.mono (by first | decide | exact Nat.le_refl _)) (by rfl) G_first_end.g G_first_end.kp G_first_end.b .nil pass0 (pa_cons (pv 0) (pa_cons (pv 1) (pa_cons (pv 3) pa_nil)))))))))
      (pss_one (ps_ret (pv 2)))))), ?_⟩
    refine ⟨(by show 0 ≤ sizeLine; omega), fun D nD => ⟨_, _, rfl, ?_⟩⟩
    have s0 := same_new nD (.lst [])
    refine ⟨_, rfl, _, rfl, _, rfl, m, l, 0, rfl, hm, h64, hl, Nat.zero_le _, fun n e hfe p H1 s1 np hp => ?_, fun hfe => ?_⟩
    all_goals
      refine ⟨fun x σ H2 => ∃ (at_ : Nat) (done : List (Nat × Nat)) (us : List V) (here : V), x = l.length - at_ ∧ σ = [some (.int (m : Nat)), some (.str (tx l)), some (.ref D), some (.int (at_ : Nat)), some here] ∧ at_ ≤ l.length ∧ done.length ≤ at_ ∧ Same H H2 ∧ H2 D = some (.lst us) ∧ PrAt H2 us done ∧ cuts m l = done ++ cutsF m ((l.drop at_).length + 1) (l.drop at_) at_ ∧
        ((∃ n e p, feN m l at_ = some (n, e) ∧ here = .ref p ∧ H2 p = some (.tup [.int (n : Nat), .int (e : Nat)])) ∨ (feN m l at_ = none ∧ here = .non)), ⟨l.length, 0, [], [], _, rfl, rfl, Nat.zero_le _, Nat.le_refl _, ?_, ?_, ⟨rfl, fun i x h => by cases h⟩, rfl, ?_⟩, ?_⟩
    · exact s0.trans s1
    · exact s1 _ _ upd_same
    · exact .inl ⟨n, e, p, hfe, rfl, hp⟩
    rotate_left
    · exact s0
    · exact upd_same
    · exact .inr ⟨hfe, rfl⟩
    all_goals
      rintro x σ H2 ⟨at_, done, us, here, rfl, rfl, ha, hdl, s2, eD, hP, hc, hh⟩
      refine ⟨_, rfl, ?_⟩
      rcases hh with ⟨n, e, p, hfe, rfl, hp⟩ | ⟨hfe, rfl⟩
      · obtain ⟨h1, h2, _⟩ := rd_bound hm ha hfe
        refine ⟨_, rfl, iteND (fun z => by cases z) ?_⟩
        refine ⟨fun σ' H3 => ∃ (us : List V) (here : V), σ' = [some (.int (m : Nat)), some (.str (tx l)), some (.ref D), some (.int (e : Nat)), some here] ∧ Same H H3 ∧ H3 D = some (.lst us) ∧ PrAt H3 us (done ++ [(n, e)]) ∧
          ((∃ n' e' p, feN m l e = some (n', e') ∧ here = .ref p ∧ H3 p = some (.tup [.int (n' : Nat), .int (e' : Nat)])) ∨ (feN m l e = none ∧ here = .non)), fun σ' H3 ⟨us, here, e1, e2, e3, e4, e5⟩ => ⟨l.length - e, by omega, e, done ++ [(n, e)], us, here, rfl, e1, h2, by rw [List.length_append, List.length_singleton]; omega, e2, e3, e4, ?_, e5⟩, ?_⟩
        · rw [hc, cuts_step hm ha hfe, List.append_assoc]
          rfl
        refine ⟨_, rfl, .inl ⟨rfl, _, .inl (.inl eD)⟩, _, rfl, D, _, _, rfl, rfl, eD, by rw [hP.len]; omega, ?_⟩
        have npD : p ≠ D := fun z => by rw [z, eD] at hp; cases hp
        have hp' : (upd H2 D (.lst (us ++ [.ref p]))) p = some (.tup [.int (n : Nat), .int (e : Nat)]) := by rw [upd_ne npD]; exact hp
        have s3 : Same H (upd H2 D (.lst (us ++ [.ref p]))) := fun a o ho => by rw [upd_ne (ne_of_none ho nD)]; exact s2 _ _ ho
        have hP2 : PrAt (upd H2 D (.lst (us ++ [.ref p]))) us done := ⟨hP.len, fun i x hx => by
          obtain ⟨t, a, b⟩ := hP.at_ i x hx
          refine ⟨t, a, ?_⟩
          rw [upd_ne (fun z => by rw [z, eD] at b; cases b)]
          exact b⟩
        have hP3 := hP2.snoc hp'
        have eD3 : (upd H2 D (.lst (us ++ [.ref p]))) D = some (.lst (us ++ [.ref p])) := upd_same
        generalize upd H2 D (.lst (us ++ [.ref p])) = H3 at *
        refine ⟨_, rfl, p, _, 1, _, rfl, rfl, .inl (.inl hp'), rfl, ?_⟩
        refine ⟨_, rfl, _, rfl, _, rfl, m, l, e, rfl, hm, h64, hl, h2, fun n' e' hfe' p' H4 s4 np' hp2 => ?_, fun hfe' => ?_⟩
        · exact ⟨_, _, rfl, s3.trans s4, s4 _ _ eD3, hP3.same s4, .inl ⟨n', e', p', hfe', rfl, hp2⟩⟩
        · exact ⟨_, _, rfl, s3, eD3, hP3, .inr ⟨hfe', rfl⟩⟩
      · refine ⟨_, rfl, iteNS rfl ?_⟩
        rw [cutsF_none (fe_none hfe), List.append_nil] at hc
        exact ⟨_, rfl, k D us H2 s2 nD eD (hc ▸ hP)⟩
end

abbrev s_read_row : Stmt := topS 16
theorem sc_read_row : FnScope ["step", "text", "found", "number", "end"] ["step", "text"] (defScope s_read_row) := ⟨rfl, rfl, rfl, by decide +kernel, rfl, by decide +kernel, by decide +kernel⟩
def sp_read_row (K : PySem.W.Frag) : Sp := fun vs H Q E => ∃ (m : Nat) (l : List Bool), vs = [.int (m : Nat), .str (tx l)] ∧ 1 ≤ m ∧ m ≤ 64 ∧ l.length ≤ 4000 ∧
  (endOf (cuts m l) = l.length → ∀ (T : Addr) (H' : Hp), Same H H' → H T = none → H' T = some (.tup ((cuts m l).map fun p => V.int (p.1 : Nat))) → Q (.ref T) H') ∧
  (endOf (cuts m l) ≠ l.length → ∀ (C : Addr) (H' : Hp), ClsAt K "Unfinished" C → Same H H' → E (.ref C) none H')
theorem last_of {H : Hp} {us : List V} {r : List (Nat × Nat)} (h : PrAt H us r) (hr : r ≠ []) : ∃ t n, atI us (-1) = some (.ref t) ∧ H t = some (.tup [.int (n : Nat), .int (endOf r : Nat)]) := by
  obtain ⟨r', x, rfl⟩ : ∃ r' x, r = r' ++ [x] := ⟨r.dropLast, r.getLast hr, (List.dropLast_concat_getLast hr).symm⟩
  obtain ⟨t, a, b⟩ := h.at_ r'.length x (by rw [List.getElem?_append_right (Nat.le_refl _), Nat.sub_self]; rfl)
  have hl := h.len
  rw [List.length_append, List.length_singleton] at hl
  refine ⟨t, x.1, ?_, by rw [endOf_snoc]; exact b⟩
  unfold atI
  have e : ixN us.length (-1) = some r'.length := by
    unfold ixN
    rw [if_neg (by decide), if_pos (by omega)]
    congr 1
    omega
  rw [e]
  exact a
section
variable {P : Program} {w : World} {K : PySem.W.Frag} {mg : Str → Option Value} {base : Heap}
theorem ok_read_row (A : At K mg "read_row" s_read_row ["step", "text"]) (B : Bn mg) (H_check_step : CalE P w K mg base "check_step" ["thing"] 2 (sp_check_step K)) (H_check_text : CalE P w K mg base "check_text" ["thing"] 1 (sp_check_text K)) (H_cut_by : CalE P w K mg base "cut_by" ["step", "text"] 4 (sp_cut_by K)) (HT_Unfinished : ∃ C, ExT K mg "Unfinished" C) : CalX P w K mg base "read_row" ["step", "text"] 5 (sp_read_row K) := by
  obtain ⟨f, fd, F, gF, bF⟩ := A
  obtain ⟨f_check_step, fd_check_step, G_check_step⟩ := H_check_step
  obtain ⟨f_check_text, fd_check_text, G_check_text⟩ := H_check_text
  obtain ⟨f_cut_by, fd_cut_by, G_cut_by⟩ := H_cut_by
  obtain ⟨A_Unfinished, T_Unfinished⟩ := HT_Unfinished
  refine ⟨f, fd, F.okX sc_read_row (fun vs H Q E h => ?_) (fun cdv A outer s H vs Q E hr h => ?_), gF, F.kp, bF⟩
  · repeat (first | (obtain ⟨rfl, _⟩ := h; rfl) | (obtain ⟨_, h⟩ := h))
  · obtain ⟨m, l, rfl, hm, h64, hl, k, kR⟩ := h
    have hsz := sizeLine_eq
    have tl : (tx l).length ≤ sizeLine := by rw [tx_len]; omega
    refine ⟨_, (pss_cons (ps_expr (pe_call G_check_step.ok (hr.mono (by first | decide | exact Nat.le_refl _)) (by rfl) G_check_step.g G_check_step.kp G_check_step.b .nil pass0 (pa_cons (pv 0) pa_nil)))
      (pss_cons (ps_expr (pe_call G_check_text.ok (hr.mono (by first | decide | exact Nat.le_refl _)) (by rfl) G_check_text.g G_check_text.kp G_check_text.b .nil pass0 (pa_cons (pv 1) pa_nil)))
      (pss_cons (ps_set (i := 2) sc_read_row.nd rfl (.inl rfl) (pe_call G_cut_by.ok (hr.mono (by first | decide | exact Nat.le_refl _)) (by rfl) G_cut_by.g G_cut_by.kp G_cut_by.b .nil pass0 (pa_cons (pv 0) (pa_cons (pv 1) pa_nil))))
      (pss_cons (ps_if (pt_cmpR op_ne (pe_ifExp (pt_cmpR (op_neD_ K hr.units) (pv 2) (pe_lst pa_nil) (nomark _)) (pe_ix (ix_tup_ K) (pe_ix (ix_list_ K) (pv 2) (pe_un un_neg pe_int) (fun _ _ => rfl)) pe_int (fun _ _ => rfl)) pe_int) (pe_callB call_len_str_ (by rfl) B.len_ (by decide +kernel) (pa_cons (pv 1) pa_nil)) (nomark _))
      (pss_one (ps_raise0 (takes_of rfl rfl rfl rfl) T_Unfinished (by rfl)))
      pss_nil)
      (pss_one (ps_ret (pe_callTy (call_tuple_of_ K) (by rfl) B.tuple_ (by decide +kernel) (pa_cons (pe_lc (own := [("number", 3), ("end", 4)]) (g := (gTup K 2 (gCons (gName 3) (gCons (gName 4) gNil)))) (tt := tYes) rfl sc_read_row.nd (pi_list (pv 2)) (blkOk_by (own := [("number", 3), ("end", 4)]) (N := ["step", "text", "found", "number", "end"]) (sc := defScope s_read_row) (by decide +kernel)) (fun _ _ _ _ _ => (pg_tup (by rfl) (pgs_cons (pg_name (i := 3) sc_read_row.nd rfl (.inl rfl)) (pgs_cons (pg_name (i := 4) sc_read_row.nd rfl (.inl rfl)) pgs_nil)))) (fun _ _ _ _ _ => pts_nil) (fun _ _ _ _ _ => (pv 3))) pa_nil)))))))), ?_⟩
    refine ⟨_, rfl, m, rfl, hm, h64, ?_⟩
    refine ⟨_, rfl, l, rfl, hl, fun H1 s1 => ?_⟩
    refine ⟨_, rfl, _, rfl, m, l, rfl, hm, h64, by omega, fun D us H2 s2 nD eD hP => ?_⟩
    -- the list of the numbers
    have rest : endOf (cuts m l) = l.length → ∀ H3, Same H2 H3 → (tRet (tCB (rTupOf K) (tCons (tLc (iList K (tVar 2)) (gTup K 2 (gCons (gName 3) (gCons (gName 4) gNil))) tYes (tVar 3) [3, 4]) tNil))) { nx := fun _ H' => Q .non H', rt := Q } [some (.int (m : Nat)), some (.str (tx l)), some (.ref D), none, none] H3 := by
      intro hend H3 s3
      have eD3 := s3 _ _ eD
      have hP3 := hP.same s3
      refine ⟨_, rfl, D, rfl, ⟨_, .inl (.inl eD3)⟩, fun L nL => ?_⟩
      refine lc_list (K := K) (a := D) (xs := us) (fun i H4 => Same H3 H4 ∧ H4 L = some (.lst (((cuts m l).take i).map fun p => V.int (p.1 : Nat)))) ⟨same_new nL _, by rw [upd_same]; rfl⟩ (fun i H4 _ h4 => .inl (.inl (h4.1 _ _ eD3))) ?_ ?_
      · rintro i x H4 hx ⟨s4, eL⟩
        have hi : i < us.length := (List.getElem?_eq_some_iff.mp hx).1
        have hi2 : i < (cuts m l).length := hP3.len ▸ hi
        have hy : (cuts m l)[i]? = some (cuts m l)[i] := List.getElem?_eq_getElem hi2
        obtain ⟨t, a, b⟩ := hP3.at_ i _ hy
        rw [hx] at a
        cases Option.some.inj a
        refine ⟨t, _, rfl, .inl (.inl (s4 _ _ b)), rfl, _, _, rfl, _, _, rfl, rfl, rfl, ?_⟩
        refine ⟨_, rfl, _, eL, ?_, ?_, ?_⟩
        · have hb := hP3.len
          rw [List.length_map, List.length_take]
          have := cuts_len hm l
          omega
        · intro a o ho
          rw [upd_ne (ne_of_none ho nL)]
          exact s4 a o ho
        · rw [upd_same, take_more hy, List.map_append]
          rfl
      · rintro H4 ⟨s4, eL⟩
        rw [hP3.len, List.take_length] at eL
        refine ⟨L, _, rfl, .inl ⟨.inl (.inl eL), fun T nT => ?_⟩⟩
        have s5 := same_new nT (.tup ((cuts m l).map fun p => V.int (p.1 : Nat)))
        have S := s1.trans (s2.trans (s3.trans (s4.trans s5)))
        exact k hend T _ S ((s1.trans (s2.trans (s3.trans s4))).free nT) upd_same
    refine ⟨_, rfl, (by show 0 ≤ sizeLine; omega), fun E0 nE => ?_⟩
    have s4 := same_new nE (.lst [])
    refine ⟨_, _, .lst (.inl (.inl (s4 _ _ eD))) (PrAt.dpAll (hP.same s4)), .lst (.inl (.inl upd_same)) .nil, ok_shaped (prD_ok _) (by decide), by decide +kernel, _, rfl, ?_⟩
    rw [eqv_nil]
    have S4 := s1.trans (s2.trans s4)
    by_cases hc : cuts m l = []
    · have e : (prD (cuts m l)).isEmpty = true := by rw [hc]; rfl
      rw [e]
      refine iteF ?_
      refine ⟨_, rfl, _, rfl, tl, rfl, _, rfl, ?_⟩
      by_cases hz : l.length = 0
      · refine iteNS ?_ (rest (by rw [hc, hz]; rfl) _ s4)
        rw [tx_len, hz]
        rfl
      · refine iteND ?_ (kR (by rw [hc]; exact fun z => hz z.symm) _ _ T_Unfinished.n S4)
        rw [tx_len]
        intro z
        exact hz (by have := V.int.inj z; omega)
    · have e : (prD (cuts m l)).isEmpty = false := by
        cases h : cuts m l with
        | nil => exact absurd h hc
        | cons => rfl
      rw [e]
      refine iteT ?_
      obtain ⟨t, n, h1, h2⟩ := last_of (hP.same s4) hc
      refine ⟨_, rfl, _, rfl, D, _, _, _, rfl, rfl, .inl (.inl (s4 _ _ eD)), h1, t, _, 1, _, rfl, rfl, .inl (.inl h2), rfl, ?_⟩
      refine ⟨_, rfl, _, rfl, tl, rfl, _, rfl, ?_⟩
      by_cases hz : endOf (cuts m l) = l.length
      · refine iteNS ?_ (rest hz _ s4)
        rw [tx_len, hz]
      · refine iteND ?_ (kR hz _ _ T_Unfinished.n S4)
        rw [tx_len]
        intro z
        exact hz (by have := V.int.inj z; omega)
end

abbrev s__law_answer : Stmt := topS 28
theorem sc__law_answer : FnScope ["_law_step_here", "_law_text", "_law_found", "error"] ["_law_step_here", "_law_text"] (defScope s__law_answer) := ⟨rfl, rfl, rfl, by decide +kernel, rfl, by decide +kernel, by decide +kernel⟩
def sp__law_answer (K : PySem.W.Frag) : Sp := fun vs H Q _ => ∃ (m : Nat) (l : List Bool), vs = [.int (m : Nat), .str (tx l)] ∧ 1 ≤ m ∧ m ≤ 64 ∧ l.length ≤ 4000 ∧
  (endOf (cuts m l) = l.length → ∀ (T : Addr) (H' : Hp), Same H H' → H' T = some (.tup ((cuts m l).map fun p => V.int (p.1 : Nat))) → Q (.ref T) H') ∧
  (endOf (cuts m l) ≠ l.length → ∀ H', Same H H' → Q .non H')
section
variable {P : Program} {w : World} {K : PySem.W.Frag} {mg : Str → Option Value} {base : Heap}
theorem ok__law_answer (A : At K mg "_law_answer" s__law_answer ["_law_step_here", "_law_text"]) (B : Bn mg) (H_read_row : CalX P w K mg base "read_row" ["step", "text"] 5 (sp_read_row K)) (HT_Unfinished : ∃ C, ExT K mg "Unfinished" C) (HT_StepError : ∃ C, ExT K mg "StepError" C) (HE_Unfinished : ∀ C, ClsAt K "Unfinished" C → ExcC K C) (HK_Unfinished_StepError : ∀ C D, ClsAt K "Unfinished" C → ClsAt K "StepError" D → PySem.W.kitOne K (.ref C) (.ref D) = some true) : CalE P w K mg base "_law_answer" ["_law_step_here", "_law_text"] 6 (sp__law_answer K) := by
  obtain ⟨f, fd, F, gF, bF⟩ := A
  obtain ⟨f_read_row, fd_read_row, G_read_row⟩ := H_read_row
  obtain ⟨A_Unfinished, T_Unfinished⟩ := HT_Unfinished
  obtain ⟨A_StepError, T_StepError⟩ := HT_StepError
  have E_Unfinished := HE_Unfinished _ T_Unfinished.n
  have KT_Unfinished_StepError := HK_Unfinished_StepError _ _ T_Unfinished.n T_StepError.n
  refine ⟨f, fd, F.ok sc__law_answer (fun vs H Q E h => ?_) (fun cdv A outer s H vs Q E hr h => ?_), gF, F.kp, bF⟩
  · repeat (first | (obtain ⟨rfl, _⟩ := h; rfl) | (obtain ⟨_, h⟩ := h))
  · obtain ⟨m, l, rfl, hm, h64, hl, k, kN⟩ := h
    refine ⟨_, (pss_cons (ps_set (i := 2) sc__law_answer.nd rfl (.inl rfl) pe_non)
      (pss_cons (ps_try_as (i := 3) (Wout := fun _ _ _ _ => False) rfl rfl sc__law_answer.nd rfl rfl ⟨rfl, by decide, .inl T_Unfinished.g⟩ takes0 (fun W pn xe tk po => (pss_one (ps_set (i := 2) sc__law_answer.nd rfl (.inl rfl) (pe_callS G_read_row.ok (hr.mono (by first | decide | exact Nat.le_refl _)) (by rfl) G_read_row.g G_read_row.kp G_read_row.b (fun σ => passAt tk σ) (pa_cons (pv 0) (pa_cons (pv 1) pa_nil)))))) (fun a_ oe cls d pn hz hf => (pss_one (ps_set (i := 2) sc__law_answer.nd rfl (.inl rfl) (pe_ifExp (pt_val (pe_callB (call_isX E_Unfinished hz hf) (by rfl) B.isinstance_ (by decide +kernel) (pa_cons (pv 3) (pa_cons (pe_glob (v := .ref A_StepError) (by rfl) T_StepError.g rfl) pa_nil)))) pe_non (pe_tup pa_nil))))))
      (pss_one (ps_ret (pv 2))))), ?_⟩
    refine ⟨_, rfl, _, rfl, m, l, rfl, hm, h64, hl, fun hz T H1 s1 n1 e1 => ?_, fun hz C H1 hC s1 => ?_⟩
    · exact ⟨_, rfl, k hz T H1 s1 e1⟩
    · cases ClsAt.one T_Unfinished.n hC
      refine ⟨true, T_Unfinished.te, fun _ a0 na => ?_, fun q => nomatch q⟩
      refine ⟨_, rfl, rfl, rfl, _, _, true, rfl, fun u hu => hu, KT_Unfinished_StepError, _, rfl, iteT ?_⟩
      exact ⟨_, rfl, kN hz H1 s1⟩
end

abbrev s__law_double : Stmt := topS 23
theorem sc__law_double : FnScope ["_law_times", "_law_found", "_law_again"] ["_law_times"] (defScope s__law_double) := ⟨rfl, rfl, rfl, by decide +kernel, rfl, by decide +kernel, by decide +kernel⟩
def sp__law_double (K : PySem.W.Frag) : Sp := fun vs H Q _ => ∃ t : Nat, vs = [.int (t : Nat)] ∧ t ≤ 1000 ∧ Q (.int ((2 ^ t : Nat) : Int)) H
section
variable {P : Program} {w : World} {K : PySem.W.Frag} {mg : Str → Option Value} {base : Heap}
theorem ok__law_double (A : At K mg "_law_double" s__law_double ["_law_times"]) (B : Bn mg) : CalE P w K mg base "_law_double" ["_law_times"] 1 (sp__law_double K) := by
  obtain ⟨f, fd, F, gF, bF⟩ := A
  refine ⟨f, fd, F.ok sc__law_double (fun vs H Q E h => ?_) (fun cdv A outer s H vs Q E hr h => ?_), gF, F.kp, bF⟩
  · repeat (first | (obtain ⟨rfl, _⟩ := h; rfl) | (obtain ⟨_, h⟩ := h))
  · obtain ⟨t, rfl, ht, k⟩ := h
    refine ⟨_, (pss_cons (ps_set (i := 1) sc__law_double.nd rfl (.inl rfl) pe_int)
      (pss_cons (ps_for PassesOwn.never rfl (pi_range1 (by rfl) B.range_ (pa_cons (pv 0) pa_nil)) (pg_name (i := 2) sc__law_double.nd rfl (.inl rfl))
      (pss_one (ps_set (i := 1) sc__law_double.nd rfl (.inl rfl) (pe_op op_mul (pv 1) pe_int))))
      (pss_one (ps_ret (pv 1))))), ?_⟩
    refine ⟨_, rfl, _, rfl, by omega, by omega, for_range (lo := 0) (n := t) (fun i σ H2 => ∃ v, σ = [some (.int (t : Nat)), some (.int ((2 ^ i : Nat) : Int)), v] ∧ H2 = H) ⟨_, rfl, rfl⟩ ?_ ?_⟩
    · rintro i σ H2 hi ⟨v, rfl, rfl⟩
      refine ⟨_, rfl, _, _, rfl, rfl, .inr (by omega), ?_⟩
      have e : ((2 ^ i : Nat) : Int) * 2 = ((2 ^ (i + 1) : Nat) : Int) := by
        rw [Nat.pow_succ, Int.natCast_mul]
        rfl
      refine ⟨some (.int (0 + (i : Nat))), ?_, rfl⟩
      show [_, some (V.int (((2 ^ i : Nat) : Int) * 2)), _] = _
      rw [e]
    · rintro σ H2 ⟨v, rfl, rfl⟩
      exact ⟨_, rfl, k⟩
end

abbrev s__law_word : Stmt := topS 24
theorem sc__law_word : FnScope ["_law_step_here", "_law_number", "_law_many", "_law_rest", "_law_found", "_law_short", "_law_spot"] ["_law_step_here", "_law_number"] (defScope s__law_word) := ⟨rfl, rfl, rfl, by decide +kernel, rfl, by decide +kernel, by decide +kernel⟩
def sp__law_word (K : PySem.W.Frag) : Sp := fun vs H Q _ => ∃ m n : Nat, vs = [.int (m : Nat), .int (n : Nat)] ∧ 1 ≤ m ∧ m ≤ 64 ∧ n / m ≤ 5000 ∧ Q (.str (tx (wordB m n))) H
section
variable {P : Program} {w : World} {K : PySem.W.Frag} {mg : Str → Option Value} {base : Heap}
theorem ok__law_word (A : At K mg "_law_word" s__law_word ["_law_step_here", "_law_number"]) (B : Bn mg) (H__law_double : CalE P w K mg base "_law_double" ["_law_times"] 1 (sp__law_double K)) : CalE P w K mg base "_law_word" ["_law_step_here", "_law_number"] 2 (sp__law_word K) := by
  obtain ⟨f, fd, F, gF, bF⟩ := A
  obtain ⟨f__law_double, fd__law_double, G__law_double⟩ := H__law_double
  refine ⟨f, fd, F.ok sc__law_word (fun vs H Q E h => ?_) (fun cdv A outer s H vs Q E hr h => ?_), gF, F.kp, bF⟩
  · repeat (first | (obtain ⟨rfl, _⟩ := h; rfl) | (obtain ⟨_, h⟩ := h))
  · obtain ⟨m, n, rfl, hm, h64, hn, k⟩ := h
    have h6 := wide_64 h64
    have hm0 : (0 : Int) < (m : Int) := by omega
    have hmb : ((m : Int)).natAbs < 2 ^ 7 := by omega
    have ed : (n : Int) / (m : Int) = ((n / m : Nat) : Int) := (Int.natCast_ediv n m).symm
    have em : (n : Int) % (m : Int) = ((n % m : Nat) : Int) := (Int.natCast_emod n m).symm
    have e1 : repS ("1" : Str) ((n : Int) / (m : Int)).toNat ++ ("0" : Str) = tx (List.replicate (n / m) true ++ [false]) := by rw [ed, Int.toNat_natCast, tx_one, tx_zero, tx_rep, tx_app]
    have l1 : ("1" : Str).length = 1 := by decide +kernel
    have ht : ((n : Int) / (m : Int)).toNat = n / m := by rw [ed, Int.toNat_natCast]
    refine ⟨_, (pss_cons (ps_par (i := 2) (j := 3) (by rfl) sc__law_word.nd rfl rfl (by decide) rfl rfl (pa_cons pe_int (pa_cons (pe_op op_mod (pe_callTy call_int1 (by rfl) B.int_ (by decide +kernel) (pa_cons (pv 1) pa_nil)) (pv 0)) pa_nil)) (by rfl))
      (pss_cons (ps_set (i := 4) sc__law_word.nd rfl (.inl rfl) (pe_op op_add_str (pe_op op_mul_str pe_str (pe_op op_fdivW (pv 1) (pv 0))) pe_str))
      (pss_cons (ps_while PassesOwn.never (pt_cmpR op_lt (pe_call G__law_double.ok (hr.mono (by first | decide | exact Nat.le_refl _)) (by rfl) G__law_double.g G__law_double.kp G__law_double.b .nil pass0 (pa_cons (pv 2) pa_nil)) (pv 0) (nomark _))
      (pss_one (ps_set (i := 2) sc__law_word.nd rfl (.inl rfl) (pe_op op_add (pv 2) pe_int))))
      (pss_cons (ps_set (i := 5) sc__law_word.nd rfl (.inl rfl) (pe_op op_sub (pe_call G__law_double.ok (hr.mono (by first | decide | exact Nat.le_refl _)) (by rfl) G__law_double.g G__law_double.kp G__law_double.b .nil pass0 (pa_cons (pv 2) pa_nil)) (pv 0)))
      (pss_cons (ps_if (pt_cmpR op_ge (pv 3) (pv 5) (nomark _))
      (pss_one (ps_set (i := 3) sc__law_word.nd rfl (.inl rfl) (pe_op op_add (pv 3) (pv 5))))
      (pss_one (ps_set (i := 2) sc__law_word.nd rfl (.inl rfl) (pe_op op_sub (pv 2) pe_int))))
      (pss_cons (ps_for PassesOwn.never rfl (pi_range1 (by rfl) B.range_ (pa_cons (pv 2) pa_nil)) (pg_name (i := 6) sc__law_word.nd rfl (.inl rfl))
      (pss_one (ps_set (i := 4) sc__law_word.nd rfl (.inl rfl) (pe_op op_add_str (pv 4) (pe_ifExp (pt_cmpR op_eq (pe_op op_mod (pe_callTy call_int1 (by rfl) B.int_ (by decide +kernel) (pa_cons (pe_op op_fdivW (pv 3) (pe_call G__law_double.ok (hr.mono (by first | decide | exact Nat.le_refl _)) (by rfl) G__law_double.g G__law_double.kp G__law_double.b .nil pass0 (pa_cons (pe_op op_sub (pe_op op_sub (pv 2) pe_int) (pv 6)) pa_nil))) pa_nil)) pe_int) pe_int (nomark _)) pe_str pe_str)))))
      (pss_one (ps_ret (pv 4))))))))), ?_⟩
    -- many, rest = 0, int(number) % step
    refine ⟨_, rfl, .inl ⟨_, rfl, _, rfl, _, _, rfl, rfl, hm0, _, _, rfl, ?_⟩⟩
    -- found = "1" * (number // step) + "0"
    refine ⟨_, rfl, _, rfl, _, _, rfl, rfl, wide_div hm0 hmb (by decide) (by decide), _, _, rfl, rfl, by omega, by omega, by rw [l1, ht]; omega, _, _, rfl, rfl, ?_, ?_⟩
    · rw [ed, Int.toNat_natCast, tx_one, tx_rep, tx_zero, tx_len, tx_len, List.length_replicate]
      have := sizeLine_eq
      show n / m + 1 ≤ sizeLine
      omega
    rw [e1]
    -- while double(many) < step
    refine ⟨fun x σ H2 => ∃ c : Nat, x = 6 - c ∧ σ = [some (.int (m : Nat)), some (.int (n : Nat)), some (.int (c : Nat)), some (.int ((n % m : Nat) : Int)), some (.str (tx (List.replicate (n / m) true ++ [false]))), none, none] ∧ (∀ d, d < c → 2 ^ d < m) ∧ c ≤ 6 ∧ H2 = H, ⟨6, 0, rfl, ?_, fun d h => by omega, by decide, rfl⟩, ?_⟩
    · show [_, _, _, some (V.int ((n : Int) % (m : Int))), _, _, _] = _
      rw [em]
      rfl
    rintro x σ H2 ⟨c, rfl, rfl, hc, c6, rfl⟩
    refine ⟨_, rfl, c, rfl, by omega, _, rfl, _, _, rfl, rfl, _, rfl, ite2 (fun z => ?_) (fun z => ?_)⟩
    · have z' : 2 ^ c < m := Int.ofNat_lt.mp (of_decide_eq_true z)
      have c5 : c < 6 := by
        refine Nat.not_le.mp fun y => ?_
        have : c = 6 := by omega
        subst this
        omega
      refine ⟨fun σ' H' => ∃ c' : Nat, c' = c + 1 ∧ σ' = [some (.int (m : Nat)), some (.int (n : Nat)), some (.int (c' : Nat)), some (.int ((n % m : Nat) : Int)), some (.str (tx (List.replicate (n / m) true ++ [false]))), none, none] ∧ H' = H2, fun σ' H' ⟨c', e0, e1, e2⟩ => ⟨6 - c', by omega, c', rfl, e1, fun d hd => ?_, by omega, e2⟩, ?_⟩
      · by_cases hd' : d = c
        · exact hd' ▸ z'
        · exact hc d (by omega)
      exact ⟨_, rfl, _, _, rfl, rfl, c + 1, rfl, rfl, rfl⟩
    · have z' : m ≤ 2 ^ c := Nat.not_lt.mp fun y => z (decide_eq_true (Int.ofNat_lt.mpr y))
      have ew := wide_eq z' hc
      have hs : ((2 ^ c : Nat) : Int) - (m : Int) = ((shortN m : Nat) : Int) := by
        unfold shortN
        rw [ew]
        omega
      -- short = double(many) - step
      refine ⟨_, rfl, c, rfl, by omega, _, rfl, _, _, rfl, rfl, ?_⟩
      -- if rest >= short
      refine ⟨_, rfl, _, rfl, _, _, rfl, rfl, _, rfl, ite2 (fun y => ?_) (fun y => ?_)⟩
      · have y' : ¬ n % m < shortN m := by
          have := of_decide_eq_true y
          rw [hs] at this
          omega
        refine ⟨_, rfl, _, rfl, _, _, rfl, rfl, ?_⟩

        -- the figures
        refine ⟨_, rfl, _, rfl, by omega, by omega, ?_⟩
        rw [show ((c : Int)).toNat = wideN m by omega]
        refine for_range (lo := 0) (n := (wideN m)) (fun i σ H3 => ∃ v, σ = [some (.int (m : Nat)), some (.int (n : Nat)), some (.int ((wideN m) : Nat)), some (.int ((n % m + shortN m) : Nat)), some (.str (tx (List.replicate (n / m) true ++ [false] ++ (fig (n % m + shortN m) (wideN m)).take i))), some (.int (shortN m : Nat)), v] ∧ H3 = H2) ⟨none, ?_, rfl⟩ ?_ ?_
        · show [some (V.int (m : Int)), some (V.int (n : Int)), some (V.int (c : Int)), some (V.int (((n % m : Nat) : Int) + (((2 ^ c : Nat) : Int) - (m : Int)))), some (V.str (tx (List.replicate (n / m) true ++ [false]))), some (V.int (((2 ^ c : Nat) : Int) - (m : Int))), none] = _
          rw [hs, ew, ← Int.natCast_add, List.take_zero, List.append_nil]
        · rintro i σ H3 hi ⟨v, rfl, rfl⟩
          refine ⟨_, rfl, _, rfl, _, rfl, _, _, rfl, rfl, _, rfl, _, _, rfl, rfl, (wideN m) - 1 - i, ?_, by omega, ?_⟩
          · show [V.int ((((wideN m) : Nat) : Int) - 1 - (0 + (i : Int)))] = _
            rw [show ((((wideN m) : Nat) : Int) - 1 - (0 + (i : Int))) = (((wideN m) - 1 - i : Nat) : Int) by omega]
          have hp : (0 : Int) < ((2 ^ ((wideN m) - 1 - i) : Nat) : Int) := Int.ofNat_lt.mpr (Nat.pow_pos (by decide))
          have hb : (((2 ^ ((wideN m) - 1 - i) : Nat) : Int)).natAbs < 2 ^ 7 := by
            rw [Int.natAbs_natCast]
            exact Nat.pow_lt_pow_right (by decide) (by omega)
          refine ⟨_, _, rfl, rfl, wide_div hp hb (by decide) (by decide), .inl ⟨_, rfl, _, _, rfl, rfl, (by decide : (0 : Int) < 2), rfl, _, rfl, ?_⟩⟩
          have ft := fig_take (n % m + shortN m) (wideN m) i hi
          have ll : (List.replicate (n / m) true ++ [false] ++ (fig (n % m + shortN m) (wideN m)).take i).length ≤ n / m + 1 + (wideN m) := by
            simp
            omega
          have go : ∀ b : Bool, b = ((n % m + shortN m) / 2 ^ ((wideN m) - 1 - i) % 2 == 1) → tx (List.replicate (n / m) true ++ [false] ++ (fig (n % m + shortN m) (wideN m)).take i) ++ tx [b] = tx (List.replicate (n / m) true ++ [false] ++ (fig (n % m + shortN m) (wideN m)).take (i + 1)) := by
            rintro b rfl
            rw [tx_app, ft, List.append_assoc, List.append_assoc]
          have bi := bit_int (n % m + shortN m) ((wideN m) - 1 - i)
          refine ite2 (fun z => ?_) (fun z => ?_)
          · have z' := bi.mp (V.int.inj (of_decide_eq_true z))
            have e := go true z'.symm
            refine ⟨_, _, rfl, rfl, ?_, ?_⟩
            · rw [tx_one, tx_len, tx_len]
              show _ + 1 ≤ sizeLine
              have := sizeLine_eq
              omega
            · refine ⟨some (.int (0 + (i : Int))), ?_, rfl⟩
              show [_, _, _, _, some (V.str (tx (List.replicate (n / m) true ++ [false] ++ (fig (n % m + shortN m) (wideN m)).take i) ++ ("1" : Str))), _, _] = _
              rw [tx_one, e]
          · have z' : ((n % m + shortN m) / 2 ^ ((wideN m) - 1 - i) % 2 == 1) = false := Bool.eq_false_iff.mpr fun y => z (decide_eq_true (congrArg V.int (bi.mpr y)))
            have e := go false z'.symm
            refine ⟨_, _, rfl, rfl, ?_, ?_⟩
            · rw [tx_zero, tx_len, tx_len]
              show _ + 1 ≤ sizeLine
              have := sizeLine_eq
              omega
            · refine ⟨some (.int (0 + (i : Int))), ?_, rfl⟩
              show [_, _, _, _, some (V.str (tx (List.replicate (n / m) true ++ [false] ++ (fig (n % m + shortN m) (wideN m)).take i) ++ ("0" : Str))), _, _] = _
              rw [tx_zero, e]
        · rintro σ H3 ⟨v, rfl, rfl⟩
          refine ⟨_, rfl, ?_⟩
          rw [List.take_of_length_le (by rw [fig_len]; exact Nat.le_refl _), List.append_assoc]
          have ew : wordB m n = List.replicate (n / m) true ++ ([false] ++ fig (n % m + shortN m) (wideN m)) := by
            unfold wordB
            rw [show restB m (n % m) = fig (n % m + shortN m) (wideN m) from if_neg y']
            rfl
          rw [← ew]
          exact k
      · have y' : n % m < shortN m := by
          refine Nat.not_le.mp fun z2 => y (decide_eq_true ?_)
          show ((2 ^ c : Nat) : Int) - (m : Int) ≤ ((n % m : Nat) : Int)
          rw [hs]
          omega
        have c1 : 1 ≤ c := by
          refine Nat.not_lt.mp fun z2 => ?_
          have c0 : c = 0 := by omega
          have := short_zero (ew.trans c0) hm
          subst this
          rw [Nat.mod_one] at y'
          unfold shortN at y'
          rw [ew, c0] at y'
          omega
        refine ⟨_, rfl, _, _, rfl, rfl, ?_⟩

        -- the figures
        refine ⟨_, rfl, _, rfl, by omega, by omega, ?_⟩
        rw [show ((c : Int) - 1).toNat = wideN m - 1 by omega]
        refine for_range (lo := 0) (n := (wideN m - 1)) (fun i σ H3 => ∃ v, σ = [some (.int (m : Nat)), some (.int (n : Nat)), some (.int ((wideN m - 1) : Nat)), some (.int ((n % m) : Nat)), some (.str (tx (List.replicate (n / m) true ++ [false] ++ (fig (n % m) (wideN m - 1)).take i))), some (.int (shortN m : Nat)), v] ∧ H3 = H2) ⟨none, ?_, rfl⟩ ?_ ?_
        · show [some (V.int (m : Int)), some (V.int (n : Int)), some (V.int ((c : Int) - 1)), some (V.int ((n % m : Nat) : Int)), some (V.str (tx (List.replicate (n / m) true ++ [false]))), some (V.int (((2 ^ c : Nat) : Int) - (m : Int))), none] = _
          rw [hs, ew, show ((c : Int) - 1) = ((c - 1 : Nat) : Int) by omega, List.take_zero, List.append_nil]
        · rintro i σ H3 hi ⟨v, rfl, rfl⟩
          refine ⟨_, rfl, _, rfl, _, rfl, _, _, rfl, rfl, _, rfl, _, _, rfl, rfl, (wideN m - 1) - 1 - i, ?_, by omega, ?_⟩
          · show [V.int ((((wideN m - 1) : Nat) : Int) - 1 - (0 + (i : Int)))] = _
            rw [show ((((wideN m - 1) : Nat) : Int) - 1 - (0 + (i : Int))) = (((wideN m - 1) - 1 - i : Nat) : Int) by omega]
          have hp : (0 : Int) < ((2 ^ ((wideN m - 1) - 1 - i) : Nat) : Int) := Int.ofNat_lt.mpr (Nat.pow_pos (by decide))
          have hb : (((2 ^ ((wideN m - 1) - 1 - i) : Nat) : Int)).natAbs < 2 ^ 7 := by
            rw [Int.natAbs_natCast]
            exact Nat.pow_lt_pow_right (by decide) (by omega)
          refine ⟨_, _, rfl, rfl, wide_div hp hb (by decide) (by decide), .inl ⟨_, rfl, _, _, rfl, rfl, (by decide : (0 : Int) < 2), rfl, _, rfl, ?_⟩⟩
          have ft := fig_take (n % m) (wideN m - 1) i hi
          have ll : (List.replicate (n / m) true ++ [false] ++ (fig (n % m) (wideN m - 1)).take i).length ≤ n / m + 1 + (wideN m - 1) := by
            simp
            omega
          have go : ∀ b : Bool, b = ((n % m) / 2 ^ ((wideN m - 1) - 1 - i) % 2 == 1) → tx (List.replicate (n / m) true ++ [false] ++ (fig (n % m) (wideN m - 1)).take i) ++ tx [b] = tx (List.replicate (n / m) true ++ [false] ++ (fig (n % m) (wideN m - 1)).take (i + 1)) := by
            rintro b rfl
            rw [tx_app, ft, List.append_assoc, List.append_assoc]
          have bi := bit_int (n % m) ((wideN m - 1) - 1 - i)
          refine ite2 (fun z => ?_) (fun z => ?_)
          · have z' := bi.mp (V.int.inj (of_decide_eq_true z))
            have e := go true z'.symm
            refine ⟨_, _, rfl, rfl, ?_, ?_⟩
            · rw [tx_one, tx_len, tx_len]
              show _ + 1 ≤ sizeLine
              have := sizeLine_eq
              omega
            · refine ⟨some (.int (0 + (i : Int))), ?_, rfl⟩
              show [_, _, _, _, some (V.str (tx (List.replicate (n / m) true ++ [false] ++ (fig (n % m) (wideN m - 1)).take i) ++ ("1" : Str))), _, _] = _
              rw [tx_one, e]
          · have z' : ((n % m) / 2 ^ ((wideN m - 1) - 1 - i) % 2 == 1) = false := Bool.eq_false_iff.mpr fun y => z (decide_eq_true (congrArg V.int (bi.mpr y)))
            have e := go false z'.symm
            refine ⟨_, _, rfl, rfl, ?_, ?_⟩
            · rw [tx_zero, tx_len, tx_len]
              show _ + 1 ≤ sizeLine
              have := sizeLine_eq
              omega
            · refine ⟨some (.int (0 + (i : Int))), ?_, rfl⟩
              show [_, _, _, _, some (V.str (tx (List.replicate (n / m) true ++ [false] ++ (fig (n % m) (wideN m - 1)).take i) ++ ("0" : Str))), _, _] = _
              rw [tx_zero, e]
        · rintro σ H3 ⟨v, rfl, rfl⟩
          refine ⟨_, rfl, ?_⟩
          rw [List.take_of_length_le (by rw [fig_len]; exact Nat.le_refl _), List.append_assoc]
          have ew : wordB m n = List.replicate (n / m) true ++ ([false] ++ fig (n % m) (wideN m - 1)) := by
            unfold wordB
            rw [show restB m (n % m) = fig (n % m) (wideN m - 1) from if_pos y']
            rfl
          rw [← ew]
          exact k
end

abbrev s__law_ends : Stmt := topS 27
theorem sc__law_ends : FnScope ["_law_step_here", "_law_text", "_law_found", "_law_at", "_law_known", "_law_rest", "_law_ones", "_law_begin", "_law_number", "_law_many", "_law_part"] ["_law_step_here", "_law_text"] (defScope s__law_ends) := ⟨rfl, rfl, rfl, by decide +kernel, rfl, by decide +kernel, by decide +kernel⟩
def sp__law_ends (K : PySem.W.Frag) : Sp := fun vs H Q _ => ∃ (m : Nat) (l : List Bool), vs = [.int (m : Nat), .str (tx l)] ∧ 1 ≤ m ∧ m ≤ 64 ∧ l.length ≤ 100000 ∧
  ∀ (D : Addr) (us : List V) (H' : Hp), Same H H' → H D = none → H' D = some (.lst us) → PrAt H' us (cuts m l) → Q (.ref D) H'
section
variable {P : Program} {w : World} {K : PySem.W.Frag} {mg : Str → Option Value} {base : Heap}
theorem ok__law_ends (A : At K mg "_law_ends" s__law_ends ["_law_step_here", "_law_text"]) (B : Bn mg) (H__law_word : CalE P w K mg base "_law_word" ["_law_step_here", "_law_number"] 2 (sp__law_word K)) : CalE P w K mg base "_law_ends" ["_law_step_here", "_law_text"] 3 (sp__law_ends K) := by
  obtain ⟨f, fd, F, gF, bF⟩ := A
  obtain ⟨f__law_word, fd__law_word, G__law_word⟩ := H__law_word
  refine ⟨f, fd, F.ok sc__law_ends (fun vs H Q E h => ?_) (fun cdv A outer s H vs Q E hr h => ?_), gF, F.kp, bF⟩
  · repeat (first | (obtain ⟨rfl, _⟩ := h; rfl) | (obtain ⟨_, h⟩ := h))
  · obtain ⟨m, l, rfl, hm, h64, hl, k⟩ := h
    have hsz := sizeLine_eq
    have h6 := wide_64 h64
    have tl : (tx l).length ≤ sizeLine := by rw [tx_len]; omega
    refine ⟨_, (pss_cons (ps_par3 (i := 2) (j := 3) (l := 4) (by rfl) sc__law_ends.nd rfl rfl rfl (by decide) (by decide) (by decide) rfl rfl rfl (pa_cons (pe_lst pa_nil) (pa_cons pe_int (pa_cons pe_dnewK pa_nil))) (by rfl))
      (pss_cons (ps_for PassesOwn.never rfl (pi_range1 (by rfl) B.range_ (pa_cons (pv 0) pa_nil)) (pg_name (i := 5) sc__law_ends.nd rfl (.inl rfl))
      (pss_one (ps_asg (pv 5) (pg_sub (pv 4) (pe_slice sl_str (pe_call G__law_word.ok (hr.mono (by first | decide | exact Nat.le_refl _)) (by rfl) G__law_word.g G__law_word.kp G__law_word.b .nil pass0 (pa_cons (pv 0) (pa_cons (pv 5) pa_nil))) (po_some pe_int) po_none) (set_dict (hu_of hr))))))
      (pss_cons (ps_while PassesOwn.never (pt_cmpR op_lt (pv 3) (pe_callB call_len_str_ (by rfl) B.len_ (by decide +kernel) (pa_cons (pv 1) pa_nil)) (nomark _))
      (pss_cons (ps_set (i := 6) sc__law_ends.nd rfl (.inl rfl) pe_int)
      (pss_cons (ps_while PassesOwn.never (pt_cmpR op_eq (pe_slice sl_str (pv 1) (po_some (pe_op op_add (pv 3) (pv 6))) (po_some (pe_op op_add (pe_op op_add (pv 3) (pv 6)) pe_int))) pe_str (nomark _))
      (pss_one (ps_set (i := 6) sc__law_ends.nd rfl (.inl rfl) (pe_op op_add (pv 6) pe_int))))
      (pss_cons (ps_par (i := 7) (j := 8) (by rfl) sc__law_ends.nd rfl rfl (by decide) rfl rfl (pa_cons (pe_op op_add (pe_op op_add (pv 3) (pv 6)) pe_int) (pa_cons pe_non pa_nil)) (by rfl))
      (pss_cons (ps_for PassesOwn.never rfl (pi_range1 (by rfl) B.range_ (pa_cons pe_int pa_nil)) (pg_name (i := 9) sc__law_ends.nd rfl (.inl rfl))
      (pss_cons (ps_set (i := 10) sc__law_ends.nd rfl (.inl rfl) (pe_slice sl_str (pv 1) (po_some (pv 7)) (po_some (pe_op op_add (pv 7) (pv 9)))))
      (pss_one (ps_if (PW.pt (pw_and (pt_cmp (pc_din (hu_of hr) (pv 10) (pv 4))) (pw_and (pt_cmpR op_ge (pe_callB call_len_str_ (by rfl) B.len_ (by decide +kernel) (pa_cons (pv 1) pa_nil)) (pe_op op_add (pv 7) (pv 9)) (nomark _)) (pw_and1 (pt_cmp (pc_isN (pv 8)))))))
      (pss_cons (ps_set (i := 8) sc__law_ends.nd rfl (.inl rfl) (pe_op op_add (pe_op op_mul (pv 6) (pv 0)) (pe_dget (hu_of hr) (pv 4) (pv 10) (fun _ _ => rfl))))
      (pss_one (ps_set (i := 3) sc__law_ends.nd rfl (.inl rfl) (pe_op op_add (pv 7) (pv 9)))))
      pss_nil))))
      (pss_cons (ps_if (pt_cmp (pc_isN (pv 8)))
      (pss_one (ps_ret (pv 2)))
      pss_nil)
      (pss_one (ps_expr (pe_bm PySem.F.plainAttrs_list PySem.F.slot_list_append PySem.F.type_list_append mt_append (pv 2) (pa_cons (pe_tup (pa_cons (pv 8) (pa_cons (pv 3) pa_nil))) pa_nil))))))))))
      (pss_one (ps_ret (pv 2)))))), ?_⟩
    refine ⟨(by show 0 ≤ sizeLine; omega), fun D nD E nE => ?_⟩
    have nED : E ≠ D := fun z => by rw [z, upd_same] at nE; cases nE
    have nE' : H E = none := by rw [upd_ne nED] at nE; exact nE
    refine ⟨_, _, _, rfl, ?_⟩
    refine ⟨_, rfl, _, rfl, by omega, by omega, for_range (lo := 0) (n := m) (fun j σ H2 => ∃ v5 kvs, σ = [some (.int (m : Nat)), some (.str (tx l)), some (.ref D), some (.int 0), some (.ref E), v5, none, none, none, none, none] ∧ Same H H2 ∧ H2 D = some (.lst []) ∧ H2 E = some (.dK kvs) ∧ Known m j kvs) ⟨_, _, rfl, (same_new nD _).trans (same_new nE _), by rw [upd_ne (Ne.symm nED)]; exact upd_same, upd_same, Known.nil m⟩ ?_ ?_⟩
    · rintro j σ H2 hj ⟨v5, kvs, rfl, s2, eD, eE, hk⟩
      have e0 : (0 : Int) + (j : Int) = ((j : Nat) : Int) := Int.zero_add _
      have hl2 : (wordB m j).length ≤ 1000 := by
        have := rest_len_le m (j % m)
        rw [word_len, Nat.div_eq_of_lt hj]
        omega
      refine ⟨_, rfl, _, rfl, ?_⟩
      refine ⟨_, rfl, _, rfl, m, j, ?_, hm, h64, by rw [Nat.div_eq_of_lt hj]; omega, ?_⟩
      · show [V.int (m : Int), V.int (0 + (j : Int))] = _
        rw [e0]
      refine ⟨_, rfl, _, rfl, by rw [tx_len]; omega, ?_⟩
      have ek : cutS (tx (wordB m j)) (some ((1 : Nat) : Int)) none = tx (restB m j) := by
        rw [cut_from]
        unfold wordB
        rw [Nat.div_eq_of_lt hj, Nat.mod_eq_of_lt hj]
        rfl
      refine ⟨E, upd H2 E (.dK (putK kvs (.inr (tx (restB m j))) (.int (j : Nat)))), rfl, ?_, ?_⟩
      · show DPut H2 E (.str (cutS (tx (wordB m j)) (some ((1 : Nat) : Int)) none)) (.int (0 + (j : Int))) _
        rw [ek, e0]
        exact DPut.k (k := .inr (tx (restB m j))) eE (by have := hk.len; omega)
      · refine ⟨_, _, rfl, fun b o ho => ?_, ?_, upd_same, hk.more hm hj⟩
        · rw [upd_ne (ne_of_none ho nE')]
          exact s2 _ _ ho
        · rw [upd_ne (Ne.symm nED)]
          exact eD
    rintro σ H2 ⟨v5, kvs, rfl, s2, eD, eE, hkn⟩
    refine ⟨fun x σ H3 => ∃ (a : Nat) (done : List (Nat × Nat)) (us : List V) (v5 v6 v7 v8 v9 v10 : Option V), x = l.length - a ∧ σ = [some (.int (m : Nat)), some (.str (tx l)), some (.ref D), some (.int (a : Nat)), some (.ref E), v5, v6, v7, v8, v9, v10] ∧ a ≤ l.length ∧ done.length ≤ a ∧ Same H H3 ∧ H3 D = some (.lst us) ∧ PrAt H3 us done ∧ H3 E = some (.dK kvs) ∧ cuts m l = done ++ cutsF m ((l.drop a).length + 1) (l.drop a) a, ⟨l.length, 0, [], [], _, _, _, _, _, _, rfl, rfl, Nat.zero_le _, Nat.le_refl _, s2, eD, ⟨rfl, fun i x h => by cases h⟩, eE, rfl⟩, ?_⟩
    clear s2 eD eE H2
    rintro x σ H2 ⟨a, done, us, v5, v6, v7, v8, v9, v10, rfl, rfl, ha, hdl, s2, eD, hP, eE, hc⟩
    refine ⟨_, rfl, _, rfl, _, rfl, tl, _, _, rfl, rfl, _, rfl, ite2 (fun c => ?_) (fun c => ?_)⟩
    rotate_left
    · -- at the end
      have c' : a = l.length := by
        have : ¬ ((a : Int) < ((tx l).length : Int)) := fun z => c (decide_eq_true z)
        rw [tx_len] at this
        omega
      rw [c', List.drop_length, cutsF_none (rd_nil m), List.append_nil] at hc
      exact ⟨_, rfl, k D us H2 s2 nD eD (hc ▸ hP)⟩
    have c' : a < l.length := by
      have := of_decide_eq_true c
      rw [tx_len] at this
      omega
    obtain ⟨kk, hkk⟩ : ∃ kk, onesN (l.drop a) = kk := ⟨_, rfl⟩
    have ol := ones_le (l.drop a)
    rw [hkk, List.length_drop] at ol
    have om : ∀ i, i ≤ kk → ((l[a + i]? = some true) ↔ i < kk) := fun i hi => by rw [← hkk] at hi ⊢; exact ones_more hi
    refine ⟨fun σ' H3 => ∃ (e n : Nat) (us' : List V) (v5 v6 v7 v8 v9 v10 : Option V), σ' = [some (.int (m : Nat)), some (.str (tx l)), some (.ref D), some (.int (e : Nat)), some (.ref E), v5, v6, v7, v8, v9, v10] ∧ a < e ∧ e ≤ l.length ∧ Same H H3 ∧ H3 D = some (.lst us') ∧ PrAt H3 us' (done ++ [(n, e)]) ∧ H3 E = some (.dK kvs) ∧ cuts m l = (done ++ [(n, e)]) ++ cutsF m ((l.drop e).length + 1) (l.drop e) e, fun σ' H3 ⟨e, n, us', v5, v6, v7, v8, v9, v10, e1, e2, e3, e4, e5, e6, e7, e8⟩ => ⟨l.length - e, by omega, e, done ++ [(n, e)], us', v5, v6, v7, v8, v9, v10, rfl, e1, e3, by rw [List.length_append, List.length_singleton]; omega, e4, e5, e6, e7, e8⟩, ?_⟩
    -- the ones
    refine ⟨fun x σ H3 => ∃ i : Nat, x = kk - i ∧ i ≤ kk ∧ σ = [some (.int (m : Nat)), some (.str (tx l)), some (.ref D), some (.int (a : Nat)), some (.ref E), v5, some (.int (i : Nat)), v7, v8, v9, v10] ∧ H3 = H2, ⟨kk, 0, rfl, Nat.zero_le _, rfl, rfl⟩, ?_⟩
    rintro x σ H3 ⟨i, rfl, hi, rfl, rfl⟩
    refine ⟨_, rfl, _, rfl, _, rfl, _, _, rfl, rfl, _, rfl, _, rfl, _, rfl, _, _, rfl, rfl, _, _, rfl, rfl, _, rfl, _, rfl, tl, rfl, _, rfl, ?_⟩
    have ebit : (V.str (cutS (tx l) (some ((a : Int) + (i : Int))) (some ((a : Int) + (i : Int) + 1))) = V.str ("1" : Str)) ↔ l[a + i]? = some true := by
      rw [show ((a : Int) + (i : Int)) = ((a + i : Nat) : Int) by omega, cut_at, tx_one]
      exact ⟨fun z => (at_is _).mp (V.str.inj z), fun z => congrArg V.str ((at_is _).mpr z)⟩
    by_cases cb : l[a + i]? = some true
    · have cb' := (om i hi).mp cb
      refine iteDT (ebit.mpr cb) ?_
      refine ⟨fun σ' H' => ∃ j : Nat, j = i + 1 ∧ σ' = [some (.int (m : Nat)), some (.str (tx l)), some (.ref D), some (.int (a : Nat)), some (.ref E), v5, some (.int (j : Nat)), v7, v8, v9, v10] ∧ H' = H3, fun σ' H' ⟨j, e0, e1, e2⟩ => ⟨kk - j, by omega, j, rfl, by omega, e1, e2⟩, ?_⟩
      exact ⟨_, rfl, _, _, rfl, rfl, i + 1, rfl, rfl, rfl⟩
    refine iteDF (fun z => cb (ebit.mp z)) ?_
    have ei : i = kk := by
      have : ¬ i < kk := fun z => cb ((om i hi).mpr z)
      omega
    subst ei
    refine ⟨_, rfl, _, rfl, _, _, rfl, rfl, _, _, rfl, rfl, _, _, rfl, ?_⟩
    have eb : (a : Int) + (i : Int) + 1 = ((a + i + 1 : Nat) : Int) := by omega
    refine ⟨7, rfl, by decide, by decide, for_range (lo := 0) (n := 7) (fun j σ H4 => ∃ (at_ : Int) (nv : V) (v9 v10 : Option V), σ = [some (.int (m : Nat)), some (.str (tx l)), some (.ref D), some (.int at_), some (.ref E), v5, some (.int (i : Nat)), some (.int ((a : Int) + (i : Int) + 1)), some nv, v9, v10] ∧ H4 = H3 ∧ ((nv = .non ∧ at_ = (a : Int) ∧ ∀ r c, r < m → c < j → a + i + 1 + c ≤ l.length → (l.drop (a + i + 1)).take c ≠ restB m r) ∨ ∃ n e : Nat, nv = .int (n : Nat) ∧ at_ = (e : Int) ∧ feN m l a = some (n, e))) ⟨_, _, _, _, rfl, rfl, .inl ⟨rfl, rfl, fun r c _ z => by omega⟩⟩ ?_ ?_⟩
    · rintro j σ H4 hj ⟨at_, nv, v9, v10, rfl, rfl, hh⟩
      have e0 : (0 : Int) + (j : Int) = ((j : Nat) : Int) := Int.zero_add _
      refine ⟨_, rfl, _, rfl, _, rfl, _, rfl, _, rfl, _, _, rfl, rfl, _, rfl, _, rfl, tl, ?_⟩
      have ep : cutS (tx l) (some ((a : Int) + (i : Int) + 1)) (some ((a : Int) + (i : Int) + 1 + (0 + (j : Int)))) = tx ((l.drop (a + i + 1)).take j) := by
        rw [e0, eb, show (((a + i + 1 : Nat) : Int) + (j : Int)) = ((a + i + 1 + j : Nat) : Int) by omega, cut_tx, Nat.add_sub_cancel_left]
      by_cases ck : ∃ r, r < m ∧ restB m r = (l.drop (a + i + 1)).take j
      · obtain ⟨r, hr, er⟩ := ck
        have g : DGet H4 E (.str (cutS (tx l) (some ((a : Int) + (i : Int) + 1)) (some ((a : Int) + (i : Int) + 1 + (0 + (j : Int)))))) (some (.int (r : Nat))) := by
          have := DGet.k (k := .inr (tx (restB m r))) eE
          rw [hkn.has r hr] at this
          rw [ep, ← er]
          exact this
        refine ⟨_, rfl, _, rfl, E, _, rfl, g, _, rfl, iteT ?_⟩
        refine ⟨_, rfl, _, rfl, tl, _, rfl, _, rfl, _, _, rfl, rfl, _, _, rfl, rfl, _, rfl, ite2 (fun cl => ?_) (fun cl => ?_)⟩
        · have cl' := of_decide_eq_true cl
          rw [tx_len, e0] at cl'
          have hhit := fe_hit hm hr hkk er.symm (by omega)
          refine ⟨_, rfl, ?_⟩
          rcases hh with ⟨rfl, rfl, hn⟩ | ⟨n, e, rfl, rfl, hf⟩
          · refine ⟨_, rfl, iteDT rfl ?_⟩
            refine ⟨_, rfl, _, rfl, _, _, rfl, rfl, .inr (by omega), _, rfl, _, rfl, E, _, rfl, g, _, _, rfl, rfl, ?_⟩
            refine ⟨_, rfl, _, rfl, _, _, rfl, rfl, ?_⟩
            refine ⟨_, _, _, _, rfl, rfl, .inr ⟨i * m + r, a + i + 1 + j, ?_, ?_, hhit⟩⟩
            · show V.int ((i : Int) * (m : Int) + (r : Int)) = _
              rw [Int.natCast_add, Int.natCast_mul]
            · show (a : Int) + (i : Int) + 1 + (0 + (j : Int)) = _
              omega
          · refine ⟨_, rfl, iteDF (fun z => by cases z) ?_⟩
            exact ⟨_, _, _, _, rfl, rfl, .inr ⟨n, e, rfl, rfl, hf⟩⟩
        · refine ⟨_, _, _, _, rfl, rfl, ?_⟩
          rcases hh with ⟨rfl, rfl, hn⟩ | hh
          · refine .inl ⟨rfl, rfl, fun r' c hr' hc hcl => ?_⟩
            by_cases e : c = j
            · subst e
              exact absurd (decide_eq_true (by rw [tx_len, e0]; omega)) cl
            · exact hn r' c hr' (by omega) hcl
          · exact .inr hh
      · have g : DGet H4 E (.str (cutS (tx l) (some ((a : Int) + (i : Int) + 1)) (some ((a : Int) + (i : Int) + 1 + (0 + (j : Int)))))) none := by
          have := DGet.k (k := .inr (tx ((l.drop (a + i + 1)).take j))) eE
          rw [hkn.no _ (fun r hr z => ck ⟨r, hr, z⟩)] at this
          rw [ep]
          exact this
        refine ⟨_, rfl, _, rfl, E, _, rfl, g, _, rfl, iteF ?_⟩
        refine ⟨_, _, _, _, rfl, rfl, ?_⟩
        rcases hh with ⟨rfl, rfl, hn⟩ | hh
        · refine .inl ⟨rfl, rfl, fun r' c hr' hc hcl z => ?_⟩
          by_cases e : c = j
          · subst e
            exact ck ⟨r', hr', z.symm⟩
          · exact hn r' c hr' (by omega) hcl z
        · exact .inr hh
    rintro σ H4 ⟨at_, nv, v9, v10, rfl, rfl, hh⟩
    refine ⟨_, rfl, ?_⟩
    rcases hh with ⟨rfl, rfl, hn⟩ | ⟨n, e, rfl, rfl, hf⟩
    · refine ⟨_, rfl, iteDT rfl ?_⟩
      have hnone : feN m l a = none := by
        cases hf : feN m l a with
        | none => rfl
        | some p =>
          obtain ⟨r, c, hr, hcw, e1, e2, e3⟩ := fe_is (n := p.1) (e := p.2) hm (by omega) hkk hf
          exact absurd e3 (hn r c hr (by omega) (by omega))
      rw [cutsF_none (fe_none hnone), List.append_nil] at hc
      exact ⟨_, rfl, k D us H4 s2 nD eD (hc ▸ hP)⟩
    · refine ⟨_, rfl, iteDF (fun z => by cases z) ?_⟩
      obtain ⟨h1, h2, _⟩ := rd_bound hm ha hf
      refine ⟨_, rfl, .inl ⟨rfl, _, .inl (.inl eD)⟩, _, rfl, _, rfl, (by show 2 ≤ sizeLine; omega), fun T nT => ?_⟩
      have s5 := same_new nT (.tup [.int (n : Nat), .int (e : Nat)])
      have nTD : T ≠ D := fun z => by rw [z, eD] at nT; cases nT
      have nTE : T ≠ E := fun z => by rw [z, eE] at nT; cases nT
      refine ⟨D, _, _, rfl, rfl, s5 _ _ eD, by rw [hP.len]; omega, ?_⟩
      have hT : (upd H4 T (.tup [.int (n : Nat), .int (e : Nat)])) T = some (.tup [.int (n : Nat), .int (e : Nat)]) := upd_same
      have eD5 := s5 _ _ eD
      have eE5 := s5 _ _ eE
      have hP5 := hP.same s5
      have S5 := s2.trans s5
      generalize upd H4 T (.tup [.int (n : Nat), .int (e : Nat)]) = H5 at *
      have nED : E ≠ D := fun z => by rw [z, eD5] at eE5; cases eE5
      have hT6 : (upd H5 D (.lst (us ++ [.ref T]))) T = some (.tup [.int (n : Nat), .int (e : Nat)]) := by rw [upd_ne nTD]; exact hT
      have hP6 : PrAt (upd H5 D (.lst (us ++ [.ref T]))) us done := ⟨hP5.len, fun i x hx => by
        obtain ⟨t, a, b⟩ := hP5.at_ i x hx
        refine ⟨t, a, ?_⟩
        rw [upd_ne (fun z => by rw [z, eD5] at b; cases b)]
        exact b⟩
      refine ⟨e, n, us ++ [.ref T], _, _, _, _, _, _, rfl, h1, h2, fun b o ho => by rw [upd_ne (ne_of_none ho nD)]; exact S5 _ _ ho, upd_same, hP6.snoc hT6, by rw [upd_ne nED]; exact eE5, ?_⟩
      rw [hc, cuts_step hm ha hf, List.append_assoc]
      rfl
end

abbrev s__law_signs : Stmt := topS 26
theorem sc__law_signs : FnScope ["_law_h", "_law_many", "_law_found", "_law_k"] ["_law_h", "_law_many"] (defScope s__law_signs) := ⟨rfl, rfl, rfl, by decide +kernel, rfl, by decide +kernel, by decide +kernel⟩
def sp__law_signs (K : PySem.W.Frag) : Sp := fun vs H Q _ => ∃ (h q : Addr) (n : Nat), vs = [.ref h, .int (n : Nat)] ∧ LawH H h q ∧ n ≤ 1000 ∧
  ∀ (l : List Bool) (H' : Hp), l.length = n → LawH H' h q → Sm h q H H' → Q (.str (tx l)) H'
theorem one_sign (b : Bool) : (⟨#[sg b]⟩ : Str) = tx [b] := by
  cases b <;> decide +kernel
theorem at_01 (b : Bool) : atI ("01" : Str).cps.toList (if b then 1 else 0) = some (sg b) := by
  cases b <;> decide +kernel
section
variable {P : Program} {w : World} {K : PySem.W.Frag} {mg : Str → Option Value} {base : Heap}
theorem ok__law_signs (A : At K mg "_law_signs" s__law_signs ["_law_h", "_law_many"]) (B : Bn mg) (H__law_next : CalE P w K mg base "_law_next" ["_law_h", "_law_cap"] 1 (sp__law_next K)) : CalE P w K mg base "_law_signs" ["_law_h", "_law_many"] 2 (sp__law_signs K) := by
  obtain ⟨f, fd, F, gF, bF⟩ := A
  obtain ⟨f__law_next, fd__law_next, G__law_next⟩ := H__law_next
  refine ⟨f, fd, F.ok sc__law_signs (fun vs H Q E h => ?_) (fun cdv A outer s H vs Q E hr h => ?_), gF, F.kp, bF⟩
  · repeat (first | (obtain ⟨rfl, _⟩ := h; rfl) | (obtain ⟨_, h⟩ := h))
  · obtain ⟨h, q, n, rfl, L, hn, k⟩ := h
    have hsz := sizeLine_eq
    refine ⟨_, (pss_cons (ps_set (i := 2) sc__law_signs.nd rfl (.inl rfl) pe_str)
      (pss_cons (ps_for PassesOwn.never rfl (pi_range1 (by rfl) B.range_ (pa_cons (pv 1) pa_nil)) (pg_name (i := 3) sc__law_signs.nd rfl (.inl rfl))
      (pss_one (ps_set (i := 2) sc__law_signs.nd rfl (.inl rfl) (pe_op op_add_str (pv 2) (pe_ix ix_str pe_str (pe_call G__law_next.ok (hr.mono (by first | decide | exact Nat.le_refl _)) (by rfl) G__law_next.g G__law_next.kp G__law_next.b .nil pass0 (pa_cons (pv 0) (pa_cons pe_int pa_nil))) (fun _ _ => rfl))))))
      (pss_one (ps_ret (pv 2))))), ?_⟩
    refine ⟨_, rfl, _, rfl, by omega, by omega, ?_⟩
    rw [Int.toNat_natCast]
    refine for_range (lo := 0) (n := n) (fun i σ H2 => ∃ v3 l, σ = [some (.ref h), some (.int (n : Nat)), some (.str (tx l)), v3] ∧ l.length = i ∧ LawH H2 h q ∧ Sm h q H H2) ⟨_, [], by rw [← tx_nil]; rfl, rfl, L, Sm.refl _ _ _⟩ ?_ ?_
    · rintro i σ H2 hi ⟨v3, l, rfl, hl, L2, S2⟩
      refine ⟨_, rfl, _, rfl, h, q, 2, rfl, L2, by decide, by decide, fun z H3 z0 z1 L3 S3 => ?_⟩
      obtain ⟨b, rfl⟩ : ∃ b : Bool, z = (if b then 1 else 0) := by
        by_cases c : z = 1
        · exact ⟨true, by rw [c]; rfl⟩
        · exact ⟨false, by show z = 0; omega⟩
      refine ⟨_, _, _, rfl, rfl, (by show 2 ≤ sizeLine; omega), at_01 b, ?_⟩
      refine ⟨_, _, rfl, rfl, ?_, ?_⟩
      · rw [tx_len]
        show l.length + 1 ≤ sizeLine
        omega
      · refine ⟨some (.int (0 + (i : Int))), l ++ [b], ?_, by rw [List.length_append, hl]; rfl, L3, S2.trans S3⟩
        rw [one_sign, tx_app]
        rfl
    · rintro σ H2 ⟨v3, l, rfl, hl, L2, S2⟩
      exact ⟨_, rfl, k l H2 hl L2 S2⟩
end

abbrev s_law : Stmt := topS 29
theorem sc_law : FnScope ["_law_script", "_law_h", "_law_step_here", "_law_ones", "_law_rest", "_law_turn", "_law_numbers", "_law_text", "_law_texts", "_law_some", "_law_found", "_law_due", "_law_number", "_law_one"] ["_law_script"] (defScope s_law) := ⟨rfl, rfl, rfl, by decide +kernel, rfl, by decide +kernel, by decide +kernel⟩
def sp_law (K : PySem.W.Frag) : Sp := fun vs H Q _ => ∃ (a : Addr) (ns : List Int), vs = [.ref a] ∧ SqL K H a (ns.map V.int) ∧ ns.length ≤ 63 ∧ ∀ H', Q (.bl true) H'
section
variable {P : Program} {w : World} {K : PySem.W.Frag} {mg : Str → Option Value} {base : Heap}
theorem ok_law {f : Addr} {fd : FuncData} (F : Fun K "law" "law" s_law f fd) (B : Bn mg) (H__law_mix : CalE P w K mg base "_law_mix" ["_law_script", "_law_seed"] 1 (sp__law_mix K)) (H__law_next : CalE P w K mg base "_law_next" ["_law_h", "_law_cap"] 1 (sp__law_next K)) (H__law_alike : CalE P w K mg base "_law_alike" ["_law_found", "_law_due"] 5 (sp__law_alike K)) (H__law_answer : CalE P w K mg base "_law_answer" ["_law_step_here", "_law_text"] 6 (sp__law_answer K)) (H__law_word : CalE P w K mg base "_law_word" ["_law_step_here", "_law_number"] 2 (sp__law_word K)) (H__law_step : CalE P w K mg base "_law_step" ["_law_h"] 3 (sp__law_step K)) (H__law_row : CalE P w K mg base "_law_row" ["_law_h", "_law_step_here"] 3 (sp__law_row K)) (H__law_signs : CalE P w K mg base "_law_signs" ["_law_h", "_law_many"] 2 (sp__law_signs K)) (H__law_ends : CalE P w K mg base "_law_ends" ["_law_step_here", "_law_text"] 3 (sp__law_ends K)) : FnOk P w K mg base CX0 7 f fd ["_law_script"] (sp_law K) := by
  obtain ⟨f__law_mix, fd__law_mix, G__law_mix⟩ := H__law_mix
  obtain ⟨f__law_next, fd__law_next, G__law_next⟩ := H__law_next
  obtain ⟨f__law_alike, fd__law_alike, G__law_alike⟩ := H__law_alike
  obtain ⟨f__law_answer, fd__law_answer, G__law_answer⟩ := H__law_answer
  obtain ⟨f__law_word, fd__law_word, G__law_word⟩ := H__law_word
  obtain ⟨f__law_step, fd__law_step, G__law_step⟩ := H__law_step
  obtain ⟨f__law_row, fd__law_row, G__law_row⟩ := H__law_row
  obtain ⟨f__law_signs, fd__law_signs, G__law_signs⟩ := H__law_signs
  obtain ⟨f__law_ends, fd__law_ends, G__law_ends⟩ := H__law_ends
  refine F.ok sc_law (fun vs H Q E h => ?_) (fun cdv A outer s H vs Q E hr h => ?_)
  · obtain ⟨a, ns, rfl, _⟩ := h
    rfl
  obtain ⟨a, ns, rfl, hS, hlen, k⟩ := h
  have hsz := sizeLine_eq
  refine ⟨_, (pss_cons (ps_set (i := 1) sc_law.nd rfl (.inl rfl) (pe_call G__law_mix.ok (hr.mono (by first | decide | exact Nat.le_refl _)) (by rfl) G__law_mix.g G__law_mix.kp G__law_mix.b .nil pass0 (pa_cons (pv 0) (pa_cons pe_int pa_nil))))
      (pss_cons (ps_asg (pe_tup (pa_cons (pe_op op_add pe_int (pe_call G__law_next.ok (hr.mono (by first | decide | exact Nat.le_refl _)) (by rfl) G__law_next.g G__law_next.kp G__law_next.b .nil pass0 (pa_cons (pv 1) (pa_cons pe_int pa_nil)))) (pa_cons (pe_op op_add pe_int (pe_call G__law_next.ok (hr.mono (by first | decide | exact Nat.le_refl _)) (by rfl) G__law_next.g G__law_next.kp G__law_next.b .nil pass0 (pa_cons (pv 1) (pa_cons pe_int pa_nil)))) pa_nil))) (pg_tup (by rfl) (pgs_cons (pg_name (i := 2) sc_law.nd rfl (.inr rfl)) (pgs_cons (pg_name (i := 3) sc_law.nd rfl (.inl rfl)) pgs_nil))))
      (pss_cons (ps_set (i := 4) sc_law.nd rfl (.inl rfl) (pe_call G__law_next.ok (hr.mono (by first | decide | exact Nat.le_refl _)) (by rfl) G__law_next.g G__law_next.kp G__law_next.b .nil pass0 (pa_cons (pv 1) (pa_cons (pv 2) pa_nil))))
      (pss_cons (ps_if (pt_not (pt_val (pe_call G__law_alike.ok (hr.mono (by first | decide | exact Nat.le_refl _)) (by rfl) G__law_alike.g G__law_alike.kp G__law_alike.b .nil pass0 (pa_cons (pe_call G__law_answer.ok (hr.mono (by first | decide | exact Nat.le_refl _)) (by rfl) G__law_answer.g G__law_answer.kp G__law_answer.b .nil pass0 (pa_cons (pv 2) (pa_cons (pe_op op_add_str (pe_op op_mul_str pe_str (pv 3)) (pe_call G__law_word.ok (hr.mono (by first | decide | exact Nat.le_refl _)) (by rfl) G__law_word.g G__law_word.kp G__law_word.b .nil pass0 (pa_cons (pv 2) (pa_cons (pv 4) pa_nil)))) pa_nil))) (pa_cons (pe_tup (pa_cons (pe_op op_add (pe_op op_mul (pv 3) (pv 2)) (pv 4)) pa_nil)) pa_nil)))))
      (pss_one (ps_ret pe_bl))
      pss_nil)
      (pss_cons (ps_for PassesOwn.never rfl (pi_range1 (by rfl) B.range_ (pa_cons pe_int pa_nil)) (pg_name (i := 5) sc_law.nd rfl (.inl rfl))
      (pss_cons (ps_set (i := 2) sc_law.nd rfl (.inr rfl) (pe_call G__law_step.ok (hr.mono (by first | decide | exact Nat.le_refl _)) (by rfl) G__law_step.g G__law_step.kp G__law_step.b .nil pass0 (pa_cons (pv 1) pa_nil)))
      (pss_cons (ps_set (i := 6) sc_law.nd rfl (.inl rfl) (pe_call G__law_row.ok (hr.mono (by first | decide | exact Nat.le_refl _)) (by rfl) G__law_row.g G__law_row.kp G__law_row.b .nil pass0 (pa_cons (pv 1) (pa_cons (pv 2) pa_nil))))
      (pss_cons (ps_set (i := 7) sc_law.nd rfl (.inl rfl) (pe_join_ K pe_str (pe_lc (own := [("_law_number", 12)]) (g := gName 12) (tt := tYes) rfl sc_law.nd (pi_tup (pv 6)) (blkOk_by (own := [("_law_number", 12)]) (N := ["_law_script", "_law_h", "_law_step_here", "_law_ones", "_law_rest", "_law_turn", "_law_numbers", "_law_text", "_law_texts", "_law_some", "_law_found", "_law_due", "_law_number", "_law_one"]) (sc := defScope s_law) (by decide +kernel)) (fun _ _ _ _ _ => (pg_name (i := 12) sc_law.nd rfl (.inl rfl))) (fun _ _ _ _ _ => pts_nil) (fun _ _ _ _ _ => (pe_call G__law_word.ok (hr.mono (by first | decide | exact Nat.le_refl _)) (by rfl) G__law_word.g G__law_word.kp G__law_word.b .nil pass0 (pa_cons (pv 2) (pa_cons (pv 12) pa_nil)))))))
      (pss_cons (ps_if (pt_not (pt_val (pe_call G__law_alike.ok (hr.mono (by first | decide | exact Nat.le_refl _)) (by rfl) G__law_alike.g G__law_alike.kp G__law_alike.b .nil pass0 (pa_cons (pe_call G__law_answer.ok (hr.mono (by first | decide | exact Nat.le_refl _)) (by rfl) G__law_answer.g G__law_answer.kp G__law_answer.b .nil pass0 (pa_cons (pv 2) (pa_cons (pv 7) pa_nil))) (pa_cons (pv 6) pa_nil)))))
      (pss_one (ps_ret pe_bl))
      pss_nil)
      (pss_cons (ps_set (i := 8) sc_law.nd rfl (.inl rfl) (pe_lst (pa_cons (pe_slice sl_str (pv 7) po_none (po_some (pe_call G__law_next.ok (hr.mono (by first | decide | exact Nat.le_refl _)) (by rfl) G__law_next.g G__law_next.kp G__law_next.b .nil pass0 (pa_cons (pv 1) (pa_cons (pe_op op_add (pe_callB call_len_str_ (by rfl) B.len_ (by decide +kernel) (pa_cons (pv 7) pa_nil)) pe_int) pa_nil))))) (pa_cons (pe_op op_add_str (pv 7) (pe_call G__law_signs.ok (hr.mono (by first | decide | exact Nat.le_refl _)) (by rfl) G__law_signs.g G__law_signs.kp G__law_signs.b .nil pass0 (pa_cons (pv 1) (pa_cons (pe_call G__law_next.ok (hr.mono (by first | decide | exact Nat.le_refl _)) (by rfl) G__law_next.g G__law_next.kp G__law_next.b .nil pass0 (pa_cons (pv 1) (pa_cons pe_int pa_nil))) pa_nil)))) pa_nil))))
      (pss_one (ps_for PassesOwn.never rfl (pi_list (pe_op op_cat (pv 8) (pe_lst (pa_cons (pe_call G__law_signs.ok (hr.mono (by first | decide | exact Nat.le_refl _)) (by rfl) G__law_signs.g G__law_signs.kp G__law_signs.b .nil pass0 (pa_cons (pv 1) (pa_cons (pe_call G__law_next.ok (hr.mono (by first | decide | exact Nat.le_refl _)) (by rfl) G__law_next.g G__law_next.kp G__law_next.b .nil pass0 (pa_cons (pv 1) (pa_cons pe_int pa_nil))) pa_nil))) pa_nil)))) (pg_name (i := 9) sc_law.nd rfl (.inl rfl))
      (pss_cons (ps_set (i := 10) sc_law.nd rfl (.inl rfl) (pe_call G__law_ends.ok (hr.mono (by first | decide | exact Nat.le_refl _)) (by rfl) G__law_ends.g G__law_ends.kp G__law_ends.b .nil pass0 (pa_cons (pv 2) (pa_cons (pv 9) pa_nil))))
      (pss_cons (ps_set (i := 11) sc_law.nd rfl (.inl rfl) (pe_callTy (call_tuple_of_ K) (by rfl) B.tuple_ (by decide +kernel) (pa_cons (pe_lc (own := [("_law_one", 13)]) (g := gName 13) (tt := tYes) rfl sc_law.nd (pi_list (pv 10)) (blkOk_by (own := [("_law_one", 13)]) (N := ["_law_script", "_law_h", "_law_step_here", "_law_ones", "_law_rest", "_law_turn", "_law_numbers", "_law_text", "_law_texts", "_law_some", "_law_found", "_law_due", "_law_number", "_law_one"]) (sc := defScope s_law) (by decide +kernel)) (fun _ _ _ _ _ => (pg_name (i := 13) sc_law.nd rfl (.inl rfl))) (fun _ _ _ _ _ => pts_nil) (fun _ _ _ _ _ => (pe_ix (ix_tup_ K) (pv 13) pe_int (fun _ _ => rfl)))) pa_nil)))
      (pss_cons (ps_if (pt_cmpR op_ne (pe_ifExp (pt_cmpR (op_neD_ K hr.units) (pv 10) (pe_lst pa_nil) (nomark _)) (pe_ix (ix_tup_ K) (pe_ix (ix_list_ K) (pv 10) (pe_un un_neg pe_int) (fun _ _ => rfl)) pe_int (fun _ _ => rfl)) pe_int) (pe_callB call_len_str_ (by rfl) B.len_ (by decide +kernel) (pa_cons (pv 9) pa_nil)) (nomark _))
      (pss_one (ps_set (i := 11) sc_law.nd rfl (.inl rfl) pe_non))
      pss_nil)
      (pss_one (ps_if (pt_not (pt_val (pe_call G__law_alike.ok (hr.mono (by first | decide | exact Nat.le_refl _)) (by rfl) G__law_alike.g G__law_alike.kp G__law_alike.b .nil pass0 (pa_cons (pe_call G__law_answer.ok (hr.mono (by first | decide | exact Nat.le_refl _)) (by rfl) G__law_answer.g G__law_answer.kp G__law_answer.b .nil pass0 (pa_cons (pv 2) (pa_cons (pv 9) pa_nil))) (pa_cons (pv 11) pa_nil)))))
      (pss_one (ps_ret pe_bl))
      pss_nil)))))))))))))
      (pss_one (ps_ret pe_bl))))))), ?_⟩
  refine ⟨_, rfl, a, ns, 2, rfl, hS, hlen, fun h q H1 s1 n1 n2 L1 => ?_⟩
  -- a word of many ones
  refine ⟨_, rfl, h, q, 64, rfl, L1, by decide, by decide, fun z H2 z0 z1 L2 S2 => ?_⟩
  obtain ⟨m', rfl⟩ : ∃ y : Nat, z = (y : Int) := ⟨z.toNat, by omega⟩
  refine ⟨_, _, rfl, rfl, _, rfl, h, q, 2900, rfl, L2, by decide, by decide, fun z H3 z2 z3 L3 S3 => ?_⟩
  obtain ⟨o', rfl⟩ : ∃ y : Nat, z = (y : Int) := ⟨z.toNat, by omega⟩
  refine ⟨_, _, rfl, rfl, (by show 2 ≤ sizeLine; omega), fun W nW => ?_⟩
  refine ⟨W, _, rfl, .inl (.inl upd_same), rfl, _, _, rfl, _, _, rfl, rfl, ?_⟩
  have L3 := L3.same (same_new nW (.tup [.int (1 + (m' : Int)), .int (1001 + (o' : Int))]))
  generalize upd H3 W (.tup [.int (1 + (m' : Int)), .int (1001 + (o' : Int))]) = H3 at *
  obtain ⟨m, em⟩ : ∃ m : Nat, (1 : Int) + (m' : Int) = (m : Int) := ⟨1 + m', by omega⟩
  obtain ⟨o, eo⟩ : ∃ o : Nat, (1001 : Int) + (o' : Int) = (o : Int) := ⟨1001 + o', by omega⟩
  have m1 : 1 ≤ m := by omega
  have m64 : m ≤ 64 := by omega
  have o39 : o ≤ 3900 := by omega
  refine nx_of (σ' := [some (.ref a), some (.ref h), some (.int (m : Int)), some (.int (o : Int)), none, none, none, none, none, none, none, none, none, none]) (by rw [← em, ← eo]; rfl) ?_
  clear em eo
  refine ⟨_, rfl, _, rfl, h, q, (m : Int), rfl, L3, by omega, by omega, fun z H4 z4 z5 L4 S4 => ?_⟩
  obtain ⟨r, rfl⟩ : ∃ y : Nat, z = (y : Int) := ⟨z.toNat, by omega⟩
  have hr : r < m := by omega
  have lr := rest_len_le m r
  have w6 := wide_64 m64
  have lw : (wordB m r).length ≤ 7 := by
    rw [word_len, Nat.div_eq_of_lt hr, Nat.mod_eq_of_lt hr]
    omega
  have eword := ones_word (k := o) hr
  have lt : (wordB m (o * m + r)).length = o + (wordB m r).length := by
    rw [← eword, List.length_append, List.length_replicate]
  have hcut := cuts_word m1 (o * m + r)
  refine ⟨_, rfl, _, rfl, _, _, rfl, rfl, by omega, by omega, (by show 1 * _ ≤ 1000000; omega), ?_⟩
  refine ⟨_, rfl, _, rfl, m, r, rfl, m1, m64, by rw [Nat.div_eq_of_lt hr]; omega, ?_⟩
  show ∃ i j, V.str (repS ("1" : Str) ((o : Int)).toNat) = V.str i ∧ V.str (tx (wordB m r)) = V.str j ∧ _
  rw [Int.toNat_natCast, tx_one, tx_rep]
  refine ⟨_, _, rfl, rfl, by rw [tx_len, tx_len, List.length_replicate]; omega, ?_⟩
  rw [tx_app, eword]
  have hend : endOf (cuts m (wordB m (o * m + r))) = (wordB m (o * m + r)).length := by rw [hcut]; rfl
  refine ⟨m, _, rfl, m1, m64, by rw [lt]; omega, fun _ T H5 s5 eT => ?_, fun z => absurd hend z⟩
  rw [hcut] at eT
  refine ⟨_, rfl, _, rfl, _, _, rfl, rfl, .inr (by omega), _, rfl, _, _, rfl, rfl, (by show 1 ≤ sizeLine; omega), fun T2 nT2 => ?_⟩
  have eT2 : (upd H5 T2 (.tup [.int ((o : Int) * (m : Int) + (r : Int))])) T2 = some (.tup ([(o * m + r, 0)].map fun p : Nat × Nat => V.int (p.1 : Nat))) := by
    rw [upd_same]
    show some (HO.tup [V.int ((o : Int) * (m : Int) + (r : Int))]) = some (HO.tup [V.int ((o * m + r : Nat) : Int)])
    rw [Int.natCast_add, Int.natCast_mul]
  have s6 := same_new nT2 (.tup [.int ((o : Int) * (m : Int) + (r : Int))])
  have eT1 := s6 _ _ eT
  have L6 := (L4.same s5).same s6
  refine ⟨_, _, _, 4, rfl, rfl, dp_nums (r := [(o * m + r, 0)]) (.inl (.inl eT1)), dp_nums (r := [(o * m + r, 0)]) (.inl (.inl eT2)), ok_nums 3 _ (by show 1 ≤ 1000000; decide), fun H7 s7 => ⟨_, rfl, iteF ?_⟩⟩
  have L7 := L6.same s7
  clear L6 eT1 eT2 s6 eT s5 nT2 hcut hend lt eword lw
  clear hr m1 m64 o39
  refine ⟨5, rfl, by decide, by decide, for_range (lo := 0) (n := 5) (fun i σ H2 => ∃ v2 v3 v4 v5 v6 v7 v8 v9 v10 v11 v12 v13, σ = [some (.ref a), some (.ref h), v2, v3, v4, v5, v6, v7, v8, v9, v10, v11, v12, v13] ∧ LawH H2 h q) ⟨_, _, _, _, _, _, _, _, _, _, _, _, rfl, L7⟩ ?_ ?_⟩
  rotate_left
  · rintro σ H2 ⟨v2, v3, v4, v5, v6, v7, v8, v9, v10, v11, v12, v13, rfl, L2⟩
    exact k H2
  rintro i σ H2 hi ⟨v2, v3, v4, v5, v6, v7, v8, v9, v10, v11, v12, v13, rfl, L2⟩
  refine ⟨_, rfl, h, q, rfl, L2, fun m H3 m1 m64 L3 S3 => ?_⟩
  refine ⟨_, rfl, _, rfl, h, q, m, rfl, L3, m1, m64, fun T ns H4 nl nb L4 S4 nT eT => ?_⟩
  have hST : SqT K H4 T (ns.map fun n => V.int (n : Nat)) := .inl (.inl eT)
  have lm : (ns.map fun n => V.int (n : Nat)).length = ns.length := List.length_map _
  have geti : ∀ {i : Nat} {x : V}, (ns.map fun n => V.int (n : Nat))[i]? = some x → ∃ z, ns[i]? = some z ∧ x = V.int (z : Nat) := by
    intro i x hx
    rw [List.getElem?_map] at hx
    cases e : ns[i]? with
    | none => rw [e] at hx; cases hx
    | some z => rw [e] at hx; exact ⟨z, rfl, (Option.some.inj hx).symm⟩
  have hdm : ∀ z ∈ ns, z / m ≤ 20 := fun z hz => Nat.le_of_lt (Nat.div_lt_of_lt_mul (by rw [Nat.mul_comm]; exact nb z hz))
  have hrl := row_le (m := m) (c := 20) m64 (ns := ns) hdm
  have hrl2 : ns.length * (20 + 7) ≤ 10 * 27 := Nat.mul_le_mul_right _ nl
  have l0 : ("" : Str).length = 0 := by decide +kernel
  refine ⟨⟨_, rfl⟩, _, rfl, T, rfl, ⟨_, hST⟩, fun D nD => ?_⟩
  refine lc_tup (K := K) (a := T) (xs := ns.map fun n => V.int (n : Nat)) (fun j H6 => Same H4 H6 ∧ H6 D = some (.lst ((((ns.take j).map (wordB m)).map tx).map V.str))) ⟨same_new nD _, upd_same⟩ (fun j H6 _ h6 => Same.seqT h6.1 hST) ?_ ?_
  · rintro j x H6 hx ⟨s6, eD⟩
    obtain ⟨z, hz, rfl⟩ := geti hx
    have hj : j < ns.length := (List.getElem?_eq_some_iff.mp hz).1
    refine ⟨rfl, _, rfl, _, rfl, m, z, rfl, m1, m64, by have := hdm z (List.mem_of_getElem? hz); omega, ?_⟩
    refine ⟨_, eD, ?_, ?_, ?_⟩
    · rw [List.length_map, List.length_map, List.length_map, List.length_take]
      omega
    · intro b o ho
      rw [upd_ne (ne_of_none ho nD)]
      exact s6 b o ho
    · rw [upd_same, take_more hz, List.map_append, List.map_append, List.map_append]
      rfl
  rintro H5 ⟨s5, eD⟩
  rw [lm, List.take_length] at eD
  refine ⟨_, D, _, rfl, rfl, .inl (.inl (.inl eD)), ?_, ?_⟩
  · rw [join_len, l0, Nat.mul_zero, Nat.add_zero]
    show (rowB m ns).length ≤ _
    omega
  rw [join_tx]
  have L5 := L4.same s5
  obtain ⟨cr1, cr2⟩ := cuts_row m1 ns
  have ecr : ((cuts m (rowB m ns)).map fun p => V.int (p.1 : Nat)) = ns.map fun n => V.int (n : Nat) := by
    rw [← cr1, List.map_map]
    rw [cr1]
    rfl
  have hclen := cuts_len m1 (rowB m ns)
  show (fun x H1 => _) (V.str (tx (rowB m ns))) H5
  refine ⟨_, rfl, _, rfl, m, rowB m ns, rfl, m1, m64, by omega, fun _ T2 H6 s6 eT2 => ?_, fun z => absurd cr2 z⟩
  have hT6 : SqT K H6 T ((cuts m (rowB m ns)).map fun p => V.int (p.1 : Nat)) := by
    rw [ecr]
    exact Same.seqT (s5.trans s6) hST
  refine ⟨_, rfl, _, _, _, 4, rfl, rfl, dp_nums (.inl (.inl eT2)), dp_nums hT6, ok_nums 3 _ (by omega), fun H7 s7 => ⟨_, rfl, iteF (to_next (σ' := [some (.ref a), some (.ref h), some (.int (m : Nat)), v3, v4, some (.int (0 + (i : Int))), some (.ref T), some (.str (tx (rowB m ns))), v8, v9, v10, v11, v12, v13]) rfl ?_)⟩⟩
  have L7 := L5.same (s6.trans s7)
  have ll : (rowB m ns).length ≤ 270 := by omega
  clear hT6 ecr cr1 cr2 hclen eD s5 s6 s7 eT2 nD hST hrl hrl2 L5 L4 L3 eT
  generalize rowB m ns = l at *
  have tl : (tx l).length ≤ sizeLine := by rw [tx_len]; omega
  -- the texts
  refine ⟨_, rfl, _, rfl, _, rfl, _, rfl, tl, _, _, rfl, rfl, h, q, _, rfl, L7, by rw [tx_len]; omega, by rw [tx_len]; omega, fun z H8 z0 z1 L8 S8 => ?_⟩
  obtain ⟨c, rfl⟩ : ∃ y : Nat, z = (y : Int) := ⟨z.toNat, by omega⟩
  refine ⟨_, rfl, _, rfl, tl, ?_⟩
  refine ⟨_, rfl, _, rfl, _, rfl, h, q, 9, rfl, L8, by decide, by decide, fun z H9 z2 z3 L9 S9 => ?_⟩
  obtain ⟨c2, rfl⟩ : ∃ y : Nat, z = (y : Int) := ⟨z.toNat, by omega⟩
  refine ⟨h, q, c2, rfl, L9, by omega, fun l2 H10 hl2 L10 S10 => ?_⟩
  refine ⟨_, _, rfl, rfl, by rw [tx_len, tx_len]; omega, ?_⟩
  rw [tx_app]
  refine ⟨(by show 2 ≤ sizeLine; omega), fun D1 nD1 => ?_⟩
  obtain ⟨hnh, hnq⟩ := L10.nn
  have b1 : D1 ≠ h := fun z => hnh (z ▸ nD1)
  have b2 : D1 ≠ q := fun z => hnq (z ▸ nD1)
  have L11 := L10.same (same_new nD1 (.lst [.str (cutS (tx l) none (some (c : Int))), .str (tx (l ++ l2))]))
  have eD1 : (upd H10 D1 (.lst [.str (cutS (tx l) none (some (c : Int))), .str (tx (l ++ l2))])) D1 = some (.lst [.str (tx (l.take c)), .str (tx (l ++ l2))]) := by
    rw [upd_same, cut_to]
  generalize upd H10 D1 (.lst [.str (cutS (tx l) none (some (c : Int))), .str (tx (l ++ l2))]) = H11 at *
  clear hnh hnq nD1
  -- the texts and one more
  refine ⟨_, rfl, _, rfl, _, rfl, h, q, 60, rfl, L11, by decide, by decide, fun z H12 z4 z5 L12 S12 => ?_⟩
  obtain ⟨c3, rfl⟩ : ∃ y : Nat, z = (y : Int) := ⟨z.toNat, by omega⟩
  refine ⟨h, q, c3, rfl, L12, by omega, fun l3 H13 hl3 L13 S13 => ?_⟩
  refine ⟨(by show 1 ≤ sizeLine; omega), fun D2 nD2 => ?_⟩
  have eD13 := (S12.trans S13) _ _ eD1 b1 b2
  have s14 := same_new nD2 (.lst [.str (tx l3)])
  refine ⟨D1, D2, _, _, rfl, rfl, s14 _ _ eD13, upd_same, (by show 2 + 1 ≤ sizeLine; omega), fun D3 nD3 => ?_⟩
  have s15 := s14.trans (same_new nD3 (.lst ([.str (tx (l.take c)), .str (tx (l ++ l2))] ++ [.str (tx l3)])))
  have L15 := L13.same s15
  have eD3 : (upd (upd H13 D2 (.lst [.str (tx l3)])) D3 (.lst ([.str (tx (l.take c)), .str (tx (l ++ l2))] ++ [.str (tx l3)]))) D3 = some (.lst [.str (tx (l.take c)), .str (tx (l ++ l2)), .str (tx l3)]) := upd_same
  generalize upd (upd H13 D2 (.lst [.str (tx l3)])) D3 (.lst ([.str (tx (l.take c)), .str (tx (l ++ l2))] ++ [.str (tx l3)])) = H at *
  have hall : ∀ x ∈ [V.str (tx (l.take c)), .str (tx (l ++ l2)), .str (tx l3)], ∃ t : List Bool, x = .str (tx t) ∧ t.length ≤ 4000 := by
    intro x hx
    simp only [List.mem_cons, List.not_mem_nil, or_false] at hx
    rcases hx with rfl | rfl | rfl
    · exact ⟨_, rfl, by rw [List.length_take]; omega⟩
    · exact ⟨_, rfl, by rw [List.length_append]; omega⟩
    · exact ⟨_, rfl, by omega⟩
  generalize [V.str (tx (l.take c)), .str (tx (l ++ l2)), .str (tx l3)] = xs at *
  refine ⟨D3, rfl, ⟨_, .inl (.inl eD3)⟩, for_list (K := K) (a := D3) (xs := xs) (fun j σ H2 => ∃ v2 v3 v4 v5 v6 v7 v8 v9 v10 v11 v12 v13, σ = [some (.ref a), some (.ref h), v2, v3, v4, v5, v6, v7, v8, v9, v10, v11, v12, v13] ∧ v2 = some (.int (m : Nat)) ∧ Same H H2) ⟨_, _, _, _, _, _, _, _, _, _, _, _, rfl, rfl, Same.refl _⟩ (fun j σ H2 _ ⟨_, _, _, _, _, _, _, _, _, _, _, _, _, _, s⟩ => .inl (.inl (s _ _ eD3))) ?_ ?_⟩
  rotate_left
  · rintro σ H2 ⟨v2, v3, v4, v5, v6, v7, v8, v9, v10, v11, v12, v13, rfl, _, s⟩
    exact ⟨_, _, _, _, _, _, _, _, _, _, _, _, rfl, L15.same s⟩
  rintro j x σ H2 hx ⟨_, v3, v4, v5, v6, v7, v8, v9, v10, v11, v12, v13, rfl, rfl, s2⟩
  obtain ⟨t, rfl, ht⟩ := hall x (List.mem_of_getElem? hx)
  have tl' : (tx t).length ≤ sizeLine := by rw [tx_len]; omega
  refine ⟨_, rfl, _, rfl, m, t, rfl, m1, m64, by omega, fun D us H3 s3 nD eD hP => ?_⟩
  have hcl := cuts_len m1 t
  refine ⟨_, rfl, D, rfl, ⟨_, .inl (.inl eD)⟩, fun L nL => ?_⟩
  refine lc_list (K := K) (a := D) (xs := us) (fun i H4 => Same H3 H4 ∧ H4 L = some (.lst (((cuts m t).take i).map fun x => V.int (x.1 : Nat)))) ⟨same_new nL _, by rw [upd_same]; rfl⟩ (fun i H4 _ h4 => .inl (.inl (h4.1 _ _ eD))) ?_ ?_
  · rintro i x H4 hx4 ⟨s4, eL⟩
    have hi2 : i < (cuts m t).length := hP.len ▸ (List.getElem?_eq_some_iff.mp hx4).1
    have hy : (cuts m t)[i]? = some (cuts m t)[i] := List.getElem?_eq_getElem hi2
    obtain ⟨u, ta, tb⟩ := hP.at_ i _ hy
    rw [hx4] at ta
    cases Option.some.inj ta
    refine ⟨rfl, _, rfl, u, _, 0, _, rfl, rfl, .inl (.inl (s4 _ _ tb)), rfl, _, eL, ?_, ?_, ?_⟩
    · rw [List.length_map, List.length_take]
      omega
    · intro a o ho
      rw [upd_ne (ne_of_none ho nL)]
      exact s4 a o ho
    · rw [upd_same, take_more hy, List.map_append]
      rfl
  rintro H4 ⟨s4, eL⟩
  rw [hP.len, List.take_length] at eL
  refine ⟨L, _, rfl, .inl ⟨.inl (.inl eL), fun T1 nT1 => ?_⟩⟩
  have s5 := same_new nT1 (.tup ((cuts m t).map fun x => V.int (x.1 : Nat)))
  have eT1 : (upd H4 T1 (.tup ((cuts m t).map fun x => V.int (x.1 : Nat)))) T1 = some (.tup ((cuts m t).map fun x => V.int (x.1 : Nat))) := upd_same
  have eD5 := s5 _ _ (s4 _ _ eD)
  have hP5 := (hP.same s4).same s5
  have S5 := s2.trans (s3.trans (s4.trans s5))
  generalize upd H4 T1 (.tup ((cuts m t).map fun x => V.int (x.1 : Nat))) = H5 at *
  -- due = None, if the text ends within a word
  refine ⟨_, rfl, (by show 0 ≤ sizeLine; omega), fun E0 nE => ?_⟩
  have s6 := same_new nE (.lst [])
  refine ⟨_, _, .lst (.inl (.inl (s6 _ _ eD5))) (PrAt.dpAll (hP5.same s6)), .lst (.inl (.inl upd_same)) .nil, ok_shaped (prD_ok _) (by decide), by decide +kernel, _, rfl, ?_⟩
  rw [eqv_nil]
  have hint : ∀ n : Nat, V.int (n : Int) = V.int ((tx t).length : Int) → n = t.length := by
    intro n h
    have := V.int.inj h
    rw [tx_len] at this
    omega
  have eD6 := s6 _ _ eD5
  have hP6 := hP5.same s6
  have eT6 := s6 _ _ eT1
  have S6 := S5.trans s6
  generalize upd H5 E0 (.lst []) = H6 at *
  refine' joinP (endOf (cuts m t) = t.length) ?mainA ?restA
  case mainA =>
    intro keyE
    refine' joinP (¬ endOf (cuts m t) = t.length) ?mainB ?restB
    case mainB =>
      intro keyN
      by_cases hc : cuts m t = []
      · have e : (prD (cuts m t)).isEmpty = true := by rw [hc]; rfl
        rw [e]
        refine iteF ?_
        refine ⟨_, rfl, _, rfl, tl', rfl, _, rfl, ?_⟩
        by_cases hz : endOf (cuts m t) = t.length
        · refine iteNS ?_ (keyE hz)
          rw [tx_len, ← hz, hc]
          rfl
        · exact iteND (fun z => hz ((congrArg endOf hc).trans (hint 0 z))) (keyN hz)
      · have e : (prD (cuts m t)).isEmpty = false := by
          cases h : cuts m t with
          | nil => exact absurd h hc
          | cons => rfl
        rw [e]
        refine iteT ?_
        obtain ⟨u, n, h1, h2⟩ := last_of hP6 hc
        refine ⟨_, rfl, _, rfl, D, _, _, _, rfl, rfl, .inl (.inl eD6), h1, u, _, 1, _, rfl, rfl, .inl (.inl h2), rfl, ?_⟩
        refine ⟨_, rfl, _, rfl, tl', rfl, _, rfl, ?_⟩
        by_cases hz : endOf (cuts m t) = t.length
        · refine iteNS ?_ (keyE hz)
          rw [tx_len, hz]
        · exact iteND (fun z => hz (hint _ z)) (keyN hz)
    case restB =>
      intro hz
      refine ⟨_, rfl, _, rfl, m, t, rfl, m1, m64, ht, fun z => absurd z hz, fun _ H7 s7 => ?_⟩
      refine ⟨_, rfl, _, _, _, 4, rfl, rfl, .non, .non, trivial, fun H8 s8 => ⟨_, rfl, iteF ?_⟩⟩
      exact ⟨_, _, _, _, _, _, _, _, _, _, _, _, rfl, rfl, S6.trans (s7.trans s8)⟩
  case restA =>
    intro hz
    refine ⟨_, rfl, _, rfl, m, t, rfl, m1, m64, ht, fun _ T2 H7 s7 eT2 => ?_, fun z => absurd hz z⟩
    refine ⟨_, rfl, _, _, _, 4, rfl, rfl, dp_nums (.inl (.inl eT2)), dp_nums (.inl (.inl (s7 _ _ eT6))), ok_nums 3 _ (by omega), fun H8 s8 => ⟨_, rfl, iteF ?_⟩⟩
    exact ⟨_, _, _, _, _, _, _, _, _, _, _, _, rfl, rfl, S6.trans (s7.trans s8)⟩
end
end St
namespace St
open PySem PySem.Spec PyProof.Rows L2
theorem all_mk {l : PySem.W.OpenLaw} {w : World} {K : PySem.W.Frag} {h : Heap} {mg : Str → Option Value} {fa : Addr} (X : K.In h) (G : h.Ns mainGlobals mg) (hfa : mg "law" = some (.ref fa))
    {f0 : Addr} {od0 an0 : Option Addr} {sl0 : Array (Option Value)} {oc0 kV0 dc0 pm0 cd0 ct0 : Value}
    (a0 : PySem.W.nsIn K mainGlobals "_law_mix" = some (some (.ref f0))) (l0 : K.lookup f0 = some ⟨oc0, od0, .func (PySem.W.fnOf "_law_mix" "_law_mix" (defArgs s__law_mix) (defBody s__law_mix) (defScope s__law_mix) .none kV0 dc0 pm0 an0 cd0 ct0), sl0⟩) (c0 : PySem.W.codeIn K cd0 "_law_mix" = true) (k0 : PySem.W.keepIn K (.ref f0) = true)
    {f1 : Addr} {od1 an1 : Option Addr} {sl1 : Array (Option Value)} {oc1 kV1 dc1 pm1 cd1 ct1 : Value}
    (a1 : PySem.W.nsIn K mainGlobals "_law_next" = some (some (.ref f1))) (l1 : K.lookup f1 = some ⟨oc1, od1, .func (PySem.W.fnOf "_law_next" "_law_next" (defArgs s__law_next) (defBody s__law_next) (defScope s__law_next) .none kV1 dc1 pm1 an1 cd1 ct1), sl1⟩) (c1 : PySem.W.codeIn K cd1 "_law_next" = true) (k1 : PySem.W.keepIn K (.ref f1) = true)
    {f2 : Addr} {od2 an2 : Option Addr} {sl2 : Array (Option Value)} {oc2 kV2 dc2 pm2 cd2 ct2 : Value}
    (a2 : PySem.W.nsIn K mainGlobals "_law_alike" = some (some (.ref f2))) (l2 : K.lookup f2 = some ⟨oc2, od2, .func (PySem.W.fnOf "_law_alike" "_law_alike" (defArgs s__law_alike) (defBody s__law_alike) (defScope s__law_alike) .none kV2 dc2 pm2 an2 cd2 ct2), sl2⟩) (c2 : PySem.W.codeIn K cd2 "_law_alike" = true) (k2 : PySem.W.keepIn K (.ref f2) = true)
    {f3 : Addr} {od3 an3 : Option Addr} {sl3 : Array (Option Value)} {oc3 kV3 dc3 pm3 cd3 ct3 : Value}
    (a3 : PySem.W.nsIn K mainGlobals "_law_pick" = some (some (.ref f3))) (l3 : K.lookup f3 = some ⟨oc3, od3, .func (PySem.W.fnOf "_law_pick" "_law_pick" (defArgs s__law_pick) (defBody s__law_pick) (defScope s__law_pick) .none kV3 dc3 pm3 an3 cd3 ct3), sl3⟩) (c3 : PySem.W.codeIn K cd3 "_law_pick" = true) (k3 : PySem.W.keepIn K (.ref f3) = true)
    {f4 : Addr} {od4 an4 : Option Addr} {sl4 : Array (Option Value)} {oc4 kV4 dc4 pm4 cd4 ct4 : Value}
    (a4 : PySem.W.nsIn K mainGlobals "_law_step" = some (some (.ref f4))) (l4 : K.lookup f4 = some ⟨oc4, od4, .func (PySem.W.fnOf "_law_step" "_law_step" (defArgs s__law_step) (defBody s__law_step) (defScope s__law_step) .none kV4 dc4 pm4 an4 cd4 ct4), sl4⟩) (c4 : PySem.W.codeIn K cd4 "_law_step" = true) (k4 : PySem.W.keepIn K (.ref f4) = true)
    {f5 : Addr} {od5 an5 : Option Addr} {sl5 : Array (Option Value)} {oc5 kV5 dc5 pm5 cd5 ct5 : Value}
    (a5 : PySem.W.nsIn K mainGlobals "_law_row" = some (some (.ref f5))) (l5 : K.lookup f5 = some ⟨oc5, od5, .func (PySem.W.fnOf "_law_row" "_law_row" (defArgs s__law_row) (defBody s__law_row) (defScope s__law_row) .none kV5 dc5 pm5 an5 cd5 ct5), sl5⟩) (c5 : PySem.W.codeIn K cd5 "_law_row" = true) (k5 : PySem.W.keepIn K (.ref f5) = true)
    {f6 : Addr} {od6 an6 : Option Addr} {sl6 : Array (Option Value)} {oc6 kV6 dc6 pm6 cd6 ct6 : Value}
    (a6 : PySem.W.nsIn K mainGlobals "is_integer" = some (some (.ref f6))) (l6 : K.lookup f6 = some ⟨oc6, od6, .func (PySem.W.fnOf "is_integer" "is_integer" (defArgs s_is_integer) (defBody s_is_integer) (defScope s_is_integer) .none kV6 dc6 pm6 an6 cd6 ct6), sl6⟩) (c6 : PySem.W.codeIn K cd6 "is_integer" = true) (k6 : PySem.W.keepIn K (.ref f6) = true)
    {f7 : Addr} {od7 an7 : Option Addr} {sl7 : Array (Option Value)} {oc7 kV7 dc7 pm7 cd7 ct7 : Value}
    (a7 : PySem.W.nsIn K mainGlobals "check_step" = some (some (.ref f7))) (l7 : K.lookup f7 = some ⟨oc7, od7, .func (PySem.W.fnOf "check_step" "check_step" (defArgs s_check_step) (defBody s_check_step) (defScope s_check_step) .none kV7 dc7 pm7 an7 cd7 ct7), sl7⟩) (c7 : PySem.W.codeIn K cd7 "check_step" = true) (k7 : PySem.W.keepIn K (.ref f7) = true)
    {f8 : Addr} {od8 an8 : Option Addr} {sl8 : Array (Option Value)} {oc8 kV8 dc8 pm8 cd8 ct8 : Value}
    (a8 : PySem.W.nsIn K mainGlobals "check_text" = some (some (.ref f8))) (l8 : K.lookup f8 = some ⟨oc8, od8, .func (PySem.W.fnOf "check_text" "check_text" (defArgs s_check_text) (defBody s_check_text) (defScope s_check_text) .none kV8 dc8 pm8 an8 cd8 ct8), sl8⟩) (c8 : PySem.W.codeIn K cd8 "check_text" = true) (k8 : PySem.W.keepIn K (.ref f8) = true)
    {f9 : Addr} {od9 an9 : Option Addr} {sl9 : Array (Option Value)} {oc9 kV9 dc9 pm9 cd9 ct9 : Value}
    (a9 : PySem.W.nsIn K mainGlobals "power_of_two" = some (some (.ref f9))) (l9 : K.lookup f9 = some ⟨oc9, od9, .func (PySem.W.fnOf "power_of_two" "power_of_two" (defArgs s_power_of_two) (defBody s_power_of_two) (defScope s_power_of_two) .none kV9 dc9 pm9 an9 cd9 ct9), sl9⟩) (c9 : PySem.W.codeIn K cd9 "power_of_two" = true) (k9 : PySem.W.keepIn K (.ref f9) = true)
    {f10 : Addr} {od10 an10 : Option Addr} {sl10 : Array (Option Value)} {oc10 kV10 dc10 pm10 cd10 ct10 : Value}
    (a10 : PySem.W.nsIn K mainGlobals "wide" = some (some (.ref f10))) (l10 : K.lookup f10 = some ⟨oc10, od10, .func (PySem.W.fnOf "wide" "wide" (defArgs s_wide) (defBody s_wide) (defScope s_wide) .none kV10 dc10 pm10 an10 cd10 ct10), sl10⟩) (c10 : PySem.W.codeIn K cd10 "wide" = true) (k10 : PySem.W.keepIn K (.ref f10) = true)
    {f11 : Addr} {od11 an11 : Option Addr} {sl11 : Array (Option Value)} {oc11 kV11 dc11 pm11 cd11 ct11 : Value}
    (a11 : PySem.W.nsIn K mainGlobals "first_end" = some (some (.ref f11))) (l11 : K.lookup f11 = some ⟨oc11, od11, .func (PySem.W.fnOf "first_end" "first_end" (defArgs s_first_end) (defBody s_first_end) (defScope s_first_end) .none kV11 dc11 pm11 an11 cd11 ct11), sl11⟩) (c11 : PySem.W.codeIn K cd11 "first_end" = true) (k11 : PySem.W.keepIn K (.ref f11) = true)
    {f12 : Addr} {od12 an12 : Option Addr} {sl12 : Array (Option Value)} {oc12 kV12 dc12 pm12 cd12 ct12 : Value}
    (a12 : PySem.W.nsIn K mainGlobals "cut_by" = some (some (.ref f12))) (l12 : K.lookup f12 = some ⟨oc12, od12, .func (PySem.W.fnOf "cut_by" "cut_by" (defArgs s_cut_by) (defBody s_cut_by) (defScope s_cut_by) .none kV12 dc12 pm12 an12 cd12 ct12), sl12⟩) (c12 : PySem.W.codeIn K cd12 "cut_by" = true) (k12 : PySem.W.keepIn K (.ref f12) = true)
    {f13 : Addr} {od13 an13 : Option Addr} {sl13 : Array (Option Value)} {oc13 kV13 dc13 pm13 cd13 ct13 : Value}
    (a13 : PySem.W.nsIn K mainGlobals "read_row" = some (some (.ref f13))) (l13 : K.lookup f13 = some ⟨oc13, od13, .func (PySem.W.fnOf "read_row" "read_row" (defArgs s_read_row) (defBody s_read_row) (defScope s_read_row) .none kV13 dc13 pm13 an13 cd13 ct13), sl13⟩) (c13 : PySem.W.codeIn K cd13 "read_row" = true) (k13 : PySem.W.keepIn K (.ref f13) = true)
    {f14 : Addr} {od14 an14 : Option Addr} {sl14 : Array (Option Value)} {oc14 kV14 dc14 pm14 cd14 ct14 : Value}
    (a14 : PySem.W.nsIn K mainGlobals "_law_answer" = some (some (.ref f14))) (l14 : K.lookup f14 = some ⟨oc14, od14, .func (PySem.W.fnOf "_law_answer" "_law_answer" (defArgs s__law_answer) (defBody s__law_answer) (defScope s__law_answer) .none kV14 dc14 pm14 an14 cd14 ct14), sl14⟩) (c14 : PySem.W.codeIn K cd14 "_law_answer" = true) (k14 : PySem.W.keepIn K (.ref f14) = true)
    {f15 : Addr} {od15 an15 : Option Addr} {sl15 : Array (Option Value)} {oc15 kV15 dc15 pm15 cd15 ct15 : Value}
    (a15 : PySem.W.nsIn K mainGlobals "_law_double" = some (some (.ref f15))) (l15 : K.lookup f15 = some ⟨oc15, od15, .func (PySem.W.fnOf "_law_double" "_law_double" (defArgs s__law_double) (defBody s__law_double) (defScope s__law_double) .none kV15 dc15 pm15 an15 cd15 ct15), sl15⟩) (c15 : PySem.W.codeIn K cd15 "_law_double" = true) (k15 : PySem.W.keepIn K (.ref f15) = true)
    {f16 : Addr} {od16 an16 : Option Addr} {sl16 : Array (Option Value)} {oc16 kV16 dc16 pm16 cd16 ct16 : Value}
    (a16 : PySem.W.nsIn K mainGlobals "_law_word" = some (some (.ref f16))) (l16 : K.lookup f16 = some ⟨oc16, od16, .func (PySem.W.fnOf "_law_word" "_law_word" (defArgs s__law_word) (defBody s__law_word) (defScope s__law_word) .none kV16 dc16 pm16 an16 cd16 ct16), sl16⟩) (c16 : PySem.W.codeIn K cd16 "_law_word" = true) (k16 : PySem.W.keepIn K (.ref f16) = true)
    {f17 : Addr} {od17 an17 : Option Addr} {sl17 : Array (Option Value)} {oc17 kV17 dc17 pm17 cd17 ct17 : Value}
    (a17 : PySem.W.nsIn K mainGlobals "_law_ends" = some (some (.ref f17))) (l17 : K.lookup f17 = some ⟨oc17, od17, .func (PySem.W.fnOf "_law_ends" "_law_ends" (defArgs s__law_ends) (defBody s__law_ends) (defScope s__law_ends) .none kV17 dc17 pm17 an17 cd17 ct17), sl17⟩) (c17 : PySem.W.codeIn K cd17 "_law_ends" = true) (k17 : PySem.W.keepIn K (.ref f17) = true)
    {f18 : Addr} {od18 an18 : Option Addr} {sl18 : Array (Option Value)} {oc18 kV18 dc18 pm18 cd18 ct18 : Value}
    (a18 : PySem.W.nsIn K mainGlobals "_law_signs" = some (some (.ref f18))) (l18 : K.lookup f18 = some ⟨oc18, od18, .func (PySem.W.fnOf "_law_signs" "_law_signs" (defArgs s__law_signs) (defBody s__law_signs) (defScope s__law_signs) .none kV18 dc18 pm18 an18 cd18 ct18), sl18⟩) (c18 : PySem.W.codeIn K cd18 "_law_signs" = true) (k18 : PySem.W.keepIn K (.ref f18) = true)
    {f19 : Addr} {od19 an19 : Option Addr} {sl19 : Array (Option Value)} {oc19 kV19 dc19 pm19 cd19 ct19 : Value}
    (a19 : PySem.W.nsIn K mainGlobals "law" = some (some (.ref f19))) (l19 : K.lookup f19 = some ⟨oc19, od19, .func (PySem.W.fnOf "law" "law" (defArgs s_law) (defBody s_law) (defScope s_law) .none kV19 dc19 pm19 an19 cd19 ct19), sl19⟩) (c19 : PySem.W.codeIn K cd19 "law" = true) (k19 : PySem.W.keepIn K (.ref f19) = true)
    {tk0 : Tok} (n0 : PySem.W.nsIn K mainGlobals "MOST_STEP" = some (some (.int 64 tk0)))
    {tk1 : Tok} (n1 : PySem.W.nsIn K mainGlobals "MOST_TEXT" = some (some (.int 4000 tk1)))
    {U0 : Addr} (un0 : PySem.W.nsIn K mainGlobals "Unfinished" = some (some (.ref U0))) (uq0 : PySem.W.excIn K U0 [.type "ValueError", .type "Exception", .type "BaseException", .type "object"] "ValueError.__new__" = true) (uk0 : PySem.W.keepIn K (.ref U0) = true) (ub0 : PySem.W.subIn K (.ref U0) (.type "BaseException") = some true) (ut0 : PySem.W.typeIn K (.ref U0) = some (.type "type")) (ud0 : PySem.W.hasDictIn K U0 = true) (us0 : PySem.W.subIn K (.ref U0) (.ref U0) = some true)
    {U1 : Addr} (un1 : PySem.W.nsIn K mainGlobals "StepError" = some (some (.ref U1))) (uq1 : PySem.W.excIn K U1 [.type "ValueError", .type "Exception", .type "BaseException", .type "object"] "ValueError.__new__" = true) (uk1 : PySem.W.keepIn K (.ref U1) = true) (ub1 : PySem.W.subIn K (.ref U1) (.type "BaseException") = some true) (ut1 : PySem.W.typeIn K (.ref U1) = some (.type "type")) (ud1 : PySem.W.hasDictIn K U1 = true) (us1 : PySem.W.subIn K (.ref U1) (.ref U1) = some true)
    (eg0 : PySem.W.findIn K (.ref U0) "__getattribute__" = some (some (.builtin "BaseException.__getattribute__"))) (ek0 : PySem.W.findIn K (.ref U0) "__getattr__" = some none) (ea0 : PySem.W.findIn K (.ref U0) "__class__" = some (some (.builtin "object.__class__"))) (en0 : PySem.W.specialIn K (.builtin "object.__class__") "__get__" = some (some (.builtin "getset_descriptor.__get__"))) (et0 : PySem.W.takesIn K (.builtin "object.__class__") = some true) (em0 : PySem.W.mroIn K U0 (.type "object") = some true)
    (kt0_1 : PySem.W.subIn K (.ref U0) (.ref U1) = some true)
    (z_isinstance : PySem.W.nsIn K mainGlobals "isinstance" = some none)
    (z_int : PySem.W.nsIn K mainGlobals "int" = some none)
    (z_bool : PySem.W.nsIn K mainGlobals "bool" = some none)
    (z_str : PySem.W.nsIn K mainGlobals "str" = some none)
    (z_tuple : PySem.W.nsIn K mainGlobals "tuple" = some none)
    (z_list : PySem.W.nsIn K mainGlobals "list" = some none)
    (z_len : PySem.W.nsIn K mainGlobals "len" = some none)
    (z_range : PySem.W.nsIn K mainGlobals "range" = some none)
    (z_abs : PySem.W.nsIn K mainGlobals "abs" = some none)
    (z_min : PySem.W.nsIn K mainGlobals "min" = some none)
    (z_max : PySem.W.nsIn K mainGlobals "max" = some none)
    (z_sum : PySem.W.nsIn K mainGlobals "sum" = some none)
    (z_sorted : PySem.W.nsIn K mainGlobals "sorted" = some none)
    (z_enumerate : PySem.W.nsIn K mainGlobals "enumerate" = some none)
    (z_zip : PySem.W.nsIn K mainGlobals "zip" = some none)
    (z_set : PySem.W.nsIn K mainGlobals "set" = some none)
    (z_any : PySem.W.nsIn K mainGlobals "any" = some none)
    (z_all : PySem.W.nsIn K mainGlobals "all" = some none)
    : ∃ fd : FuncData, (∀ (s : Shared) (v : Value), BindsTo s fd ⟨[v], []⟩ [("_law_script", v)]) ∧ ∀ base : Heap, K.In base → base.Ns mainGlobals mg → FnOk l.prog w K mg base CX0 7 fa fd ["_law_script"] (sp_law K) := by
  have e := hfa.symm.trans (PySem.W.mg_of X G a19)
  cases e
  have F0 := fun_mk (st := s__law_mix) l0 c0 k0
  have b0 := F0.binds (ps := ["_law_script", "_law_seed"]) fun _ _ _ _ _ _ us hl => match us, hl with | [_, _], _ => rfl
  have A0 : At K mg "_law_mix" s__law_mix ["_law_script", "_law_seed"] := ⟨_, _, F0, PySem.W.mg_of X G a0, b0⟩
  have F1 := fun_mk (st := s__law_next) l1 c1 k1
  have b1 := F1.binds (ps := ["_law_h", "_law_cap"]) fun _ _ _ _ _ _ us hl => match us, hl with | [_, _], _ => rfl
  have A1 : At K mg "_law_next" s__law_next ["_law_h", "_law_cap"] := ⟨_, _, F1, PySem.W.mg_of X G a1, b1⟩
  have F2 := fun_mk (st := s__law_alike) l2 c2 k2
  have b2 := F2.binds (ps := ["_law_found", "_law_due"]) fun _ _ _ _ _ _ us hl => match us, hl with | [_, _], _ => rfl
  have A2 : At K mg "_law_alike" s__law_alike ["_law_found", "_law_due"] := ⟨_, _, F2, PySem.W.mg_of X G a2, b2⟩
  have F3 := fun_mk (st := s__law_pick) l3 c3 k3
  have b3 := F3.binds (ps := ["_law_h", "_law_things"]) fun _ _ _ _ _ _ us hl => match us, hl with | [_, _], _ => rfl
  have A3 : At K mg "_law_pick" s__law_pick ["_law_h", "_law_things"] := ⟨_, _, F3, PySem.W.mg_of X G a3, b3⟩
  have F4 := fun_mk (st := s__law_step) l4 c4 k4
  have b4 := F4.binds (ps := ["_law_h"]) fun _ _ _ _ _ _ us hl => match us, hl with | [_], _ => rfl
  have A4 : At K mg "_law_step" s__law_step ["_law_h"] := ⟨_, _, F4, PySem.W.mg_of X G a4, b4⟩
  have F5 := fun_mk (st := s__law_row) l5 c5 k5
  have b5 := F5.binds (ps := ["_law_h", "_law_step_here"]) fun _ _ _ _ _ _ us hl => match us, hl with | [_, _], _ => rfl
  have A5 : At K mg "_law_row" s__law_row ["_law_h", "_law_step_here"] := ⟨_, _, F5, PySem.W.mg_of X G a5, b5⟩
  have F6 := fun_mk (st := s_is_integer) l6 c6 k6
  have b6 := F6.binds (ps := ["thing", "low", "high"]) fun _ _ _ _ _ _ us hl => match us, hl with | [_, _, _], _ => rfl
  have A6 : At K mg "is_integer" s_is_integer ["thing", "low", "high"] := ⟨_, _, F6, PySem.W.mg_of X G a6, b6⟩
  have F7 := fun_mk (st := s_check_step) l7 c7 k7
  have b7 := F7.binds (ps := ["thing"]) fun _ _ _ _ _ _ us hl => match us, hl with | [_], _ => rfl
  have A7 : At K mg "check_step" s_check_step ["thing"] := ⟨_, _, F7, PySem.W.mg_of X G a7, b7⟩
  have F8 := fun_mk (st := s_check_text) l8 c8 k8
  have b8 := F8.binds (ps := ["thing"]) fun _ _ _ _ _ _ us hl => match us, hl with | [_], _ => rfl
  have A8 : At K mg "check_text" s_check_text ["thing"] := ⟨_, _, F8, PySem.W.mg_of X G a8, b8⟩
  have F9 := fun_mk (st := s_power_of_two) l9 c9 k9
  have b9 := F9.binds (ps := ["times"]) fun _ _ _ _ _ _ us hl => match us, hl with | [_], _ => rfl
  have A9 : At K mg "power_of_two" s_power_of_two ["times"] := ⟨_, _, F9, PySem.W.mg_of X G a9, b9⟩
  have F10 := fun_mk (st := s_wide) l10 c10 k10
  have b10 := F10.binds (ps := ["step"]) fun _ _ _ _ _ _ us hl => match us, hl with | [_], _ => rfl
  have A10 : At K mg "wide" s_wide ["step"] := ⟨_, _, F10, PySem.W.mg_of X G a10, b10⟩
  have F11 := fun_mk (st := s_first_end) l11 c11 k11
  have b11 := F11.binds (ps := ["step", "text", "begin"]) fun _ _ _ _ _ _ us hl => match us, hl with | [_, _, _], _ => rfl
  have A11 : At K mg "first_end" s_first_end ["step", "text", "begin"] := ⟨_, _, F11, PySem.W.mg_of X G a11, b11⟩
  have F12 := fun_mk (st := s_cut_by) l12 c12 k12
  have b12 := F12.binds (ps := ["step", "text"]) fun _ _ _ _ _ _ us hl => match us, hl with | [_, _], _ => rfl
  have A12 : At K mg "cut_by" s_cut_by ["step", "text"] := ⟨_, _, F12, PySem.W.mg_of X G a12, b12⟩
  have F13 := fun_mk (st := s_read_row) l13 c13 k13
  have b13 := F13.binds (ps := ["step", "text"]) fun _ _ _ _ _ _ us hl => match us, hl with | [_, _], _ => rfl
  have A13 : At K mg "read_row" s_read_row ["step", "text"] := ⟨_, _, F13, PySem.W.mg_of X G a13, b13⟩
  have F14 := fun_mk (st := s__law_answer) l14 c14 k14
  have b14 := F14.binds (ps := ["_law_step_here", "_law_text"]) fun _ _ _ _ _ _ us hl => match us, hl with | [_, _], _ => rfl
  have A14 : At K mg "_law_answer" s__law_answer ["_law_step_here", "_law_text"] := ⟨_, _, F14, PySem.W.mg_of X G a14, b14⟩
  have F15 := fun_mk (st := s__law_double) l15 c15 k15
  have b15 := F15.binds (ps := ["_law_times"]) fun _ _ _ _ _ _ us hl => match us, hl with | [_], _ => rfl
  have A15 : At K mg "_law_double" s__law_double ["_law_times"] := ⟨_, _, F15, PySem.W.mg_of X G a15, b15⟩
  have F16 := fun_mk (st := s__law_word) l16 c16 k16
  have b16 := F16.binds (ps := ["_law_step_here", "_law_number"]) fun _ _ _ _ _ _ us hl => match us, hl with | [_, _], _ => rfl
  have A16 : At K mg "_law_word" s__law_word ["_law_step_here", "_law_number"] := ⟨_, _, F16, PySem.W.mg_of X G a16, b16⟩
  have F17 := fun_mk (st := s__law_ends) l17 c17 k17
  have b17 := F17.binds (ps := ["_law_step_here", "_law_text"]) fun _ _ _ _ _ _ us hl => match us, hl with | [_, _], _ => rfl
  have A17 : At K mg "_law_ends" s__law_ends ["_law_step_here", "_law_text"] := ⟨_, _, F17, PySem.W.mg_of X G a17, b17⟩
  have F18 := fun_mk (st := s__law_signs) l18 c18 k18
  have b18 := F18.binds (ps := ["_law_h", "_law_many"]) fun _ _ _ _ _ _ us hl => match us, hl with | [_, _], _ => rfl
  have A18 : At K mg "_law_signs" s__law_signs ["_law_h", "_law_many"] := ⟨_, _, F18, PySem.W.mg_of X G a18, b18⟩
  have F19 := fun_mk (st := s_law) l19 c19 k19
  have b19 := F19.binds (ps := ["_law_script"]) fun _ _ _ _ _ _ us hl => match us, hl with | [_], _ => rfl
  have A19 : At K mg "law" s_law ["_law_script"] := ⟨_, _, F19, PySem.W.mg_of X G a19, b19⟩
  have B : Bn mg := ⟨PySem.W.mg_none_of X G z_isinstance, PySem.W.mg_none_of X G z_int, PySem.W.mg_none_of X G z_bool, PySem.W.mg_none_of X G z_str, PySem.W.mg_none_of X G z_tuple, PySem.W.mg_none_of X G z_list, PySem.W.mg_none_of X G z_len, PySem.W.mg_none_of X G z_range, PySem.W.mg_none_of X G z_abs, PySem.W.mg_none_of X G z_min, PySem.W.mg_none_of X G z_max, PySem.W.mg_none_of X G z_sum, PySem.W.mg_none_of X G z_sorted, PySem.W.mg_none_of X G z_enumerate, PySem.W.mg_none_of X G z_zip, PySem.W.mg_none_of X G z_set, PySem.W.mg_none_of X G z_any, PySem.W.mg_none_of X G z_all⟩
  have N0 := PySem.W.mg_of X G n0
  have N1 := PySem.W.mg_of X G n1
  have T0 : ∃ C, ExT K mg "Unfinished" C := ⟨_, un0, PySem.W.mg_of X G un0, uq0, uk0, ub0, ut0, ud0, us0⟩
  have T1 : ∃ C, ExT K mg "StepError" C := ⟨_, un1, PySem.W.mg_of X G un1, uq1, uk1, ub1, ut1, ud1, us1⟩
  have E0 : ∀ C, ClsAt K "Unfinished" C → ExcC K C := fun C hC => ClsAt.one un0 hC ▸ ⟨eg0, ek0, ub0, ud0, ea0, en0, et0, em0⟩
  have KT0_1 : ∀ C D, ClsAt K "Unfinished" C → ClsAt K "StepError" D → PySem.W.kitOne K (.ref C) (.ref D) = some true := fun C D hC hD => ClsAt.one un0 hC ▸ ClsAt.one un1 hD ▸ kit_sub ud1 ut1 kt0_1
  refine ⟨PySem.W.fnOf "law" "law" (defArgs s_law) (defBody s_law) (defScope s_law) .none kV19 dc19 pm19 an19 cd19 ct19, fun s v => .of_eq rfl, fun base _ _ => ?_⟩
  have C0 : CalE l.prog w K mg base "_law_mix" ["_law_script", "_law_seed"] 1 (sp__law_mix K) := ok__law_mix A0 B
  have C1 : CalE l.prog w K mg base "_law_next" ["_law_h", "_law_cap"] 1 (sp__law_next K) := ok__law_next A1 B
  have C2 : CalE l.prog w K mg base "_law_alike" ["_law_found", "_law_due"] 5 (sp__law_alike K) := ok__law_alike A2 B
  have C3 : CalE l.prog w K mg base "_law_pick" ["_law_h", "_law_things"] 2 (sp__law_pick K) := ok__law_pick A3 B C1
  have C4 : CalE l.prog w K mg base "_law_step" ["_law_h"] 3 (sp__law_step K) := ok__law_step A4 B C1 C3
  have C5 : CalE l.prog w K mg base "_law_row" ["_law_h", "_law_step_here"] 3 (sp__law_row K) := ok__law_row A5 B C3 C1
  have C6 : CalE l.prog w K mg base "is_integer" ["thing", "low", "high"] 1 (sp_is_integer K) := ok_is_integer A6 B
  have C7 : CalE l.prog w K mg base "check_step" ["thing"] 2 (sp_check_step K) := ok_check_step A7 B C6 ⟨_, N0, _, rfl⟩
  have C8 : CalE l.prog w K mg base "check_text" ["thing"] 1 (sp_check_text K) := ok_check_text A8 B ⟨_, N1, _, rfl⟩
  have C9 : CalE l.prog w K mg base "power_of_two" ["times"] 1 (sp_power_of_two K) := ok_power_of_two A9 B
  have C10 : CalE l.prog w K mg base "wide" ["step"] 2 (sp_wide K) := ok_wide A10 B C9
  have C11 : CalE l.prog w K mg base "first_end" ["step", "text", "begin"] 3 (sp_first_end K) := ok_first_end A11 B C10 C9
  have C12 : CalE l.prog w K mg base "cut_by" ["step", "text"] 4 (sp_cut_by K) := ok_cut_by A12 B C11
  have C13 : CalX l.prog w K mg base "read_row" ["step", "text"] 5 (sp_read_row K) := ok_read_row A13 B C7 C8 C12 T0
  have C14 : CalE l.prog w K mg base "_law_answer" ["_law_step_here", "_law_text"] 6 (sp__law_answer K) := ok__law_answer A14 B C13 T0 T1 E0 KT0_1
  have C15 : CalE l.prog w K mg base "_law_double" ["_law_times"] 1 (sp__law_double K) := ok__law_double A15 B
  have C16 : CalE l.prog w K mg base "_law_word" ["_law_step_here", "_law_number"] 2 (sp__law_word K) := ok__law_word A16 B C15
  have C17 : CalE l.prog w K mg base "_law_ends" ["_law_step_here", "_law_text"] 3 (sp__law_ends K) := ok__law_ends A17 B C16
  have C18 : CalE l.prog w K mg base "_law_signs" ["_law_h", "_law_many"] 2 (sp__law_signs K) := ok__law_signs A18 B C1
  exact ok_law F19 B C0 C1 C2 C14 C16 C4 C5 C18 C17
end St
open PySem PySem.W PyProof.Rows
set_option maxRecDepth 100000 in
set_option maxHeartbeats 0 in
theorem PySem.Challenge.cw_stepruns_k02_whole_rows_read_holds : PySem.Challenge.rw_stepruns_k02_whole_rows_read.Holds := by
  w_on; o_law; k_head; (case hw => w_witness2)
  k_fill
  refine L2.walk_of (l := PySem.Challenge.rw_stepruns_k02_whole_rows_read) (n := 63) (k := 7) (x := "_law_script") (CX := fun _ => L2.CX0) (sp := fun w => St.sp_law _) rfl (by decide) rfl ⟨rfl, by decide, by decide⟩ (fun w h Y => PySem.W.kIn_of Y) ?F (fun _ _ a ns hl _ hS => ⟨a, ns, rfl, hS, hl, fun _ => rfl⟩) (fun _ _ _ _ _ h => h)
  case F =>
    intro w mg fa h KX G hmg
    refine' St.all_mk KX G hmg ?a0 ?l0 ?c0 ?k0 ?a1 ?l1 ?c1 ?k1 ?a2 ?l2 ?c2 ?k2 ?a3 ?l3 ?c3 ?k3 ?a4 ?l4 ?c4 ?k4 ?a5 ?l5 ?c5 ?k5 ?a6 ?l6 ?c6 ?k6 ?a7 ?l7 ?c7 ?k7 ?a8 ?l8 ?c8 ?k8 ?a9 ?l9 ?c9 ?k9 ?a10 ?l10 ?c10 ?k10 ?a11 ?l11 ?c11 ?k11 ?a12 ?l12 ?c12 ?k12 ?a13 ?l13 ?c13 ?k13 ?a14 ?l14 ?c14 ?k14 ?a15 ?l15 ?c15 ?k15 ?a16 ?l16 ?c16 ?k16 ?a17 ?l17 ?c17 ?k17 ?a18 ?l18 ?c18 ?k18 ?a19 ?l19 ?c19 ?k19 ?n0 ?n1 ?un0 ?uq0 ?uk0 ?ub0 ?ut0 ?ud0 ?us0 ?un1 ?uq1 ?uk1 ?ub1 ?ut1 ?ud1 ?us1 ?eg0 ?ek0 ?ea0 ?en0 ?et0 ?em0 ?kt0_1 ?z_isinstance ?z_int ?z_bool ?z_str ?z_tuple ?z_list ?z_len ?z_range ?z_abs ?z_min ?z_max ?z_sum ?z_sorted ?z_enumerate ?z_zip ?z_set ?z_any ?z_all
    (case a0 => k_is)
    (case l0 => k_is)
    (case c0 => k_is)
    (case k0 => k_is)
    (case a1 => k_is)
    (case l1 => k_is)
    (case c1 => k_is)
    (case k1 => k_is)
    (case a2 => k_is)
    (case l2 => k_is)
    (case c2 => k_is)
    (case k2 => k_is)
    (case a3 => k_is)
    (case l3 => k_is)
    (case c3 => k_is)
    (case k3 => k_is)
    (case a4 => k_is)
    (case l4 => k_is)
    (case c4 => k_is)
    (case k4 => k_is)
    (case a5 => k_is)
    (case l5 => k_is)
    (case c5 => k_is)
    (case k5 => k_is)
    (case a6 => k_is)
    (case l6 => k_is)
    (case c6 => k_is)
    (case k6 => k_is)
    (case a7 => k_is)
    (case l7 => k_is)
    (case c7 => k_is)
    (case k7 => k_is)
    (case a8 => k_is)
    (case l8 => k_is)
    (case c8 => k_is)
    (case k8 => k_is)
    (case a9 => k_is)
    (case l9 => k_is)
    (case c9 => k_is)
    (case k9 => k_is)
    (case a10 => k_is)
    (case l10 => k_is)
    (case c10 => k_is)
    (case k10 => k_is)
    (case a11 => k_is)
    (case l11 => k_is)
    (case c11 => k_is)
    (case k11 => k_is)
    (case a12 => k_is)
    (case l12 => k_is)
    (case c12 => k_is)
    (case k12 => k_is)
    (case a13 => k_is)
    (case l13 => k_is)
    (case c13 => k_is)
    (case k13 => k_is)
    (case a14 => k_is)
    (case l14 => k_is)
    (case c14 => k_is)
    (case k14 => k_is)
    (case a15 => k_is)
    (case l15 => k_is)
    (case c15 => k_is)
    (case k15 => k_is)
    (case a16 => k_is)
    (case l16 => k_is)
    (case c16 => k_is)
    (case k16 => k_is)
    (case a17 => k_is)
    (case l17 => k_is)
    (case c17 => k_is)
    (case k17 => k_is)
    (case a18 => k_is)
    (case l18 => k_is)
    (case c18 => k_is)
    (case k18 => k_is)
    (case a19 => k_is)
    (case l19 => k_is)
    (case c19 => k_is)
    (case k19 => k_is)
    (case n0 => k_is)
    (case n1 => k_is)
    (case un0 => k_is)
    (case uq0 => k_exc)
    (case uk0 => k_is)
    (case ub0 => k_is)
    (case ut0 => k_is)
    (case ud0 => k_is)
    (case us0 => k_is)
    (case un1 => k_is)
    (case uq1 => k_exc)
    (case uk1 => k_is)
    (case ub1 => k_is)
    (case ut1 => k_is)
    (case ud1 => k_is)
    (case us1 => k_is)
    (case eg0 => k_is)
    (case ek0 => k_is)
    (case ea0 => k_is)
    (case en0 => k_is)
    (case et0 => k_is)
    (case em0 => k_is)
    (case kt0_1 => k_is)
    (case z_isinstance => k_is)
    (case z_int => k_is)
    (case z_bool => k_is)
    (case z_str => k_is)
    (case z_tuple => k_is)
    (case z_list => k_is)
    (case z_len => k_is)
    (case z_range => k_is)
    (case z_abs => k_is)
    (case z_min => k_is)
    (case z_max => k_is)
    (case z_sum => k_is)
    (case z_sorted => k_is)
    (case z_enumerate => k_is)
    (case z_zip => k_is)
    (case z_set => k_is)
    (case z_any => k_is)
    (case z_all => k_is)
#print axioms PySem.Challenge.cw_stepruns_k02_whole_rows_read_holds
