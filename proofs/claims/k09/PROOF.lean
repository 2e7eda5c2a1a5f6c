import PyProof.Rows.All
import Wide.All
import OpenK.AllK
import Wide.FinOn
import HandS.ForMost
import HandS.ForExc
import HandS.Wide
import HandS.WideBits
import HandS.IsInst
import HandS.Codes
import HandS.TupAny
import HandS.TupLen
import HandS.Style
import HandS.Zip
import HandS.Small
import HandS.ExcIs
import HandS.SortRule
import PyProof.Draws
import PyProof.EnumMake
import KE.SortData
import KE.DataMinMax
import PySem.Challenge.RW_stepruns_k09_whole_books_of_lengths
set_option Elab.async false
set_option linter.all false
set_option maxRecDepth 100000
set_option maxHeartbeats 4000000
namespace St
open PySem PySem.Spec PyProof.Rows L2
/-! ### names that are still the built-ins -/
structure Bn (mg : Str → Option Value) : Prop where
  isinstance_ : mg "isinstance" = none
  int_ : mg "int" = none
  bool_ : mg "bool" = none
  str_ : mg "str" = none
  tuple_ : mg "tuple" = none
  list_ : mg "list" = none
  len_ : mg "len" = none
  range_ : mg "range" = none
  abs_ : mg "abs" = none
  min_ : mg "min" = none
  max_ : mg "max" = none
  sum_ : mg "sum" = none
  sorted_ : mg "sorted" = none
  enumerate_ : mg "enumerate" = none
  zip_ : mg "zip" = none
  set_ : mg "set" = none
  any_ : mg "any" = none
  all_ : mg "all" = none
/-- the def st stands as x -/
def At (K : PySem.W.Frag) (mg : Str → Option Value) (x : Str) (st : Stmt) (ps : List Str) : Prop :=
  ∃ f fd, Fun K x x st f fd ∧ mg x = some (.ref f) ∧ Binds K fd ps []
/-- a def that keeps its promise, ready to be called by its name -/
structure Cal (P : Program) (w : World) (K : PySem.W.Frag) (mg : Str → Option Value) (base : Heap) (x : Str) (ps : List Str) (k : Nat) (sp : Sp) (f : Addr) (fd : FuncData) : Prop where
  ok : FnOk P w K mg base CX0 k f fd ps sp
  g : mg x = some (.ref f)
  kp : PySem.W.keepIn K (.ref f) = true
  b : Binds K fd ps []
def CalE (P : Program) (w : World) (K : PySem.W.Frag) (mg : Str → Option Value) (base : Heap) (x : Str) (ps : List Str) (k : Nat) (sp : Sp) : Prop := ∃ f fd, Cal P w K mg base x ps k sp f fd
/-! ### heaps -/
theorem same_new {H : Hp} {p : Addr} (h : H p = none) (o : HO) : Same H (upd H p o) := fun b u q => by rw [upd_ne (ne_of_none q h)]; exact q
theorem Same.seqT {K : PySem.W.Frag} {H H' : Hp} {a : Addr} {xs : List V} (e : Same H H') (h : SqT K H a xs) : SqT K H' a xs := by
  rcases h with (h | ⟨o, h⟩) | h
  · exact .inl (.inl (e _ _ h))
  · exact .inl (.inr ⟨o, e _ _ h⟩)
  · exact .inr h
theorem tyL {K : PySem.W.Frag} {H : Hp} {a : Addr} {xs : List V} (h : SqL K H a xs) : TyX K H (.ref a) (.type "list") := by
  rcases h with (h | ⟨o, h⟩) | ⟨o, its, n, h, c, _⟩
  · exact .base (.lst h)
  · exact .base (.frz h)
  · exact .kList h c
theorem tyT {K : PySem.W.Frag} {H : Hp} {a : Addr} {xs : List V} (h : SqT K H a xs) : TyX K H (.ref a) (.type "tuple") := by
  rcases h with (h | ⟨o, h⟩) | ⟨o, its, n, h, c, _⟩
  · exact .base (.tup h)
  · exact .fTuple h
  · exact .kTuple h c
theorem SqL.new {K : PySem.W.Frag} {H : Hp} {p : Addr} {xs : List V} : SqL K (upd H p (.lst xs)) p xs := .inl (.inl upd_same)
theorem SqT.new {K : PySem.W.Frag} {H : Hp} {p : Addr} {xs : List V} : SqT K (upd H p (.tup xs)) p xs := .inl (.inl upd_same)
theorem ne_new {H : Hp} {a p : Addr} {o : HO} (h : H a = some o) (hp : H p = none) : p ≠ a := fun e => by rw [e, h] at hp; cases hp
theorem iteDT {p : Prop} [Decidable p] {A B : Prop} (h : p) (a : A) : if decide p = true then A else B := by
  rw [decide_eq_true h]
  exact iteT a
theorem iteDF {p : Prop} [Decidable p] {A B : Prop} (h : ¬ p) (b : B) : if decide p = true then A else B := by
  rw [decide_eq_false h]
  exact iteF b
theorem iteND {p : Prop} [Decidable p] {A B : Prop} (h : ¬ p) (a : A) : if (!decide p) = true then A else B := by
  rw [decide_eq_false h]
  exact iteT a
theorem iteNF {p : Prop} [Decidable p] {A B : Prop} (h : p) (b : B) : if (!decide p) = true then A else B := by
  rw [decide_eq_true h]
  exact iteF b
/-! ### ways that meet: what is left is shown once, for all that the ways may bring (G is read off the first way) -/
theorem joinG1 {α : Type} {R : Prop} {G : α → Prop} (C : α → Prop) (main : (∀ x, C x → G x) → R) (k : ∀ x, C x → G x) : R := main k
theorem joinG2 {α β : Type} {R : Prop} {G : α → β → Prop} (C : α → β → Prop) (main : (∀ x y, C x y → G x y) → R) (k : ∀ x y, C x y → G x y) : R := main k
theorem joinG3 {α β γ : Type} {R : Prop} {G : α → β → γ → Prop} (C : α → β → γ → Prop) (main : (∀ x y z, C x y z → G x y z) → R) (k : ∀ x y z, C x y z → G x y z) : R := main k
theorem joinG4 {α β γ δ : Type} {R : Prop} {G : α → β → γ → δ → Prop} (C : α → β → γ → δ → Prop) (main : (∀ x y z u, C x y z u → G x y z u) → R) (k : ∀ x y z u, C x y z u → G x y z u) : R := main k
theorem to_nx {i : Nat} {v : V} {σ σ' : List (Option V)} {H : Hp} {Q : List (Option V) → Hp → Prop} (e : σ.set i (some v) = σ') (h : Q σ' H) : gName i v σ H Q := by
  show Q (σ.set i (some v)) H
  rw [e]
  exact h
theorem to_next {D : Ends} {σ σ' : List (Option V)} {H : Hp} (e : σ = σ') (h : D.nx σ' H) : tNext D σ H := by
  show D.nx σ H
  rw [e]
  exact h
/-! ### data of lists, tuples, numbers, texts -/
/-- data no deeper than n, no list of it too long -/
def OkD : Nat → PyData → Prop
  | _, .none => True | _, .bool _ => True | _, .int _ => True | _, .str _ => True
  | n + 1, .list ds => ds.length ≤ 1000000 ∧ ∀ d ∈ ds, OkD n d
  | n + 1, .tuple ds => ds.length ≤ 1000000 ∧ ∀ d ∈ ds, OkD n d
  | _, _ => False
theorem okA_nil {n : Nat} : ∀ d ∈ ([] : List PyData), OkD n d := fun d h => by cases h
theorem okA_cons {n : Nat} {a : PyData} {l : List PyData} (h : OkD n a) (t : ∀ d ∈ l, OkD n d) : ∀ d ∈ a :: l, OkD n d := fun d hd => by
  rcases List.mem_cons.mp hd with e | hd
  · exact e ▸ h
  · exact t d hd
theorem okd_list {n : Nat} {ds : List PyData} (h : ds.length ≤ 1000000) (t : ∀ d ∈ ds, OkD n d) : OkD (n + 1) (.list ds) := ⟨h, t⟩
theorem okd_tuple {n : Nat} {ds : List PyData} (h : ds.length ≤ 1000000) (t : ∀ d ∈ ds, OkD n d) : OkD (n + 1) (.tuple ds) := ⟨h, t⟩
theorem okA_strs {n : Nat} (ws : List Str) : ∀ d ∈ ws.map PyData.str, OkD n d := fun d hd => by
  obtain ⟨x, _, rfl⟩ := List.mem_map.mp hd
  cases n <;> trivial
theorem okA_ints {n : Nat} (ws : List Int) : ∀ d ∈ ws.map PyData.int, OkD n d := fun d hd => by
  obtain ⟨x, _, rfl⟩ := List.mem_map.mp hd
  cases n <;> trivial
theorem DpAll.length {K : PySem.W.Frag} {H : Hp} : ∀ {xs : List V} {ds : List PyData}, DpAll K H xs ds → xs.length = ds.length
  | _, _, .nil => rfl
  | _, _, .cons _ t => congrArg (· + 1) (DpAll.length t)
theorem DpAll.get {K : PySem.W.Frag} {H : Hp} : ∀ {xs : List V} {ds : List PyData} {i : Nat} {d : PyData}, DpAll K H xs ds → ds[i]? = some d → ∃ x, xs[i]? = some x ∧ Dp K H x d
  | _, _, _, _, .nil, e => by simp at e
  | _, _, 0, _, .cons h _, e => by
    cases Option.some.inj (by simpa using e)
    exact ⟨_, rfl, h⟩
  | _, _, i + 1, _, .cons _ t, e => by
    obtain ⟨x, h1, h2⟩ := DpAll.get (i := i) t (by simpa using e)
    exact ⟨x, by simpa using h1, h2⟩
mutual
theorem Dp.same {K : PySem.W.Frag} {H H' : Hp} (s : Same H H') : ∀ {v : V} {d : PyData}, Dp K H v d → Dp K H' v d
  | _, _, .non => .non
  | _, _, .bl b => .bl b
  | _, _, .int i => .int i
  | _, _, .str x => .str x
  | _, _, .lst h t => .lst (s.seq h) (DpAll.same s t)
  | _, _, .tup h t => .tup (St.Same.seqT s h) (DpAll.same s t)
theorem DpAll.same {K : PySem.W.Frag} {H H' : Hp} (s : Same H H') : ∀ {v : List V} {d : List PyData}, DpAll K H v d → DpAll K H' v d
  | _, _, .nil => .nil
  | _, _, .cons h t => .cons (Dp.same s h) (DpAll.same s t)
end
def isTL : PyData → Bool
  | .list _ => true | .tuple _ => true | _ => false
/-- a list or tuple of data, opened -/
theorem Dp.seq {K : PySem.W.Frag} {H : Hp} {v : V} {d : PyData} (h : Dp K H v d) (hd : isTL d = true) : ∃ (a : Addr) (xs : List V) (ds : List PyData), v = .ref a ∧ (d = .list ds ∧ SqL K H a xs ∨ d = .tuple ds ∧ SqT K H a xs) ∧ DpAll K H xs ds := by
  cases h with
  | lst h t => exact ⟨_, _, _, rfl, .inl ⟨rfl, h⟩, t⟩
  | tup h t => exact ⟨_, _, _, rfl, .inr ⟨rfl, h⟩, t⟩
  | non => cases hd
  | bl => cases hd
  | int => cases hd
  | str => cases hd
theorem canAll {n : Nat} : ∀ ds : List PyData, (∀ d ∈ ds, d.canLay0 = true ∧ d.depth ≤ n) → PyData.canLayAll0 ds = true ∧ PyData.depthAll ds ≤ n
  | [], _ => ⟨by simp only [PyData.canLayAll0], by simp only [PyData.depthAll]; omega⟩
  | d :: ds, h => by
    obtain ⟨a, b⟩ := h d List.mem_cons_self
    obtain ⟨c, e⟩ := canAll ds fun x hx => h x (List.mem_cons_of_mem _ hx)
    refine ⟨?_, ?_⟩
    · simp only [PyData.canLayAll0]
      rw [a, c]
      rfl
    · simp only [PyData.depthAll]
      omega
/-- as OkD, the texts of plain signs -/
def OkN : Nat → PyData → Prop
  | _, .none => True | _, .bool _ => True | _, .int _ => True | _, .str x => PyData.strOk x = true
  | n + 1, .list ds => ∀ d ∈ ds, OkN n d
  | n + 1, .tuple ds => ∀ d ∈ ds, OkN n d
  | _, _ => False
theorem ok_can : ∀ (n : Nat) (d : PyData), OkN n d → d.canLay0 = true ∧ d.depth ≤ n
  | _, .none, _ => ⟨by simp only [PyData.canLay0], by simp only [PyData.depth]; omega⟩
  | _, .bool _, _ => ⟨by simp only [PyData.canLay0], by simp only [PyData.depth]; omega⟩
  | _, .int _, _ => ⟨by simp only [PyData.canLay0], by simp only [PyData.depth]; omega⟩
  | n, .str x, h => by
    have h' : PyData.strOk x = true := by cases n <;> exact h
    exact ⟨by simp only [PyData.canLay0]; exact h', by simp only [PyData.depth]; omega⟩
  | n + 1, .list ds, h => by
    obtain ⟨a, b⟩ := canAll ds fun d hd => ok_can n d (h d hd)
    exact ⟨by simp only [PyData.canLay0]; exact a, by simp only [PyData.depth]; omega⟩
  | n + 1, .tuple ds, h => by
    obtain ⟨a, b⟩ := canAll ds fun d hd => ok_can n d (h d hd)
    exact ⟨by simp only [PyData.canLay0]; exact a, by simp only [PyData.depth]; omega⟩
  | 0, .list _, h => h.elim
  | 0, .tuple _, h => h.elim
  | 0, .dict _, h => h.elim
  | _ + 1, .dict _, h => h.elim
theorem ok_shaped {n : Nat} {d : PyData} (h : OkN n d) (hn : n ≤ 60) : SeqAt.shaped d = true := by
  obtain ⟨a, b⟩ := ok_can n d h
  unfold SeqAt.shaped
  rw [a, decide_eq_true (by omega)]
  rfl
theorem eqv_nil (ds : List PyData) : PyData.eqv (.list ds) (.list []) = ds.isEmpty := by
  cases ds <;> rfl
/-! ### a text times a number -/
def repS (x : Str) (n : Nat) : Str := ⟨((List.replicate n x.cps.toList).flatten).toArray⟩
theorem repS_one (x : Str) : repS x 1 = x := by
  unfold repS
  simp
theorem fold_app (l : List (Array Nat)) (a : Array Nat) : (l.foldl (· ++ ·) a).toList = a.toList ++ (l.map Array.toList).flatten := by
  induction l generalizing a with
  | nil => simp
  | cons x r ih => simp [List.foldl_cons, ih, List.append_assoc]
section
variable {X : Cx}
theorem op_mul_str : OpR X (binaryOp .Mult) (fun x y H Q => ∃ z n, x = .str z ∧ y = .int n ∧ n < 2 ^ 62 ∧ -(2 ^ 62) < n ∧ z.length * n.toNat ≤ 1000000 ∧ Q (.str (repS z n.toNat)) H) := by
  intro pins s σ H x y v u Q I rx ry h
  obtain ⟨z, n, rfl, rfl, h1, h2, h3, q⟩ := h
  obtain ⟨t, rfl⟩ := rx
  obtain ⟨t', rfl⟩ := ry
  refine P.mul_str (by
    have a : ¬ n < -(2 ^ 63) := by omega
    have b : ¬ n ≥ 2 ^ 63 := by omega
    rw [decide_eq_false a, decide_eq_false b]; rfl) (fun hn _ hb => ?_) (fun hn _ => ?_) ?_
  · have hp : 0 < n := by omega
    have e1 : (z.length : Int) * n ≤ 1000000 := by
      have e0 : ((n.toNat : Nat) : Int) = n := Int.toNat_of_nonneg (by omega)
      have e4 : ((z.length * n.toNat : Nat) : Int) ≤ 1000000 := Int.ofNat_le.mpr h3
      rw [Int.natCast_mul, e0] at e4
      exact e4
    have e2 : (2 ^ 63 - 1) / n < (z.length : Int) := hb
    have e3 : (2 ^ 63 - 1 : Int) < z.length * n := (Int.ediv_lt_iff_lt_mul hp).mp e2
    generalize (z.length : Int) * n = w at e1 e3
    omega
  · refine decide_eq_false ?_
    have z : sizeLine = 16777216 := sizeLine_eq
    omega
  · by_cases hn : n < 1
    · rw [if_pos hn]
      refine ⟨by decide, ?_⟩
      have e : n.toNat = 0 := by omega
      rw [e] at q
      exact ⟨.str _, H, I.tok _, ⟨_, rfl⟩, q⟩
    · rw [if_neg hn]
      by_cases hm : (n == 1 || z.length == 0) = true
      · rw [if_pos hm]
        have e : repS z n.toNat = z := by
          rw [Bool.or_eq_true] at hm
          rcases hm with hm | hm
          · have : n = 1 := by simpa using hm
            subst this
            exact repS_one z
          · have hz : z.cps.size = 0 := by simpa [Str.length] using hm
            obtain ⟨c⟩ := z
            have : c = #[] := Array.eq_empty_of_size_eq_zero hz
            subst this
            unfold repS
            simp
        rw [e] at q
        exact ⟨.str _, H, I, ⟨_, rfl⟩, q⟩
      · rw [if_neg hm]
        have e : (⟨(List.replicate n.toNat z.cps).foldl (· ++ ·) #[]⟩ : Str) = repS z n.toNat := by
          unfold repS
          congr 1
          apply Array.toList_inj.mp
          rw [fold_app]
          simp [List.map_replicate]
        rw [e]
        refine ⟨?_, ⟨.str _, H, I.tok _, ⟨_, rfl⟩, q⟩⟩
        rw [← e]
        refine fits_reps (decide_eq_false ?_)
        have z : sizeLine = 16777216 := sizeLine_eq
        omega
theorem ip_add_str : PIp X .Add (fun x y H Q => ∃ i j, x = .str i ∧ y = .str j ∧ i.length + j.length ≤ sizeLine ∧ Q (.str (i ++ j)) H) := iop_add_str
end
/-! ### walks over a text -/
theorem lc_str {x : Str} {g : TG} {tt : TT} {te : TE} {vs : List Nat} {σ : List (Option V)} {H1 : Hp} {D : Addr} {Qd : Hp → Prop} (Pv : Nat → Hp → Prop) (h0 : Pv 0 (upd H1 D (.lst [])))
    (hs : ∀ i c H, x.cps.toList[i]? = some c → Pv i H → g (.str ⟨#[c]⟩) (wipe σ vs) H fun σ2 H2 => wipe σ2 vs = wipe σ vs ∧ tt σ2 H2 fun b H3 =>
      if b = true then te σ2 H3 fun y H4 => ∃ acc, H4 D = some (.lst acc) ∧ acc.length < sizeLine ∧ Pv (i + 1) (upd H4 D (.lst (acc ++ [y]))) else Pv (i + 1) H3) (hd : ∀ H, Pv x.cps.size H → Qd H) :
    ∃ W : Nat → Nat → Hp → Prop, (∃ m, W 0 m (upd H1 D (.lst []))) ∧ ∀ i m H, W i m H →
      ((Its x).stop i H ∧ Qd H) ∨ ((Its x).go i H ∧ ∃ Nx : Hp → Prop, (∀ H', Nx H' → ∃ m', m' < m ∧ W (i + 1) m' H') ∧ ∀ v H', (Its x).yld i H v H' → g v (wipe σ vs) H' fun σ2 H2 => wipe σ2 vs = wipe σ vs ∧ tt σ2 H2 fun b H3 =>
        if b = true then te σ2 H3 fun y H4 => ∃ acc, H4 D = some (.lst acc) ∧ acc.length < sizeLine ∧ Nx (upd H4 D (.lst (acc ++ [y]))) else Nx H3) := by
  refine ⟨fun i m H => m = x.cps.size - i ∧ i ≤ x.cps.size ∧ Pv i H, ⟨x.cps.size, by simp, Nat.zero_le _, h0⟩, ?_⟩
  rintro i m H ⟨rfl, hi, p⟩
  by_cases hlt : i < x.cps.size
  · refine .inr ⟨hlt, Pv (i + 1), fun H' p' => ⟨x.cps.size - (i + 1), by omega, rfl, hlt, p'⟩, fun v H' y => ?_⟩
    obtain ⟨e, c, ec, ev⟩ := y
    subst e ev
    exact hs i c _ (by rw [Array.getElem?_toList]; exact ec) p
  · have e : i = x.cps.size := by omega
    subst e
    exact .inl ⟨Nat.le_refl _, hd H p⟩
theorem for_str {x : Str} {g : TG} {tb : TS} {D : Ends} {σ : List (Option V)} {H : Hp} (Pv : Nat → List (Option V) → Hp → Prop) (h0 : Pv 0 σ H)
    (hs : ∀ i c σ H, x.cps.toList[i]? = some c → Pv i σ H → g (.str ⟨#[c]⟩) σ H fun σ2 H2 => tb { D with nx := Pv (i + 1), ct := Pv (i + 1), bk := D.nx } σ2 H2) (hd : ∀ σ H, Pv x.cps.size σ H → D.nx σ H) :
    ∃ W : Nat → Nat → List (Option V) → Hp → Prop, (∃ m, W 0 m σ H) ∧ ∀ i m σ H, W i m σ H →
      ((Its x).stop i H ∧ D.nx σ H) ∨ ((Its x).go i H ∧ ∃ N : List (Option V) → Hp → Prop, (∀ σ' H', N σ' H' → ∃ m', m' < m ∧ W (i + 1) m' σ' H') ∧ ∀ v H', (Its x).yld i H v H' → g v σ H' fun σ2 H2 => tb { D with nx := N, ct := N, bk := D.nx } σ2 H2) := by
  refine ⟨fun i m σ H => m = x.cps.size - i ∧ i ≤ x.cps.size ∧ Pv i σ H, ⟨x.cps.size, by simp, Nat.zero_le _, h0⟩, ?_⟩
  rintro i m σ H ⟨rfl, hi, p⟩
  by_cases hlt : i < x.cps.size
  · refine .inr ⟨hlt, Pv (i + 1), fun σ' H' p' => ⟨x.cps.size - (i + 1), by omega, rfl, hlt, p'⟩, fun v H' y => ?_⟩
    obtain ⟨e, c, ec, ev⟩ := y
    subst e ev
    exact hs i c σ _ (by rw [Array.getElem?_toList]; exact ec) p
  · have e : i = x.cps.size := by omega
    subst e
    exact .inl ⟨Nat.le_refl _, hd σ H p⟩
/-! ### the rules with the written part K by name (within a comprehension X.K is not read off) -/
section
variable {X : Cx} (K : PySem.W.Frag)
theorem ix_list_ (h : X.K = K := by rfl) : IxR X (rIxL K) := h ▸ ix_list
theorem ix_tup_ (h : X.K = K := by rfl) : IxR X (rIxT K) := h ▸ ix_tup
theorem ix_seq_ (h : X.K = K := by rfl) : IxR X (rIx K) := h ▸ ix_seq
theorem sl_list_ (h : X.K = K := by rfl) : SlR X (rSlL K) := h ▸ sl_list
theorem sl_tupA_ (h : X.K = K := by rfl) : SlR X (rSlA K) := h ▸ sl_tupA
def rLenV (K : PySem.W.Frag) : List V → Hp → VK → Prop := fun xs H Q => ∃ x n, xs = [x] ∧ LenV K x H n ∧ Q (.int (n : Nat)) H
theorem call_len_ (h : X.K = K := by rfl) : CallR X (.builtin "len") (rLenV K) := h ▸ call_len
def rLenQ (K : PySem.W.Frag) : List V → Hp → VK → Prop := fun xs H Q => ∃ p ys, xs = [.ref p] ∧ (SqL K H p ys ∨ SqT K H p ys) ∧ Q (.int ys.length) H
theorem call_len_seq_ (h : X.K = K := by rfl) : CallR X (.builtin "len") (rLenQ K) := h ▸ call_len_seq
def rLenS : List V → Hp → VK → Prop := fun xs H Q => ∃ z, xs = [.str z] ∧ z.length ≤ sizeLine ∧ Q (.int z.length) H
theorem call_len_str_ : CallR X (.builtin "len") rLenS := call_len_str
theorem call_isi_ (h : X.K = K := by rfl) : CallR X (.builtin "isinstance") (rIsi K) := h ▸ call_isi
theorem call_isiT_ (h : X.K = K := by rfl) : CallR X (.builtin "isinstance") (rIsiT K) := h ▸ call_isiT
theorem cr_sum_ (hc : X.calm = true) (h : X.K = K := by rfl) : CallR X (.builtin "sum") (rSum K) := h ▸ cr_sum hc
theorem cr_max_ (hc : X.calm = true) (h : X.K = K := by rfl) : CallR X (.builtin "max") (rMax K) := h ▸ cr_max hc
theorem cr_min_ (hc : X.calm = true) (h : X.K = K := by rfl) : CallR X (.builtin "min") (rMin K) := h ▸ cr_min hc
theorem cr_all_ (hc : X.calm = true) (h : X.K = K := by rfl) : CallR X (.builtin "all") (rAll K) := h ▸ cr_all hc
theorem cr_any_ (hc : X.calm = true) (h : X.K = K := by rfl) : CallR X (.builtin "any") (rAny K) := h ▸ cr_any hc
def rTupOf (K : PySem.W.Frag) : List V → Hp → VK → Prop := fun xs H Q => ∃ p ys, xs = [.ref p] ∧ ((SqL K H p ys ∧ ∀ l, H l = none → Q (.ref l) (upd H l (.tup ys))) ∨ (SqT K H p ys ∧ Q (.ref p) H))
theorem call_tuple_of_ (h : X.K = K := by rfl) : CallR X (.type "tuple") (rTupOf K) := h ▸ call_tuple_of
def rListOf (K : PySem.W.Frag) : List V → Hp → VK → Prop := fun xs H Q => ∃ p ys, xs = [.ref p] ∧ (SqL K H p ys ∨ SqT K H p ys) ∧ ∀ l, H l = none → Q (.ref l) (upd H l (.lst ys))
theorem call_list_of_ (h : X.K = K := by rfl) : CallR X (.type "list") (rListOf K) := h ▸ call_list_of
theorem op_eqD_ (hu : X.A.units + 64 < cLine) (h : X.K = K := by rfl) : OpR X (compareOp .Eq) (rEqD K) := h ▸ op_eqD hu
theorem op_neD_ (hu : X.A.units + 64 < cLine) (h : X.K = K := by rfl) : OpR X (compareOp .NotEq) (rNeD K) := h ▸ op_neD hu
theorem op_in_seq_ (h : X.K = K := by rfl) : OpR X (compareOp .In) (rIn K false) := h ▸ op_in_seq
theorem op_notIn_seq_ (h : X.K = K := by rfl) : OpR X (compareOp .NotIn) (rIn K true) := h ▸ op_notIn_seq
def rJoinK (K : PySem.W.Frag) : V → List V → Hp → VK → Prop := fun x xs H Q => ∃ a p, ∃ ys : List Str, x = .str a ∧ xs = [.ref p] ∧ (SqL K H p (ys.map V.str) ∨ SqT K H p (ys.map V.str)) ∧ (ys.map (·.length)).sum + ys.length * a.length ≤ 16777216 ∧ Q (.str (Txt.join a ys)) H
theorem pe_join_ {o e : Expr} {to te : TE} {apos pos : Pos} (ho : PE X o to) (he : PE X e te) (hK : X.K = K := by rfl) (hs : starEach [e] X.env = [(false, eval e X.env)] := by rfl) (hbase : attributeBase o "join" X.env (eval o X.env) = eval o X.env := by rfl) (hline : (apos.endLine == pos.line) = true := by rfl) :
    PE X (.Call (.Attribute o "join" apos) [e] [] pos) (tM1 (rJoinK K) to te) := hK ▸ pe_join ho he hs hbase hline
theorem op_catA_ (h : X.K = K := by rfl) : OpR X (binaryOp .Add) (rCatA K) := h ▸ op_catA
end
/-! ### what the law's own draws keep -/
/-- a source of draws: at h a list of a number, a list of numbers at q, a number -/
structure LawH (H : Hp) (h q : Addr) : Prop where
  ne : h ≠ q
  src : ∃ (st ix : Int) (cells : List Int), H h = some (.lst [.int st, .ref q, .int ix]) ∧ H q = some (.lst (cells.map V.int)) ∧ cells.length ≤ 1000
/-- all but the source stands as it was -/
def Sm (h q : Addr) (H H' : Hp) : Prop := ∀ b o, H b = some o → b ≠ h → b ≠ q → H' b = some o
theorem Sm.refl (h q : Addr) (H : Hp) : Sm h q H H := fun _ _ e _ _ => e
theorem Sm.trans {h q : Addr} {H H1 H2 : Hp} (a : Sm h q H H1) (b : Sm h q H1 H2) : Sm h q H H2 := fun c o e n m => b c o (a c o e n m) n m
theorem Sm.of {h q : Addr} {H H' : Hp} (a : Same H H') : Sm h q H H' := fun c o e _ _ => a c o e
theorem Sm.seq {K : PySem.W.Frag} {h q : Addr} {H H' : Hp} {a : Addr} {xs : List V} (e : Sm h q H H') (n1 : a ≠ h) (n2 : a ≠ q) (z : SqL K H a xs) : SqL K H' a xs := by
  rcases z with (z | ⟨o, z⟩) | z
  · exact .inl (.inl (e _ _ z n1 n2))
  · exact .inl (.inr ⟨o, e _ _ z n1 n2⟩)
  · exact .inr z
theorem Sm.seqT {K : PySem.W.Frag} {h q : Addr} {H H' : Hp} {a : Addr} {xs : List V} (e : Sm h q H H') (n1 : a ≠ h) (n2 : a ≠ q) (z : SqT K H a xs) : SqT K H' a xs := by
  rcases z with (z | ⟨o, z⟩) | z
  · exact .inl (.inl (e _ _ z n1 n2))
  · exact .inl (.inr ⟨o, e _ _ z n1 n2⟩)
  · exact .inr z
theorem LawH.same {H H' : Hp} {h q : Addr} (L : LawH H h q) (a : Same H H') : LawH H' h q := by
  obtain ⟨n, st, ix, cells, e1, e2, e3⟩ := L
  exact ⟨n, st, ix, cells, a _ _ e1, a _ _ e2, e3⟩
theorem LawH.nn {H : Hp} {h q : Addr} (L : LawH H h q) : H h ≠ Option.none ∧ H q ≠ Option.none := by
  obtain ⟨n, st, ix, cells, e1, e2, e3⟩ := L
  exact ⟨fun z => by (rw [e1] at z; cases z), fun z => by (rw [e2] at z; cases z)⟩
theorem LawH.tup_ne {H : Hp} {h q t : Addr} {xs : List V} (L : LawH H h q) (e : H t = some (.tup xs)) : t ≠ h ∧ t ≠ q := by
  obtain ⟨n, st, ix, cells, e1, e2, e3⟩ := L
  exact ⟨fun z => by (rw [z, e1] at e; cases e), fun z => by (rw [z, e2] at e; cases e)⟩
theorem LawH.updL {H : Hp} {h q D : Addr} {l : List V} (L : LawH H h q) (n1 : D ≠ h) (n2 : D ≠ q) : LawH (upd H D (.lst l)) h q := by
  obtain ⟨ne, st, ix, cells, a, b, d⟩ := L
  exact ⟨ne, st, ix, cells, by rw [upd_ne (Ne.symm n1)]; exact a, by rw [upd_ne (Ne.symm n2)]; exact b, d⟩
theorem SqT.updL {K : PySem.W.Frag} {H : Hp} {a D : Addr} {xs l l' : List V} (e : H D = some (.lst l)) (z : SqT K H a xs) : SqT K (upd H D (.lst l')) a xs := by
  rcases z with (z | ⟨o, z⟩) | z
  · exact .inl (.inl (by rw [upd_ne (fun y => by rw [y, e] at z; cases z)]; exact z))
  · exact .inl (.inr ⟨o, by rw [upd_ne (fun y => by rw [y, e] at z; cases z)]; exact z⟩)
  · exact .inr z
end St
namespace St
open PySem PySem.Spec PyProof.Rows L2
/-! ### texts of the signs 0 and 1, words by a step -/
def sg (b : Bool) : Nat := if b then 49 else 48
theorem sg_inj {a b : Bool} (h : sg a = sg b) : a = b := by
  cases a <;> cases b <;> first | rfl | (exact absurd h (by decide))
/-- the text of some signs -/
def tx (l : List Bool) : Str := ⟨(l.map sg).toArray⟩
theorem tx_list (l : List Bool) : (tx l).cps.toList = l.map sg := by simp [tx]
theorem tx_len (l : List Bool) : (tx l).length = l.length := by simp [tx, Str.length]
theorem str_ext {a b : Str} (h : a.cps.toList = b.cps.toList) : a = b := by
  obtain ⟨a⟩ := a
  obtain ⟨b⟩ := b
  exact congrArg Str.mk (Array.toList_inj.mp h)
theorem app_list (a b : Str) : (a ++ b).cps.toList = a.cps.toList ++ b.cps.toList := by
  show (Str.append a b).cps.toList = _
  unfold Str.append
  simp
theorem tx_app (a b : List Bool) : tx a ++ tx b = tx (a ++ b) := by
  apply str_ext
  rw [app_list, tx_list, tx_list, tx_list, List.map_append]
theorem tx_inj {a b : List Bool} (h : tx a = tx b) : a = b := by
  have e : a.map sg = b.map sg := by rw [← tx_list, ← tx_list, h]
  exact (List.map_inj_right (fun _ _ h => sg_inj h)).mp e
theorem tx_one : ("1" : Str) = tx [true] := by decide +kernel
theorem tx_zero : ("0" : Str) = tx [false] := by decide +kernel
theorem tx_nil : ("" : Str) = tx [] := by decide +kernel
theorem tx_rep (b : Bool) (n : Nat) : repS (tx [b]) n = tx (List.replicate n b) := by
  apply str_ext
  unfold repS
  rw [tx_list]
  simp only [tx_list, List.map_replicate]
  induction n with
  | zero => rfl
  | succ n ih =>
    rw [List.replicate_succ, List.flatten_cons, ih, List.replicate_succ]
    rfl
/-- so many figures of a number by twos, the highest first -/
def fig (n : Nat) : Nat → List Bool
  | 0 => []
  | k + 1 => (n / 2 ^ k % 2 == 1) :: fig n k
theorem fig_len (n k : Nat) : (fig n k).length = k := by
  induction k with
  | zero => rfl
  | succ k ih => rw [fig, List.length_cons, ih]
/-- what figures are worth -/
def worth : List Bool → Nat
  | [] => 0
  | b :: r => (if b then 2 ^ r.length else 0) + worth r
theorem worth_fig (n k : Nat) : worth (fig n k) = n % 2 ^ k := by
  induction k with
  | zero => simp [fig, worth, Nat.mod_one]
  | succ k ih =>
    rw [fig, worth, ih, fig_len, Nat.pow_succ, Nat.mod_mul]
    have := Nat.mod_two_eq_zero_or_one (n / 2 ^ k)
    rcases this with h | h <;> rw [h] <;> simp <;> omega
theorem worth_lt (l : List Bool) : worth l < 2 ^ l.length := by
  induction l with
  | nil => simp [worth]
  | cons b r ih =>
    rw [worth, List.length_cons, Nat.pow_succ]
    split <;> omega
/-- the least number of figures for all rests -/
def wideN (m : Nat) : Nat := if m ≤ 1 then 0 else Nat.log2 (m - 1) + 1
theorem wide_le (m : Nat) : m ≤ 2 ^ wideN m := by
  unfold wideN
  split
  · omega
  · have := Nat.lt_log2_self (n := m - 1)
    omega
theorem wide_lt (m d : Nat) (h : d < wideN m) : 2 ^ d < m := by
  unfold wideN at h
  split at h
  · omega
  · have h1 := Nat.log2_self_le (n := m - 1) (by omega)
    have h2 : 2 ^ d ≤ 2 ^ (m - 1).log2 := Nat.pow_le_pow_right (by decide) (by omega)
    omega
theorem wide_eq {m c : Nat} (h1 : m ≤ 2 ^ c) (h2 : ∀ d, d < c → 2 ^ d < m) : wideN m = c := by
  rcases Nat.lt_trichotomy (wideN m) c with h | h | h
  · have a := h2 _ h
    have b := wide_le m
    omega
  · exact h
  · have a := wide_lt m c h
    omega
theorem wide_64 {m : Nat} (h : m ≤ 64) : wideN m ≤ 6 := by
  refine Nat.not_lt.mp fun c => ?_
  have := wide_lt m 6 c
  omega
def shortN (m : Nat) : Nat := 2 ^ wideN m - m
theorem short_lt {m : Nat} (h : 1 ≤ m) : shortN m < m := by
  unfold shortN
  have h1 := wide_le m
  cases e : wideN m with
  | zero =>
    rw [e] at h1
    simp at h1
    simp
    omega
  | succ c =>
    have h2 := wide_lt m c (by omega)
    rw [Nat.pow_succ]
    omega
theorem short_zero {m : Nat} (h : wideN m = 0) (h1 : 1 ≤ m) : m = 1 := by
  have := wide_le m
  rw [h] at this
  simp at this
  omega
/-- the word for a rest -/
def restB (m r : Nat) : List Bool := if r < shortN m then fig r (wideN m - 1) else fig (r + shortN m) (wideN m)
/-- the word for a number -/
def wordB (m n : Nat) : List Bool := List.replicate (n / m) true ++ false :: restB m (n % m)
theorem rest_len (m r : Nat) : (restB m r).length = if r < shortN m then wideN m - 1 else wideN m := by
  unfold restB
  split <;> rw [fig_len]
theorem rest_len_le (m r : Nat) : (restB m r).length ≤ wideN m := by
  rw [rest_len]
  split <;> omega
theorem word_len (m n : Nat) : (wordB m n).length = n / m + 1 + (restB m (n % m)).length := by
  unfold wordB
  simp
  omega
/-- a place of a text -/
theorem cut_tx (l : List Bool) (i j : Nat) : cutS (tx l) (some (i : Int)) (some (j : Int)) = tx ((l.drop i).take (j - i)) := by
  apply str_ext
  unfold cutS
  rw [tx_list, tx_len, HT.sIx_nat, HT.sIx_nat, tx_list]
  simp only [List.map_take, List.map_drop]
  by_cases h : i ≤ l.length
  · rw [Nat.min_eq_left h]
    by_cases h2 : j ≤ l.length
    · rw [Nat.min_eq_left h2]
    · rw [Nat.min_eq_right (show l.length ≤ j by omega)]
      rw [List.take_of_length_le (by simp), List.take_of_length_le (by simp; omega)]
  · rw [Nat.min_eq_right (show l.length ≤ i by omega)]
    have e1 : List.drop l.length (l.map sg) = [] := List.drop_eq_nil_of_le (by simp)
    have e2 : List.drop i (l.map sg) = [] := List.drop_eq_nil_of_le (by simp; omega)
    rw [e1, e2]
    simp
theorem cut_to (l : List Bool) (j : Nat) : cutS (tx l) none (some (j : Int)) = tx (l.take j) := by
  have := cut_tx l 0 j
  have e : cutS (tx l) none (some (j : Int)) = cutS (tx l) (some ((0 : Nat) : Int)) (some (j : Int)) := by
    unfold cutS
    have e0 : HT.sIx (tx l).length 0 (some ((0 : Nat) : Int)) = 0 := by rw [HT.sIx_nat, Nat.min_eq_left (Nat.zero_le _)]
    rw [e0, HT.sIx_none]
  rw [e, this, List.drop_zero, Nat.sub_zero]
theorem cut_from (l : List Bool) (i : Nat) : cutS (tx l) (some (i : Int)) none = tx (l.drop i) := by
  apply str_ext
  unfold cutS
  rw [tx_list, tx_len, HT.sIx_nat, HT.sIx_none, tx_list]
  simp only [List.map_drop]
  by_cases h : i ≤ l.length
  · rw [Nat.min_eq_left h, List.take_of_length_le (by simp)]
  · rw [Nat.min_eq_right (show l.length ≤ i by omega)]
    have e1 : List.drop l.length (l.map sg) = [] := List.drop_eq_nil_of_le (by simp)
    have e2 : List.drop i (l.map sg) = [] := List.drop_eq_nil_of_le (by simp; omega)
    rw [e1, e2]
    simp
/-- the sign at a place, as it is asked: text[at:at + 1] == "1" -/
theorem cut_at (l : List Bool) (i : Nat) : cutS (tx l) (some (i : Int)) (some ((i : Int) + 1)) = tx (l[i]?.toList) := by
  have := cut_tx l i (i + 1)
  rw [show ((i + 1 : Nat) : Int) = (i : Int) + 1 by omega] at this
  rw [this, Nat.add_sub_cancel_left]
  congr 1
  cases h : l[i]? with
  | none =>
    rw [List.drop_eq_nil_of_le (List.getElem?_eq_none_iff.mp h)]
    rfl
  | some b =>
    obtain ⟨hi, e⟩ := List.getElem?_eq_some_iff.mp h
    rw [List.drop_eq_getElem_cons hi, e]
    rfl
theorem at_is (o : Option Bool) : (tx o.toList = tx [true]) ↔ o = some true := by
  constructor
  · intro h
    have := tx_inj h
    cases o with
    | none => cases this
    | some b => exact congrArg some (List.cons.inj this).1
  · rintro rfl
    rfl
theorem fig_get (n k i : Nat) (h : i < k) : (fig n k)[i]? = some (n / 2 ^ (k - 1 - i) % 2 == 1) := by
  induction k generalizing i with
  | zero => omega
  | succ k ih =>
    cases i with
    | zero => simp [fig]
    | succ i =>
      rw [fig, List.getElem?_cons_succ, ih i (by omega)]
      rw [show k + 1 - 1 - (i + 1) = k - 1 - i by omega]
theorem take_more {α : Type} {l : List α} {i : Nat} {x : α} (h : l[i]? = some x) : l.take (i + 1) = l.take i ++ [x] := by
  rw [List.take_add_one, h]
  rfl
theorem fig_take (n k i : Nat) (h : i < k) : (fig n k).take (i + 1) = (fig n k).take i ++ [n / 2 ^ (k - 1 - i) % 2 == 1] := take_more (fig_get n k i h)
theorem bit_int (n d : Nat) : (((n : Int) / ((2 ^ d : Nat) : Int) % 2 = 1)) ↔ (n / 2 ^ d % 2 == 1) = true := by
  rw [beq_iff_eq, ← Int.natCast_ediv]
  omega
end St
namespace St
open PySem PySem.Spec PyProof.Rows L2
/-! ### books of lengths -/
def roomN (ls : List Nat) : Nat := (ls.map fun l => 2 ^ (60 - l)).sum
/-- lengths as the document wants them -/
structure IsLens (ls : List Nat) : Prop where
  l1 : 1 ≤ ls.length
  l40 : ls.length ≤ 40
  l60 : ∀ l ∈ ls, l ≤ 60
theorem geti_nat {ns : List Nat} {i : Nat} {x : V} (hx : (ns.map fun n => V.int (n : Nat))[i]? = some x) : ∃ z, ns[i]? = some z ∧ x = V.int (z : Nat) := by
  rw [List.getElem?_map] at hx
  cases e : ns[i]? with
  | none => rw [e] at hx; cases hx
  | some z => rw [e] at hx; exact ⟨z, rfl, (Option.some.inj hx).symm⟩
theorem sum_natInt (f : Nat → Nat) (ns : List Nat) : (ns.map fun n => ((f n : Nat) : Int)).sum = (((ns.map f).sum : Nat) : Int) := by
  induction ns with
  | nil => rfl
  | cons a r ih =>
    rw [List.map_cons, List.sum_cons, List.map_cons, List.sum_cons, ih, Int.natCast_add]
/-! the order by lengths, then by numbers; the words -/
def lexL (a b : Nat × Nat) : Prop := a.1 < b.1 ∨ (a.1 = b.1 ∧ a.2 < b.2)
structure IsOrd (ls : List Nat) (o : List (Nat × Nat)) : Prop where
  perm : o.Perm ls.zipIdx
  pw : o.Pairwise lexL
theorem pwl_ext : ∀ a b : List (Nat × Nat), a.Pairwise lexL → b.Pairwise lexL → (∀ x, x ∈ a ↔ x ∈ b) → a = b
  | [], [], _, _, _ => rfl
  | [], y :: b, _, _, h => absurd ((h y).mpr (List.mem_cons_self ..)) (by simp)
  | x :: a, [], _, _, h => absurd ((h x).mp (List.mem_cons_self ..)) (by simp)
  | x :: a, y :: b, ha, hb, h => by
    obtain ⟨h1, h2⟩ := List.pairwise_cons.mp ha
    obtain ⟨h3, h4⟩ := List.pairwise_cons.mp hb
    have asym : ∀ p q : Nat × Nat, lexL p q → lexL q p → False := fun p q u v => by
      unfold lexL at u v
      omega
    have exy : x = y := by
      rcases List.mem_cons.mp ((h x).mp (List.mem_cons_self ..)) with e | e
      · exact e
      rcases List.mem_cons.mp ((h y).mpr (List.mem_cons_self ..)) with e' | e'
      · exact e'.symm
      exact (asym _ _ (h3 x e) (h1 y e')).elim
    subst exy
    rw [pwl_ext a b h2 h4 fun z => ?_]
    constructor
    · intro hz
      rcases List.mem_cons.mp ((h z).mp (List.mem_cons_of_mem _ hz)) with e | e
      · exact (asym x x (e ▸ h1 z hz) (e ▸ h1 z hz)).elim
      · exact e
    · intro hz
      rcases List.mem_cons.mp ((h z).mpr (List.mem_cons_of_mem _ hz)) with e | e
      · exact (asym x x (e ▸ h3 z hz) (e ▸ h3 z hz)).elim
      · exact e
theorem IsOrd.one {ls : List Nat} {o p : List (Nat × Nat)} (h : IsOrd ls o) (h' : IsOrd ls p) : o = p :=
  pwl_ext o p h.pw h'.pw fun x => (h.perm.mem_iff).trans (h'.perm.mem_iff).symm
/-- the words, each at its number -/
def wordsO : List (Nat × Nat) → Nat → List (List Bool) → List (List Bool)
  | [], _, f => f
  | (l, n) :: r, c, f => wordsO r (c + 2 ^ (60 - l)) (f.set n (fig (c / 2 ^ (60 - l)) l))
theorem fig_pre (n : Nat) : ∀ (k l : Nat), l ≤ k → (fig n k).take l = fig (n / 2 ^ (k - l)) l := by
  intro k l h
  apply List.ext_getElem?
  intro i
  by_cases hi : i < l
  · rw [List.getElem?_take_of_lt hi, fig_get n k i (by omega), fig_get _ l i hi, Nat.div_div_eq_div_mul, ← Nat.pow_add, show k - l + (l - 1 - i) = k - 1 - i by omega]
  · rw [List.getElem?_eq_none (by rw [List.length_take, fig_len]; omega), List.getElem?_eq_none (by rw [fig_len]; omega)]
/-- two words of one book, the earlier one shorter or as long -/
theorem book_pre {c d l m : Nat} (hl : l ≤ m) (hm : m ≤ 60) (h : c + 2 ^ (60 - l) ≤ d) (hd : d < 2 ^ 60) : (fig (d / 2 ^ (60 - m)) m).take l ≠ fig (c / 2 ^ (60 - l)) l := by
  intro e
  rw [fig_pre _ m l hl, Nat.div_div_eq_div_mul, ← Nat.pow_add, show 60 - m + (m - l) = 60 - l by omega] at e
  have e2 := congrArg worth e
  rw [worth_fig, worth_fig] at e2
  have hp : 0 < 2 ^ (60 - l) := Nat.pow_pos (by decide)
  have h60 : 2 ^ 60 = 2 ^ l * 2 ^ (60 - l) := by rw [← Nat.pow_add]; congr 1; omega
  have b1 : d / 2 ^ (60 - l) < 2 ^ l := (Nat.div_lt_iff_lt_mul hp).mpr (by rw [← h60]; exact hd)
  have b2 : c / 2 ^ (60 - l) + 1 ≤ d / 2 ^ (60 - l) := by
    rw [← Nat.add_div_right _ hp]
    exact Nat.div_le_div_right h
  rw [Nat.mod_eq_of_lt b1, Nat.mod_eq_of_lt (by omega)] at e2
  omega
/-! sorting pairs on the heap -/
def kOf (H : Hp) : V → Int × Int
  | .ref t => match H t with
    | some (.tup [.int i, .int j]) => (i, j)
    | _ => (0, 0)
  | _ => (0, 0)
theorem kOf_at {H : Hp} {t : Addr} {i j : Int} (h : H t = some (.tup [.int i, .int j])) : kOf H (.ref t) = (i, j) := by
  simp only [kOf, h]
def pairOf (H : Hp) (x : V) : Nat × Nat := ((kOf H x).1.toNat, (kOf H x).2.toNat)
theorem pairOf_at {H : Hp} {t : Addr} {i j : Nat} (h : H t = some (.tup [.int (i : Nat), .int (j : Nat)])) : pairOf H (.ref t) = (i, j) := by
  unfold pairOf
  rw [kOf_at h]
  rfl
/-- vs are tuples of these pairs of numbers -/
theorem PrO_map {H : Hp} {xs : List V} {ps : List (Nat × Nat)} (hl : xs.length = ps.length) (h : ∀ (i : Nat) (p : Nat × Nat), ps[i]? = some p → ∃ t, xs[i]? = some (V.ref t) ∧ H t = some (.tup [.int (p.1 : Nat), .int (p.2 : Nat)])) : xs.map (pairOf H) = ps := by
  apply List.ext_getElem?
  intro i
  rw [List.getElem?_map]
  cases e : ps[i]? with
  | none =>
    have := List.getElem?_eq_none_iff.mp e
    rw [List.getElem?_eq_none (by omega)]
    rfl
  | some p =>
    obtain ⟨t, h1, h2⟩ := h i p e
    rw [h1]
    show some (pairOf H (.ref t)) = _
    rw [pairOf_at h2]
theorem ord_of {H : Hp} {xs ys : List V} {ls : List Nat} (hm : xs.map (pairOf H) = ls.zipIdx) (hx : ∀ x ∈ xs, ∃ t, ∃ i j : Nat, x = V.ref t ∧ H t = some (.tup [.int (i : Nat), .int (j : Nat)])) (hs : SrtO.Srtd (ltP (kOf H)) ys) (hp : SrtO.Stb (ltP (kOf H)) ys xs) : IsOrd ls (ys.map (pairOf H)) := by
  have pm : (ys.map (pairOf H)).Perm ls.zipIdx := by
    rw [← hm]
    exact hp.perm.map _
  refine ⟨pm, ?_⟩
  have p0 : ls.zipIdx.Pairwise (fun p q => p.2 ≠ q.2) := List.pairwise_map.mp (by rw [List.zipIdx_map_snd]; exact List.nodup_range')
  have p1 : (ys.map (pairOf H)).Pairwise (fun p q => p.2 ≠ q.2) := (pm.pairwise_iff (fun h => Ne.symm h)).mpr p0
  refine List.pairwise_map.mpr ?_
  refine List.Pairwise.imp_of_mem ?_ (hs.and (List.pairwise_map.mp p1))
  rintro x y hxm hym ⟨h1, h2⟩
  obtain ⟨t, i, j, rfl, e1⟩ := hx x (hp.perm.mem_iff.mp hxm)
  obtain ⟨u, i', j', rfl, e2⟩ := hx y (hp.perm.mem_iff.mp hym)
  have h3 := SrtO.lexB_no.mp h1
  rw [kOf_at e1, kOf_at e2] at h3
  rw [pairOf_at e1, pairOf_at e2] at h2 ⊢
  unfold lexL
  dsimp only at *
  omega
theorem set_map_tx (f : List (List Bool)) (n : Nat) (w : List Bool) : ((f.map fun w => V.str (tx w)).set n (V.str (tx w))) = (f.set n w).map fun w => V.str (tx w) := by
  rw [List.map_set]
theorem rep_empty (n : Nat) : (List.replicate n [V.str ("" : Str)]).flatten = (List.replicate n ([] : List Bool)).map fun w => V.str (tx w) := by
  rw [tx_nil]
  induction n with
  | zero => rfl
  | succ n ih =>
    rw [List.replicate_succ, List.flatten_cons, ih, List.replicate_succ, List.map_cons]
    rfl
theorem Sm.fresh {h q F : Addr} {H H' : Hp} (S : Sm h q H H') (L : LawH H' h q) (n : H' F = none) : H F = none ∧ F ≠ h ∧ F ≠ q := by
  obtain ⟨a, b⟩ := L.nn
  have n1 : F ≠ h := fun z => a (z ▸ n)
  have n2 : F ≠ q := fun z => b (z ▸ n)
  refine ⟨?_, n1, n2⟩
  cases e : H F with
  | none => rfl
  | some o => rw [S _ _ e n1 n2] at n; cases n
theorem Sm.updL {h q F : Addr} {H H' : Hp} {o : HO} (S : Sm h q H H') (n : H F = none) : Sm h q H (upd H' F o) := fun b u hb n1 n2 => by
  rw [upd_ne (fun z => by rw [z, n] at hb; cases hb)]
  exact S b u hb n1 n2
end St
namespace St
open PySem PySem.Spec PyProof.Rows L2
/-! ### enumerate over a tuple, over a text -/
theorem meets_enumT (l : Addr) (items : Array Value) (n : Nat) (dct : Option Addr) (sl : Array (Option Value)) :
    Meets (Builtin.«enumerate.__new__» ⟨[.type "enumerate", .ref l], []⟩) (fun _ R s => s.heap.get? l = some { cls := .type "tuple", dict := dct, data := .seq items n, slots := sl } ∧
      R (.ok (.ret (.ref (s.heap.push { cls := .type "tuple_iterator", data := .fields #[.ref l, .int 0 0] }).objs.size)))
        { s with heap := (s.heap.push { cls := .type "tuple_iterator", data := .fields #[.ref l, .int 0 0] }).push { cls := .type "enumerate", data := .fields #[.none, .bool false, .ref s.heap.objs.size, rawInt 0, .none, .none] } }) :=
  .of_wp fun prog w A R s h => by
    obtain ⟨hp, g, d, tk, os⟩ := s; obtain ⟨hl, h⟩ := h
    have hsub := sub_enumerate
    have hL : Heap.IsTuple (Shared.heap ⟨hp, g, d, tk, os⟩) l items := ⟨_, hl, rfl, n, rfl⟩
    wp_walk using AutoSeq1.wpAny_loadPart' hl
    refine wpAny_stack_any fun st => wpAny_pure ?_
    split
    · rename_i c _ _ _ _ _
      cases (c == Value.type "enumerate")
      · wp_walk using AutoSeq1.wpAny_loadPart' hl, wpAny_pyIter_tuple hL
        exact ⟨_, rfl, h⟩
      · wp_walk using AutoSeq1.wpAny_loadPart' hl, wpAny_pyIter_tuple hL
        exact ⟨_, rfl, h⟩
    · wp_walk using AutoSeq1.wpAny_loadPart' hl, wpAny_pyIter_tuple hL
      exact ⟨_, rfl, h⟩
section
variable {prog : Program} {w : World} {A : Around} {E : Value → Shared → Prop} {s : Shared}
theorem call_enumT {l : Addr} {items : Array Value} {Q : Value → Shared → Prop} (hL : s.heap.IsTuple l items)
    (h : ∀ h', IsEnum h' (s.heap.objs.size + 1) s.heap.objs.size 0 .none → h'.IsTupleIter s.heap.objs.size l 0 → h'.objs.size = s.heap.objs.size + 2 →
      (∀ b o, s.heap.get? b = some o → h'.get? b = some o) → Q (.ref (s.heap.objs.size + 1)) { s with heap := h' }) :
    wpAny (model prog w) A (call (.type "enumerate") [.ref l]) Q E s := by
  obtain ⟨⟨c, dct, dt, sl⟩, hl, hc, n, hd⟩ := hL
  replace hc : c = .type "tuple" := hc
  replace hd : dt = .seq items n := hd
  subst hc hd
  refine callType_new F.called_enumerate (by decide) (F.typeCall_enumerate_1 _) (F.newCall_enumerate_1 _) (fun obj => F.args_object_init_2 obj _) F.entry_enumerate_new
    (meets_enumT l items n dct sl) ⟨hl, ?_⟩
  have hz : (s.heap.push { cls := .type "tuple_iterator", data := .fields #[.ref l, .int 0 0] }).objs.size = s.heap.objs.size + 1 := Heap.size_push ..
  show _ ∧ _
  rw [hz]
  have he : IsEnum ((s.heap.push { cls := .type "tuple_iterator", data := .fields #[.ref l, .int 0 0] }).push
      { cls := .type "enumerate", data := .fields #[.none, .bool false, .ref s.heap.objs.size, rawInt 0, .none, .none] }) (s.heap.objs.size + 1) s.heap.objs.size 0 .none := by
    have := Heap.get?_push_size (s.heap.push { cls := .type "tuple_iterator", data := .fields #[.ref l, .int 0 0] })
      (o := { cls := .type "enumerate", data := .fields #[.none, .bool false, .ref s.heap.objs.size, rawInt 0, .none, .none] }) rfl
    rw [hz] at this; exact this
  refine ⟨⟨_, he, rfl⟩, h _ he ⟨_, Heap.get?_push_of_some _ (Heap.get?_push_size _ rfl), rfl, rfl⟩ (by rw [Heap.size_push, hz]) fun b o x => Heap.get?_push_of_some _ (Heap.get?_push_of_some _ x)⟩
end
theorem drawsT {prog : Program} {w : World} {A : Around} (hh : A.handled = none) (it l : Addr) (hne : l ≠ it) (items : Array Value) :
    Draws prog w A it [it, l] items.size (fun i v => items[i]? = some v) (fun i h => h.IsTupleIter it l i ∧ h.IsTuple l items) where
  live := fun _ _ st => let ⟨o, ho, _⟩ := st.1; ⟨o, ho⟩
  frame := fun _ _ _ st hk => ⟨st.1.at fun o e => hk it (by simp) o e, let ⟨o, ho, r⟩ := st.2; ⟨o, hk l (by simp) o ho, r⟩⟩
  item := fun i s Q E hi st hQ => by
    refine RZ.nextOf_tuple_item st.1 st.2 (x := items[i]) (by simp [hi]) fun h' hit' hs' => ?_
    obtain ⟨o, ho, r⟩ := st.2
    exact hQ _ h' s.toks (by simp [hi]) ⟨hit', o, hs'.extBut l o hne ho, r⟩ hs'
  done := fun s Q E st hE => RZ.nextOf_tuple_end hh st.1 st.2 (by simp) hE
theorem enumT_end {prog : Program} {w : World} {A : Around} {E : Value → Shared → Prop} {s : Shared} {e it a : Addr} {i : Nat} {items : Array Value} {z : Int} {old : Value} {Q : Option Value → Shared → Prop} (hh : A.in1.handled = none)
    (he : IsEnum s.heap e it z old) (hit : s.heap.IsTupleIter it a i) (ht : s.heap.IsTuple a items) (hx : items[i]? = none)
    (hQ : ∀ h', Heap.ExtBut it s.heap h' → Q none { s with heap := h' }) : wpAny (model prog w) A (pyNext (.ref e)) Q E s := by
  have hT : s.TypeIs (.ref e) "enumerate" := ⟨_, he, rfl⟩
  unfold pyNext
  refine wpAny_bind (wpAny_attempt (wpAny_callSpecial?_slot (name := Str.ofString "__next__") hT F.slot_enumerate_next
    (wpAny_call_entry F.slot_enumerate_next hT F.entry_enumerate_next ?_ (F.args_enumerate_next_1 _))))
  show wpAny _ _ (field (.ref e) 2 >>= _) _ _ _
  refine wpAny_bind (wpAny_field he rfl (x := .ref it) rfl ?_)
  refine wpAny_bind (RZ.nextOf_tuple_end hh hit ht hx fun h' x he' hx' => ?_)
  obtain ⟨o, ho, hc⟩ := hx'
  refine wpAny_bind (wpAny_isInstance (T := "StopIteration") (b := true) ⟨o, ho, hc⟩ isSubtype_stop ?_)
  exact wpAny_pure (hQ _ he')
/-- the tuple at a, each item in a new pair -/
def IteT (K : PySem.W.Frag) (a : Addr) : It :=
  ⟨fun i H => ∃ (xs : List V) (x : V), SqT K H a xs ∧ xs[i]? = some x, fun i H v H' => ∃ T x, v = .ref T ∧ H T = none ∧ H' = upd H T (.tup [.int (i : Nat), x]) ∧ ∀ xs, SqT K H a xs → xs[i]? = some x, fun i H => ∃ xs : List V, SqT K H a xs ∧ xs.length ≤ i⟩
theorem turn_enumT {P : Program} {w : World} {K : PySem.W.Frag} {elts : List Expr} {kk : Nat} {tpos : Pos} (a e it : Addr) :
    Turn P w K (.Tuple elts kk tpos) (IteT K a) [e, it] e (fun i h => (∃ old, IsEnum h e it ((i : Nat) : Int) old) ∧ h.IsTupleIter it a i ∧ e ≠ it) where
  mem := by simp
  obj := fun i h st b hb => by
    obtain ⟨⟨old, he⟩, ⟨o, ho, hc, hd⟩, _⟩ := st
    have e' : b = e ∨ b = it := by simpa using hb
    rcases e' with z | z
    · rw [z]; exact ⟨_, he, fun v q => nomatch q⟩
    · rw [z]; exact ⟨o, ho, fun v q => by rw [hd] at q; cases q⟩
  keep := fun i h h' st k => let ⟨⟨old, he⟩, hi, hne⟩ := st; ⟨⟨old, k e (by simp) _ he⟩, hi.at fun o q => k it (by simp) o q, hne⟩
  item := by
    intro X hP hw hK hc i pins s σ H E I hf st hg
    subst hP hw hK
    obtain ⟨⟨old, he⟩, hit, hne⟩ := st
    obtain ⟨xs, x, hq, hx⟩ := hg
    obtain ⟨its, rv, p, hz⟩ := I.tuple hq
    obtain ⟨u, hu, ru⟩ := rv.get hx
    have hel : e < s.heap.objs.size := Heap.lt_size he
    have hil : it < s.heap.objs.size := by obtain ⟨_, q, _⟩ := hit; exact Heap.lt_size q
    have nai : a ≠ it := fun z => by
      obtain ⟨o1, q1, c1, _⟩ := p
      obtain ⟨o2, q2, c2, _⟩ := hit
      rw [z, q2] at q1
      rw [Option.some.inj q1, c1] at c2
      exact absurd (Value.type.inj c2) (by decide)
    have nae : a ≠ e := fun z => by
      obtain ⟨o1, q1, c1, _⟩ := p
      have q2 : s.heap.get? e = _ := he
      rw [z, q2] at q1
      rw [← Option.some.inj q1] at c1
      exact absurd (Value.type.inj c1) (by decide)
    have hlt : i < its.toArray.size := by
      have := (List.getElem?_eq_some_iff.mp hu).1
      simpa using this
    refine wpAny_pyNext_enum_itemD (drawsT (show X.A.in1.handled = none from I.ok.hd hc) it a nai its.toArray) he ⟨hit, p⟩ hlt hne (by simp; exact ⟨hne, Ne.symm nae⟩) fun x' h' tk hPx ho hst hT hsz hk => ?_
    have exu : x' = u := by
      have : its[i]? = some x' := by simpa using hPx
      rw [hu] at this
      exact (Option.some.inj this).symm
    subst exu
    refine ⟨_, rfl, wpAny_letOwnedTupleGo_enum (s := { s with heap := h', toks := tk + 1 }) ho fun h'' he' sb => ?_⟩
    have hT2 : h''.get? s.heap.objs.size = some { cls := .type "tuple", data := .seq #[.int i tk, x'] } := (sb.2 _ (Nat.ne_of_gt hel)).trans hT
    have new : ObjOk X.prog X.w (upd H s.heap.objs.size (.tup [.int (i : Nat), x])) h'' s.heap.objs.size (.tup [.int (i : Nat), x]) :=
      ⟨by show 2 ≤ sizeLine; decide, [.int i tk, x'], .cons ⟨_, rfl⟩ (.cons ru .nil), ⟨_, hT2, rfl, _, rfl⟩⟩
    have I1 : Inv X pins σ (upd H s.heap.objs.size (.tup [.int (i : Nat), x])) { s with heap := h'', toks := tk + 1 } :=
      I.turnedNew (ch := [e, it]) (fun b ob hb q => (sb.2 b (fun z => hb (by simp [z]))).trans (hk b ob (fun z => hb (by simp [z])) (fun z => hb (by simp [z])) q)) hf (Nat.le_refl _) new
    refine ⟨.ref s.heap.objs.size, _, I1, rfl, ⟨_, x, rfl, I.hok.fresh (Nat.le_refl _), rfl, fun ys hy => by rw [I.tuple_inj hy hq]; exact hx⟩, ⟨⟨x', ?_⟩, hst.1.at fun o q => (sb.2 it (Ne.symm hne)).trans q, hne⟩, fun b hb => ?_⟩
    · have e1 : ((i + 1 : Nat) : Int) = (i : Int) + 1 := by omega
      rw [e1]; exact he'
    · have hb' : b < s.heap.objs.size := by
        have e' : b = e ∨ b = it := by simpa using hb
        rcases e' with z | z
        · rw [z]; exact hel
        · rw [z]; exact hil
      rw [upd_ne (Nat.ne_of_lt hb')]
      exact (hf b hb).1
  done := by
    intro X hP hw hK hc i pins s σ H E I hf st hg
    subst hP hw hK
    obtain ⟨⟨old, he⟩, hit, hne⟩ := st
    obtain ⟨xs, hq, hx⟩ := hg
    obtain ⟨its, rv, p, hz⟩ := I.tuple hq
    obtain ⟨f0, f1, f2, f3, f4, f5⟩ := hf it (by simp)
    have hl := rv.length
    exact enumT_end (show X.A.in1.handled = none from I.ok.hd hc) he hit p (by simp; omega) fun h' eb => ⟨rfl, I.turned (t' := s.toks) (fun b o hb q => eb b o hb q) f0 f1 f3 f4 f5⟩
  self := fun A i s Q E st h => let ⟨⟨_, he⟩, _⟩ := st; wpAny_pyIter_enum he h
def iEnumT (K : PySem.W.Frag) (ta : TA) : TI := fun σ H R => ta σ H fun vs H1 => ∃ a xs, vs = [.ref a] ∧ SqT K H1 a xs ∧ R (IteT K a) H1
theorem pi_enumT {X : Cx} {e : Expr} {ta : TA} {p pos tpos : Pos} {elts : List Expr} {kk : Nat} (hg : Gl X "enumerate") (hm : X.mg "enumerate" = none) (ha : PA X [e] ta) (hs : starEach [e] X.env = [(false, eval e X.env)] := by rfl) :
    PI X (.Tuple elts kk tpos) (.Call (.Name "enumerate" p) [e] [] pos) (iEnumT X.K ta) := by
  refine ⟨fun pins s σ H R I h => ?_⟩
  refine Call_ (ld_blt I hg hm boot_enumerate (PyProof.Rows.callWith_type1 (thn (ha.run pos pins s σ H _ I h) fun us s1 ⟨vs, H1, I1, r1, q1⟩ => ?_) hs rfl))
  obtain ⟨a, xs, ex, hq, q⟩ := q1
  subst ex
  cases r1 with
  | cons r rr =>
    cases rr
    cases r
    obtain ⟨its, rv, p', hz⟩ := I1.tuple hq
    refine call_enumT p' fun h' he hit hsz hk => wpAny_pyIter_enum he ?_
    have I2 : Inv X pins σ H1 { s1 with heap := h' } := I1.kept (t' := s1.toks) hk
    refine ⟨s1.heap.objs.size + 1, [s1.heap.objs.size + 1, s1.heap.objs.size], _, _, H1, rfl, I2, turn_enumT a (s1.heap.objs.size + 1) s1.heap.objs.size, ⟨⟨.none, he⟩, hit, Nat.succ_ne_self _⟩, fun b hb => ?_, q⟩
    have e' : b = s1.heap.objs.size + 1 ∨ b = s1.heap.objs.size := by simpa using hb
    have hle : s1.heap.objs.size ≤ b := by
      rcases e' with z | z
      · rw [z]; exact Nat.le_add_right _ _
      · rw [z]; exact Nat.le_refl _
    exact I1.fpOk hle (I1.hok.fresh hle)
/-- a walk over an enumerated tuple that stands still -/
theorem for_enumT {K : PySem.W.Frag} {a : Addr} {xs : List V} {g : TG} {tb : TS} {D : Ends} {σ : List (Option V)} {H : Hp} (Pv : Nat → List (Option V) → Hp → Prop) (h0 : Pv 0 σ H) (hl : ∀ i σ H, i ≤ xs.length → Pv i σ H → SqT K H a xs)
    (hs : ∀ i x σ H T, xs[i]? = some x → Pv i σ H → H T = none → g (.ref T) σ (upd H T (.tup [.int (i : Nat), x])) fun σ2 H2 => tb { D with nx := Pv (i + 1), ct := Pv (i + 1), bk := D.nx } σ2 H2) (hd : ∀ σ H, Pv xs.length σ H → D.nx σ H) :
    ∃ W : Nat → Nat → List (Option V) → Hp → Prop, (∃ m, W 0 m σ H) ∧ ∀ i m σ H, W i m σ H →
      ((IteT K a).stop i H ∧ D.nx σ H) ∨ ((IteT K a).go i H ∧ ∃ N : List (Option V) → Hp → Prop, (∀ σ' H', N σ' H' → ∃ m', m' < m ∧ W (i + 1) m' σ' H') ∧ ∀ x H', (IteT K a).yld i H x H' → g x σ H' fun σ2 H2 => tb { D with nx := N, ct := N, bk := D.nx } σ2 H2) := by
  refine ⟨fun i m σ H => m = xs.length - i ∧ i ≤ xs.length ∧ Pv i σ H, ⟨xs.length, by simp, Nat.zero_le _, h0⟩, ?_⟩
  rintro i m σ H ⟨rfl, hi, p⟩
  have q := hl i σ H hi p
  by_cases hlt : i < xs.length
  · refine .inr ⟨⟨xs, xs[i], q, by simp [hlt]⟩, Pv (i + 1), fun σ' H' p' => ⟨xs.length - (i + 1), by omega, rfl, hlt, p'⟩, fun x H' y => ?_⟩
    obtain ⟨T, z, rfl, nT, rfl, y⟩ := y
    exact hs i z σ H T (y xs q) p nT
  · have e : i = xs.length := by omega
    subst e
    exact .inl ⟨⟨xs, q, Nat.le_refl _⟩, hd σ H p⟩
/-- a comprehension over an enumerated tuple -/
theorem lc_enumT {K : PySem.W.Frag} {a : Addr} {xs : List V} {g : TG} {tt : TT} {te : TE} {vs : List Nat} {σ : List (Option V)} {H1 : Hp} {D : Addr} {Qd : Hp → Prop} (Pv : Nat → Hp → Prop) (h0 : Pv 0 (upd H1 D (.lst []))) (hl : ∀ i H, i ≤ xs.length → Pv i H → SqT K H a xs)
    (hs : ∀ i x H T, xs[i]? = some x → Pv i H → H T = none → g (.ref T) (wipe σ vs) (upd H T (.tup [.int (i : Nat), x])) fun σ2 H2 => wipe σ2 vs = wipe σ vs ∧ tt σ2 H2 fun b H3 =>
      if b = true then te σ2 H3 fun y H4 => ∃ acc, H4 D = some (.lst acc) ∧ acc.length < sizeLine ∧ Pv (i + 1) (upd H4 D (.lst (acc ++ [y]))) else Pv (i + 1) H3) (hd : ∀ H, Pv xs.length H → Qd H) :
    ∃ W : Nat → Nat → Hp → Prop, (∃ m, W 0 m (upd H1 D (.lst []))) ∧ ∀ i m H, W i m H →
      ((IteT K a).stop i H ∧ Qd H) ∨ ((IteT K a).go i H ∧ ∃ Nx : Hp → Prop, (∀ H', Nx H' → ∃ m', m' < m ∧ W (i + 1) m' H') ∧ ∀ x H', (IteT K a).yld i H x H' → g x (wipe σ vs) H' fun σ2 H2 => wipe σ2 vs = wipe σ vs ∧ tt σ2 H2 fun b H3 =>
        if b = true then te σ2 H3 fun y H4 => ∃ acc, H4 D = some (.lst acc) ∧ acc.length < sizeLine ∧ Nx (upd H4 D (.lst (acc ++ [y]))) else Nx H3) := by
  refine ⟨fun i m H => m = xs.length - i ∧ i ≤ xs.length ∧ Pv i H, ⟨xs.length, by simp, Nat.zero_le _, h0⟩, ?_⟩
  rintro i m H ⟨rfl, hi, p⟩
  have q := hl i H hi p
  by_cases hlt : i < xs.length
  · refine .inr ⟨⟨xs, xs[i], q, by simp [hlt]⟩, Pv (i + 1), fun H' p' => ⟨xs.length - (i + 1), by omega, rfl, hlt, p'⟩, fun x H' y => ?_⟩
    obtain ⟨T, z, rfl, nT, rfl, y⟩ := y
    exact hs i z H T (y xs q) p nT
  · have e : i = xs.length := by omega
    subst e
    exact .inl ⟨⟨xs, q, Nat.le_refl _⟩, hd H p⟩
end St
namespace St
open PySem PySem.Spec PyProof.Rows L2
/-! ### own errors -/
/-- the class at x -/
def ClsAt (K : PySem.W.Frag) (x : Str) (C : Addr) : Prop := PySem.W.nsIn K mainGlobals x = some (some (.ref C))
theorem ClsAt.one {K : PySem.W.Frag} {x : Str} {C D : Addr} (h : ClsAt K x C) (h' : ClsAt K x D) : C = D := by
  have := h.symm.trans h'
  cases this
  rfl
/-- what the top has written of an own error class without own __init__ -/
structure ExT (K : PySem.W.Frag) (mg : Str → Option Value) (x : Str) (C : Addr) : Prop where
  n : ClsAt K x C
  g : mg x = some (.ref C)
  q : PySem.W.excIn K C [.type "ValueError", .type "Exception", .type "BaseException", .type "object"] "ValueError.__new__" = true
  k : PySem.W.keepIn K (.ref C) = true
  b : PySem.W.subIn K (.ref C) (.type "BaseException") = some true
  t : PySem.W.typeIn K (.ref C) = some (.type "type")
  d : PySem.W.hasDictIn K C = true
  s : PySem.W.subIn K (.ref C) (.ref C) = some true
theorem ExT.te {K : PySem.W.Frag} {mg : Str → Option Value} {x : Str} {C : Addr} (T : ExT K mg x C) : PySem.W.exmOne K (.ref C) (.ref C) = some true :=
  PySem.W.exm_ref T.b T.d T.t T.s
/-- as Cal, of a def that may raise -/
structure CalR (P : Program) (w : World) (K : PySem.W.Frag) (mg : Str → Option Value) (base : Heap) (x : Str) (ps : List Str) (k : Nat) (sp : Sp) (f : Addr) (fd : FuncData) : Prop where
  ok : FnOk P w K mg base (L2.CX P w) k f fd ps sp
  g : mg x = some (.ref f)
  kp : PySem.W.keepIn K (.ref f) = true
  b : Binds K fd ps []
def CalX (P : Program) (w : World) (K : PySem.W.Frag) (mg : Str → Option Value) (base : Heap) (x : Str) (ps : List Str) (k : Nat) (sp : Sp) : Prop := ∃ f fd, CalR P w K mg base x ps k sp f fd
section
variable {X : Cx} {C : Addr} {bmB : List Value} {B newId initId : String}
/-- X() -/
theorem pmk_own0 {x : Str} {p pos : Pos} (F : ExcBaseFacts B newId initId bmB) (q : PySem.W.excIn X.K C bmB newId = true) (gC : X.mg x = some (.ref C)) (kC : PySem.W.keepIn X.K (.ref C) = true) (r : Raises X (.ref C)) (hg : Gl X x)
    (hdb : (x == ("__debug__" : Str)) = false := by decide) : PMk X (.Call (.Name x p) [] [] pos) (fun _ H Q => Q (.ref C) none H) := by
  intro pins s σ H Q I h
  refine wpAny_Call_Name_kw (ld_glob I hg gC ?_ hdb)
  refine PySem.W.callWith_K0 I.kIn kC ?_
  show wpAny _ _ (call (.ref C) []) _ _ _
  obtain ⟨bm, N, nm, qn, bs, hdct, sn, sub, ab, col, dd, k0, k1, k2, k3, k5, mN, hC, hN, hni, T⟩ := exc_obj I.kIn q
  refine wpAny_call_exc_subT F T hC hN hni (fun h' e hm => ?_) (Nat.zero_le _)
  exact mk_of I hm r h (I.hok.gone hm.new)
theorem ps_raise0 {x : Str} {p pos pos2 : Pos} {W : WX} (tk : Takes X W) (T : ExT X.K X.mg x C) (hg : Gl X x) (hdb : (x == ("__debug__" : Str)) = false := by decide) (hc : X.calm = true := by rfl) :
    PS X (.Raise (some (.Call (.Name x p) [] [] pos)) none pos2) (fun _ σ H => W (.ref C) none σ H) :=
  ps_raise hc tk (pmk_own0 PySem.F.excBase_ValueError T.q T.g T.k (raises_own T.b T.t) hg hdb)
/-- isinstance(e, c), e the error that the suite holds -/
theorem call_isX {a D : Addr} {oe : Obj} {cls : Value} {d : Option Addr} {pn : List (Addr × Obj)} (E : ExcC X.K D) (hz : Zc cls d oe) (hf : ∃ vs, oe.data = .fields vs) :
    CallR (X.suite a ((a, oe) :: pn)) (.builtin "isinstance") (fun xs H Q => cls = .ref D ∧ d = none ∧ rIsE X.K D a xs H Q) := by
  intro pins s σ H xs us Q I r h
  obtain ⟨rfl, rfl, h⟩ := h
  exact call_isE E hz hf pins s σ H xs us Q I r h
end
theorem kit_sub {K : PySem.W.Frag} {C S : Addr} (hd : PySem.W.hasDictIn K S = true) (ht : PySem.W.typeIn K (.ref S) = some (.type "type")) (h : PySem.W.subIn K (.ref C) (.ref S) = some true) : PySem.W.kitOne K (.ref C) (.ref S) = some true := by
  obtain ⟨cd, hc, _⟩ := PySem.W.any_some hd
  have e : ((PySem.W.clsIn K S).isSome && PySem.W.typeIn K (.ref S) == some (.type "type")) = true := by rw [hc, ht] <;> rfl
  show (if (Value.ref C == Value.ref S) = true then some true else (if ((PySem.W.clsIn K S).isSome && PySem.W.typeIn K (.ref S) == some (.type "type")) = true then PySem.W.subIn K (.ref C) (.ref S) else none)) = some true
  rw [if_pos e, h]
  split <;> rfl
end St
namespace St
open PySem PySem.Spec PyProof.Rows L2
/-! ### the words of a book by their places in the order -/
def offs (o : List (Nat × Nat)) (i : Nat) : Nat := ((o.take i).map fun p => 2 ^ (60 - p.1)).sum
theorem offs_zero (o : List (Nat × Nat)) : offs o 0 = 0 := rfl
theorem offs_succ {o : List (Nat × Nat)} {i l n : Nat} (h : o[i]? = some (l, n)) : offs o (i + 1) = offs o i + 2 ^ (60 - l) := by
  unfold offs
  rw [take_more h, List.map_append, List.sum_append]
  simp
theorem offs_cons (p : Nat × Nat) (r : List (Nat × Nat)) (i : Nat) : offs (p :: r) (i + 1) = 2 ^ (60 - p.1) + offs r i := by
  unfold offs
  rw [List.take_succ_cons, List.map_cons, List.sum_cons]
theorem offs_mono (o : List (Nat × Nat)) (i d : Nat) : offs o i ≤ offs o (i + d) := by
  induction d with
  | zero => exact Nat.le_refl _
  | succ d ih =>
    cases e : o[i + d]? with
    | some p =>
      obtain ⟨l, n⟩ := p
      rw [← Nat.add_assoc, offs_succ e]
      exact Nat.le_trans ih (Nat.le_add_right _ _)
    | none =>
      have := List.getElem?_eq_none_iff.mp e
      have e1 : offs o (i + (d + 1)) = offs o (i + d) := by
        unfold offs
        rw [List.take_of_length_le (by omega), List.take_of_length_le (by omega)]
      omega
theorem wordsO_len : ∀ (o : List (Nat × Nat)) (c : Nat) (f : List (List Bool)), (wordsO o c f).length = f.length
  | [], _, _ => rfl
  | (l, n) :: r, c, f => by rw [wordsO, wordsO_len r, List.length_set]
theorem wordsO_keep : ∀ (o : List (Nat × Nat)) (c : Nat) (f : List (List Bool)) (n : Nat), n ∉ o.map (·.2) → (wordsO o c f)[n]? = f[n]?
  | [], _, _, _, _ => rfl
  | (l, m) :: r, c, f, n, h => by
    rw [List.map_cons, List.mem_cons, not_or] at h
    rw [wordsO, wordsO_keep r _ _ n h.2, List.getElem?_set_ne (Ne.symm h.1)]
theorem wordsO_at : ∀ (o : List (Nat × Nat)) (c : Nat) (f : List (List Bool)) (i l n : Nat), o[i]? = some (l, n) → (o.map (·.2)).Nodup → n < f.length → (wordsO o c f)[n]? = some (fig ((c + offs o i) / 2 ^ (60 - l)) l)
  | [], _, _, _, _, _, h, _, _ => by simp at h
  | (l0, n0) :: r, c, f, 0, l, n, h, nd, hn => by
    cases Option.some.inj (show some (l0, n0) = some (l, n) from h)
    rw [List.map_cons, List.nodup_cons] at nd
    rw [wordsO, wordsO_keep r _ _ n0 nd.1, List.getElem?_set_self hn, offs_zero, Nat.add_zero]
  | (l0, n0) :: r, c, f, i + 1, l, n, h, nd, hn => by
    rw [List.map_cons, List.nodup_cons] at nd
    rw [wordsO, wordsO_at r _ _ i l n h nd.2 (by rw [List.length_set]; exact hn), offs_cons, Nat.add_assoc]
theorem IsOrd.nd {ls : List Nat} {o : List (Nat × Nat)} (h : IsOrd ls o) : (o.map (·.2)).Nodup := by
  have := h.perm.map (·.2)
  rw [List.zipIdx_map_snd] at this
  exact (this.nodup_iff).mpr List.nodup_range'
theorem IsOrd.len {ls : List Nat} {o : List (Nat × Nat)} (h : IsOrd ls o) : o.length = ls.length := by
  rw [h.perm.length_eq, List.length_zipIdx]
theorem IsOrd.has {ls : List Nat} {o : List (Nat × Nat)} (h : IsOrd ls o) {k l : Nat} (hk : ls[k]? = some l) : ∃ i : Nat, o[i]? = some (l, k) := by
  have : (l, k) ∈ ls.zipIdx := List.mem_iff_getElem?.mpr ⟨k, by rw [List.getElem?_zipIdx, hk]; simp⟩
  exact List.getElem?_of_mem (h.perm.mem_iff.mpr this)
theorem IsOrd.of {ls : List Nat} {o : List (Nat × Nat)} (h : IsOrd ls o) {i k l : Nat} (hk : o[i]? = some (l, k)) : ls[k]? = some l := by
  have := h.perm.mem_iff.mp (List.mem_of_getElem? hk)
  obtain ⟨j, hj⟩ := List.getElem?_of_mem this
  rw [List.getElem?_zipIdx] at hj
  cases e : ls[j]? with
  | none => rw [e] at hj; cases hj
  | some z =>
    rw [e] at hj
    cases Option.some.inj hj
    rw [Nat.zero_add]
    exact e
theorem IsOrd.room {ls : List Nat} {o : List (Nat × Nat)} (h : IsOrd ls o) : offs o o.length = roomN ls := by
  unfold offs roomN
  rw [List.take_length]
  have e := (h.perm.map fun p => 2 ^ (60 - p.1)).sum_nat
  rw [e]
  congr 1
  have : (ls.zipIdx.map Prod.fst) = ls := List.zipIdx_map_fst 0 ls
  conv => rhs; rw [← this]
  rw [List.map_map]
  rfl
theorem IsOrd.two {ls : List Nat} {o : List (Nat × Nat)} (h : IsOrd ls o) {i j a b l m : Nat} (hi : o[i]? = some (l, a)) (hj : o[j]? = some (m, b)) (hij : i < j) : l ≤ m ∧ offs o i + 2 ^ (60 - l) ≤ offs o j ∧ offs o j + 2 ^ (60 - m) ≤ roomN ls := by
  have hjl := (List.getElem?_eq_some_iff.mp hj).1
  refine ⟨?_, ?_, ?_⟩
  · obtain ⟨hi', ei⟩ := List.getElem?_eq_some_iff.mp hi
    obtain ⟨hj', ej⟩ := List.getElem?_eq_some_iff.mp hj
    have := List.pairwise_iff_getElem.mp h.pw i j hi' hj' hij
    rw [ei, ej] at this
    unfold lexL at this
    dsimp only at this
    omega
  · rw [← offs_succ hi]
    have := offs_mono o (i + 1) (j - (i + 1))
    rw [show i + 1 + (j - (i + 1)) = j by omega] at this
    exact this
  · rw [← offs_succ hj, ← h.room]
    have := offs_mono o (j + 1) (o.length - (j + 1))
    rw [show j + 1 + (o.length - (j + 1)) = o.length by omega] at this
    exact this
/-- no word begins another one -/
theorem book_free {ls : List Nat} {o : List (Nat × Nat)} (h : IsOrd ls o) (h60 : ∀ l ∈ ls, l ≤ 60) (hr : roomN ls ≤ 2 ^ 60) {i j a b l m : Nat} (hi : o[i]? = some (l, a)) (hj : o[j]? = some (m, b)) (hab : a ≠ b) :
    (fig (offs o j / 2 ^ (60 - m)) m).take l ≠ fig (offs o i / 2 ^ (60 - l)) l := by
  have hl := h60 l (List.mem_of_getElem? (h.of hi))
  have hm := h60 m (List.mem_of_getElem? (h.of hj))
  have p1 : 0 < 2 ^ (60 - m) := Nat.pow_pos (by decide)
  have p2 : 0 < 2 ^ (60 - l) := Nat.pow_pos (by decide)
  rcases Nat.lt_trichotomy i j with c | c | c
  · obtain ⟨h1, h2, h3⟩ := h.two hi hj c
    exact book_pre h1 hm h2 (by omega)
  · subst c
    rw [hi] at hj
    cases Option.some.inj hj
    exact absurd rfl hab
  · obtain ⟨h1, h2, h3⟩ := h.two hj hi c
    intro e
    have el := congrArg List.length e
    rw [List.length_take, fig_len, fig_len] at el
    have : l = m := by omega
    subst this
    rw [List.take_of_length_le (by rw [fig_len]; exact Nat.le_refl _)] at e
    refine book_pre (Nat.le_refl l) hl h2 (by omega) ?_
    rw [List.take_of_length_le (by rw [fig_len]; exact Nat.le_refl _)]
    exact e.symm
theorem nodup_idx {α : Type} {l : List α} (h : l.Nodup) {i j : Nat} {x : α} (hi : l[i]? = some x) (hj : l[j]? = some x) : i = j := by
  obtain ⟨a1, a2⟩ := List.getElem?_eq_some_iff.mp hi
  obtain ⟨b1, b2⟩ := List.getElem?_eq_some_iff.mp hj
  rcases Nat.lt_trichotomy i j with c | c | c
  · exact absurd (a2.trans b2.symm) (List.pairwise_iff_getElem.mp h i j a1 b1 c)
  · exact c
  · exact absurd (b2.trans a2.symm) (List.pairwise_iff_getElem.mp h j i b1 a1 c)
theorem LawH.keepBut {H H' : Hp} {h q E : Addr} (L : LawH H h q) (k : ∀ b u, b ≠ E → H b = some u → H' b = some u) (n1 : h ≠ E) (n2 : q ≠ E) : LawH H' h q := by
  obtain ⟨ne, st, ix, cells, a, b, d⟩ := L
  exact ⟨ne, st, ix, cells, k _ _ n1 a, k _ _ n2 b, d⟩
theorem dp_strs {K : PySem.W.Frag} {H : Hp} : ∀ (ws : List Str), DpAll K H (ws.map V.str) (ws.map PyData.str)
  | [] => .nil
  | w :: ws => .cons (.str w) (dp_strs ws)
end St
namespace St
open PySem PySem.Spec PyProof.Rows L2
def topS (i : Nat) : Stmt := PySem.Challenge.pw_stepruns_k09_whole_books_of_lengths.main.body.getD i (.Pass ⟨0, 0, 0, 0⟩)

abbrev s__law_mix : Stmt := topS 17
theorem sc__law_mix : FnScope ["_law_script", "_law_seed", "_law_state", "_law_cell"] ["_law_script", "_law_seed"] (defScope s__law_mix) := ⟨rfl, rfl, rfl, by decide +kernel, rfl, by decide +kernel, by decide +kernel⟩
def sp__law_mix (K : PySem.W.Frag) : Sp := fun vs H Q _ => ∃ (a : Addr) (ns : List Int) (sd : Int), vs = [.ref a, .int sd] ∧ SqL K H a (ns.map V.int) ∧ ns.length ≤ 63 ∧
  ∀ (h q : Addr) (H' : Hp), Same H H' → H h = none → H q = none → LawH H' h q → Q (.ref h) H'
section
variable {P : Program} {w : World} {K : PySem.W.Frag} {mg : Str → Option Value} {base : Heap}
theorem ok__law_mix (A : At K mg "_law_mix" s__law_mix ["_law_script", "_law_seed"]) (B : Bn mg) : CalE P w K mg base "_law_mix" ["_law_script", "_law_seed"] 1 (sp__law_mix K) := by
  obtain ⟨f, fd, F, gF, bF⟩ := A
  refine ⟨f, fd, F.ok sc__law_mix (fun vs H Q E h => ?_) (fun cdv A outer s H vs Q E hr h => ?_), gF, F.kp, bF⟩
  · repeat (first | (obtain ⟨rfl, _⟩ := h; rfl) | (obtain ⟨_, h⟩ := h))
  · obtain ⟨a, ns, sd, rfl, hS, hl, q⟩ := h
    refine ⟨_, (pss_cons (ps_set (i := 2) sc__law_mix.nd rfl (.inl rfl) (pv 1))
      (pss_cons (ps_for PassesOwn.never rfl (pi_list (pv 0)) (pg_name (i := 3) sc__law_mix.nd rfl (.inl rfl))
      (pss_one (ps_set (i := 2) sc__law_mix.nd rfl (.inl rfl) (pe_op op_mod (pe_callTy call_int1 (by rfl) B.int_ (by decide +kernel) (pa_cons (pe_op op_add (pe_op op_add (pe_op op_mul (pv 2) pe_int) (pe_op op_mod (pe_callTy call_int1 (by rfl) B.int_ (by decide +kernel) (pa_cons (pv 3) pa_nil)) pe_int)) pe_int) pa_nil)) pe_int))))
      (pss_one (ps_ret (pe_lst (pa_cons (pv 2) (pa_cons (pe_callTy (call_list_of_ K) (by rfl) B.list_ (by decide +kernel) (pa_cons (pv 0) pa_nil)) (pa_cons pe_int pa_nil)))))))), ?_⟩
    -- _law_state = _law_seed
    refine ⟨_, rfl, ?_⟩
    refine ⟨_, rfl, a, rfl, ⟨_, hS⟩, for_list (K := K) (a := a) (xs := ns.map V.int) (fun i σ H2 => ∃ (st : Int) (v : Option V), σ = [some (.ref a), some (.int sd), some (.int st), v] ∧ H2 = H)
      ⟨_, _, rfl, rfl⟩ (fun i σ H2 _ ⟨_, _, _, e⟩ => e ▸ hS) ?_ ?_⟩
    · rintro i y σ H2 hi ⟨st, v, rfl, rfl⟩
      obtain ⟨z, rfl⟩ : ∃ z, y = V.int z := by
        rw [List.getElem?_map] at hi
        cases e : ns[i]? with
        | none => rw [e] at hi; cases hi
        | some z => rw [e] at hi; exact ⟨z, (Option.some.inj hi).symm⟩
      refine ⟨_, rfl, _, _, rfl, rfl, .inr (by omega), _, rfl, .inl ⟨_, rfl, _, _, rfl, rfl, (by decide : (0 : Int) < 2147483629), _, _, rfl, rfl, _, _, rfl, rfl, .inl ⟨_, rfl, _, _, rfl, rfl, (by decide : (0 : Int) < 2147483647), ?_⟩⟩⟩
      exact ⟨_, _, rfl, rfl⟩
    · rintro σ H2 ⟨st, v, rfl, rfl⟩
      -- return [state, list(script), 0]
      refine ⟨_, rfl, _, rfl, a, _, rfl, .inl hS, fun c nc => ⟨(by show 3 ≤ sizeLine; decide), fun p np => ?_⟩⟩
      have npc : p ≠ c := fun e => by rw [e, upd_same] at np; cases np
      refine q p c _ ((same_new nc _).trans (same_new np _)) ((same_new nc _).free np) nc ⟨npc, st, 0, ns, upd_same, ?_, by omega⟩
      rw [upd_ne npc.symm, upd_same]
end

abbrev s__law_next : Stmt := topS 18
theorem sc__law_next : FnScope ["_law_h", "_law_cap", "_law_cell"] ["_law_h", "_law_cap"] (defScope s__law_next) := ⟨rfl, rfl, rfl, by decide +kernel, rfl, by decide +kernel, by decide +kernel⟩
def sp__law_next (K : PySem.W.Frag) : Sp := fun vs H Q _ => ∃ (h q : Addr) (cap : Int), vs = [.ref h, .int cap] ∧ LawH H h q ∧ 0 < cap ∧ cap < 2 ^ 300 ∧
  ∀ (k : Int) (H' : Hp), 0 ≤ k → k < cap → LawH H' h q → Sm h q H H' → Q (.int k) H'
theorem cap_wide {cap : Int} (h : 0 < cap) (h' : cap < 2 ^ 300) : CDivW z cap := wide_div (b := 300) h (by omega) (by decide) (by decide)
section
variable {P : Program} {w : World} {K : PySem.W.Frag} {mg : Str → Option Value} {base : Heap}
theorem ok__law_next (A : At K mg "_law_next" s__law_next ["_law_h", "_law_cap"]) (B : Bn mg) : CalE P w K mg base "_law_next" ["_law_h", "_law_cap"] 1 (sp__law_next K) := by
  obtain ⟨f, fd, F, gF, bF⟩ := A
  refine ⟨f, fd, F.ok sc__law_next (fun vs H Q E h => ?_) (fun cdv A outer s H vs Q E hr h => ?_), gF, F.kp, bF⟩
  · repeat (first | (obtain ⟨rfl, _⟩ := h; rfl) | (obtain ⟨_, h⟩ := h))
  · obtain ⟨h, q, cap, rfl, L, c0, c1, k⟩ := h
    refine ⟨_, (pss_cons (ps_set (i := 2) sc__law_next.nd rfl (.inl rfl) (pe_ix (ix_list_ K) (pe_op op_cat (pe_ix (ix_list_ K) (pv 0) pe_int (fun _ _ => rfl)) (pe_lst (pa_cons pe_int pa_nil))) (pe_op op_mod (pe_callTy call_int1 (by rfl) B.int_ (by decide +kernel) (pa_cons (pe_ix (ix_list_ K) (pv 0) pe_int (fun _ _ => rfl)) pa_nil)) (pe_callB (call_max2 rfl) (by rfl) B.max_ (by decide +kernel) (pa_cons pe_int (pa_cons (pe_callB (call_len_seq_ K) (by rfl) B.len_ (by decide +kernel) (pa_cons (pe_ix (ix_list_ K) (pv 0) pe_int (fun _ _ => rfl)) pa_nil)) pa_nil)))) (fun _ _ => rfl)))
      (pss_cons (ps_if (pt_cmpR op_ge (pv 2) (pe_op op_pow pe_int pe_int) (nomark _))
      (pss_cons (ps_asg (pe_op op_fdivW (pv 2) (pv 1)) (pg_sub (pe_ix (ix_list_ K) (pv 0) pe_int (fun _ _ => rfl)) (pe_op op_mod (pe_callTy call_int1 (by rfl) B.int_ (by decide +kernel) (pa_cons (pe_ix (ix_list_ K) (pv 0) pe_int (fun _ _ => rfl)) pa_nil)) (pe_callB (call_len_seq_ K) (by rfl) B.len_ (by decide +kernel) (pa_cons (pe_ix (ix_list_ K) (pv 0) pe_int (fun _ _ => rfl)) pa_nil))) set_list))
      (pss_one (ps_ret (pe_op op_mod (pe_callTy call_int1 (by rfl) B.int_ (by decide +kernel) (pa_cons (pv 2) pa_nil)) (pv 1)))))
      pss_nil)
      (pss_cons (ps_asg (pe_op op_mod (pe_callTy call_int1 (by rfl) B.int_ (by decide +kernel) (pa_cons (pe_op op_add (pe_op op_add (pe_op op_mul (pe_ix (ix_list_ K) (pv 0) pe_int (fun _ _ => rfl)) pe_int) (pe_op op_mul (pv 2) pe_int)) pe_int) pa_nil)) pe_int) (pg_sub (pv 0) pe_int set_list))
      (pss_cons (ps_asg (pe_op op_add (pe_ix (ix_list_ K) (pv 0) pe_int (fun _ _ => rfl)) pe_int) (pg_sub (pv 0) pe_int set_list))
      (pss_one (ps_ret (pe_op op_mod (pe_callTy call_int1 (by rfl) B.int_ (by decide +kernel) (pa_cons (pe_op op_fdiv (pe_ix (ix_list_ K) (pv 0) pe_int (fun _ _ => rfl)) pe_int) pa_nil)) (pv 1)))))))), ?_⟩
    obtain ⟨hne, st, ix, cells, eh, eq, hl⟩ := id L
    have sL : SqL K H h [.int st, .ref q, .int ix] := .inl (.inl eh)
    have sQ : SqL K H q (cells.map V.int) := .inl (.inl eq)
    have l3 : ([V.int 0] : List V).length ≤ sizeLine := by show 1 ≤ sizeLine; decide
    have lm : (cells.map V.int).length = cells.length := List.length_map _
    -- (h[1] + [0])[h[2] % max(1, len(h[1]))]
    refine ⟨_, rfl, h, _, 1, _, rfl, rfl, sL, rfl, l3, fun z nz => ?_⟩
    have s1 : Same H (upd H z (.lst [.int 0])) := same_new nz _
    have lq : (cells.map V.int).length + ([V.int 0] : List V).length ≤ sizeLine := by
      rw [lm]
      show cells.length + 1 ≤ sizeLine
      have := sizeLine_eq
      omega
    refine ⟨q, z, _, _, rfl, rfl, s1 _ _ eq, upd_same, lq, fun z2 nz2 => ?_⟩
    have s2 := s1.trans (same_new nz2 (.lst (cells.map V.int ++ [.int 0])))
    have e2 : (upd (upd H z (.lst [.int 0])) z2 (.lst (cells.map V.int ++ [.int 0]))) z2 = some (.lst (cells.map V.int ++ [.int 0])) := upd_same
    generalize upd (upd H z (.lst [.int 0])) z2 (.lst (cells.map V.int ++ [.int 0])) = H2 at *
    obtain ⟨m, em, hm⟩ : ∃ m : Int, (if ((cells.map V.int).length : Int) > 1 then ((cells.map V.int).length : Int) else 1) = m ∧ (0 < m ∧ m ≤ cells.length + 1 ∧ (cells = [] → m = 1) ∧ (cells ≠ [] → m = cells.length)) := by
      refine ⟨_, rfl, ?_⟩
      rw [lm]
      cases cells with
      | nil => simp
      | cons c r =>
        simp only [List.length_cons]
        split
        · exact ⟨by omega, by omega, (fun z => by cases z), fun _ => rfl⟩
        · exact ⟨by omega, by omega, (fun z => by cases z), fun _ => by omega⟩
    obtain ⟨m0, m1, m2, m3⟩ := hm
    have j0 : 0 ≤ ix % m := Int.emod_nonneg _ (by omega)
    have j1 : ix % m < m := Int.emod_lt_of_pos _ m0
    obtain ⟨j, ej⟩ : ∃ j : Nat, ix % m = (j : Int) := ⟨(ix % m).toNat, by omega⟩
    obtain ⟨c, ec, hc⟩ : ∃ c : Int, (cells.map V.int ++ [V.int 0])[j]? = some (.int c) ∧ (10 ^ 18 ≤ c → j < cells.length ∧ cells ≠ []) := by
      by_cases hj : j < cells.length
      · refine ⟨cells[j], ?_, fun _ => ⟨hj, fun z => by rw [z] at hj; cases hj⟩⟩
        rw [List.getElem?_append_left (by rw [lm]; exact hj), List.getElem?_map, List.getElem?_eq_getElem hj]
        rfl
      · have hn : j = cells.length := by
          by_cases hc : cells = []
          · have := m2 hc
            subst hc
            simp
            omega
          · have := m3 hc
            omega
        subst hn
        refine ⟨0, ?_, fun z => by omega⟩
        rw [List.getElem?_append_right (by rw [lm]; exact Nat.le_refl _), lm, Nat.sub_self]
        rfl
    refine ⟨_, rfl, h, _, 2, _, rfl, rfl, s2.seq sL, rfl, .inl ⟨ix, rfl, _, rfl, h, _, 1, _, rfl, rfl, s2.seq sL, rfl, q, _, rfl, .inl (s2.seq sQ), 1, _, rfl, ?_⟩⟩
    show rI (fun _ j => 0 < j) (fun i j => V.int (i % j)) (V.int ix) (.int (if ((cells.map V.int).length : Int) > 1 then ((cells.map V.int).length : Int) else 1)) H2 _
    rw [em]
    refine ⟨_, _, rfl, rfl, m0, z2, _, _, _, rfl, rfl, .inl (.inl e2), by rw [ej]; exact atI_nat ec, ?_⟩
    -- if _law_cell >= 10 ** 18
    refine ⟨_, rfl, _, _, rfl, rfl, ⟨by decide, by decide, by decide⟩, _, _, rfl, rfl, _, rfl, ?_⟩
    have h2 := s2.seq sL
    have q2 := s2.seq sQ
    have eh2 := s2 _ _ eh
    have eq2 := s2 _ _ eq
    refine ite2 (fun b => ?_) (fun b => ?_)
    · have b' : 10 ^ 18 ≤ c := of_decide_eq_true b
      obtain ⟨hj, hne0⟩ := hc b'
      have m4 := m3 hne0
      refine ⟨_, rfl, _, rfl, _, _, rfl, rfl, cap_wide c0 c1, ?_⟩
      refine ⟨_, rfl, h, _, 1, _, rfl, rfl, h2, rfl, _, rfl, h, _, 2, _, rfl, rfl, h2, rfl, .inl ⟨ix, rfl, _, rfl, h, _, 1, _, rfl, rfl, h2, rfl, q, _, rfl, .inl q2, _, _, rfl, rfl, ?_, ?_⟩⟩
      · show (0 : Int) < ((cells.map V.int).length : Int)
        rw [lm]
        omega
      refine ⟨q, _, _, j, rfl, rfl, eq2, ?_, ?_⟩
      · rw [lm, ← m4, ej]
        unfold ixN
        rw [if_pos (by omega), if_pos (by omega), Int.toNat_natCast]
      refine ⟨_, rfl, .inl ⟨_, rfl, _, rfl, _, _, rfl, rfl, c0, ?_⟩⟩
      refine k _ _ (Int.emod_nonneg _ (by omega)) (Int.emod_lt_of_pos _ c0) ⟨hne, st, ix, cells.set j (c / cap), by rw [upd_ne hne]; exact eh2, by rw [upd_same, List.map_set], by rw [List.length_set]; exact hl⟩ (fun b o e n1 n2 => ?_)
      rw [upd_ne n2]
      exact s2 _ _ e
    · refine ⟨_, rfl, h, _, 0, _, rfl, rfl, h2, rfl, _, _, rfl, rfl, .inr (by omega), _, rfl, _, _, rfl, rfl, .inr (by omega), _, _, rfl, rfl, _, _, rfl, rfl, .inl ⟨_, rfl, _, _, rfl, rfl, (by decide : (0 : Int) < 2147483647), ?_⟩⟩
      refine ⟨_, rfl, h, _, 0, 0, rfl, rfl, eh2, rfl, ?_⟩
      have e3 := @upd_same H2 h (.lst [.int ((st * 48271 + c * 69621 + 11) % 2147483647), .ref q, .int ix])
      refine ⟨_, rfl, h, _, 2, _, rfl, rfl, .inl (.inl e3), rfl, _, _, rfl, rfl, _, rfl, h, _, 2, 2, rfl, rfl, e3, rfl, ?_⟩
      refine ⟨_, rfl, h, _, 0, _, rfl, rfl, .inl (.inl upd_same), rfl, _, _, rfl, rfl, ⟨by decide, by decide⟩, .inl ⟨_, rfl, _, rfl, _, _, rfl, rfl, c0, ?_⟩⟩
      refine k _ _ (Int.emod_nonneg _ (by omega)) (Int.emod_lt_of_pos _ c0) ⟨hne, _, _, cells, upd_same, by rw [upd_ne hne.symm, upd_ne hne.symm]; exact eq2, hl⟩ (fun b o e n1 n2 => ?_)
      rw [upd_ne n1, upd_ne n1]
      exact s2 _ _ e
end

abbrev s__law_pick : Stmt := topS 20
theorem sc__law_pick : FnScope ["_law_h", "_law_things"] ["_law_h", "_law_things"] (defScope s__law_pick) := ⟨rfl, rfl, rfl, by decide +kernel, rfl, by decide +kernel, by decide +kernel⟩
def sp__law_pick (K : PySem.W.Frag) : Sp := fun vs H Q _ => ∃ (h q t : Addr) (xs : List V), vs = [.ref h, .ref t] ∧ LawH H h q ∧ SqL K H t xs ∧ t ≠ h ∧ t ≠ q ∧ xs ≠ [] ∧ xs.length ≤ 1000 ∧
  ∀ (k : Nat) (x : V) (H' : Hp), xs[k]? = some x → LawH H' h q → Sm h q H H' → Q x H'
theorem pickI {K : PySem.W.Frag} {H0 : Hp} {h q t : Addr} {xs : List V} {Q : VK} (L : LawH H0 h q) (nt : H0 t = none) (hx : xs ≠ []) (hl : xs.length ≤ 1000) (k : ∀ x ∈ xs, ∀ H', LawH H' h q → Sm h q H0 H' → Q x H') : sp__law_pick K [.ref h, .ref t] (upd H0 t (.lst xs)) Q E0 := by
  have s3 := same_new nt (.lst xs)
  obtain ⟨hne, st, ix, cells, eh, eq, _⟩ := id L
  exact ⟨h, q, t, _, rfl, L.same s3, .inl (.inl upd_same), ne_new eh nt, ne_new eq nt, hx, hl, fun j x H3 ex L3 S3 => k x (List.mem_of_getElem? ex) H3 L3 (Sm.trans (Sm.of s3) S3)⟩
section
variable {P : Program} {w : World} {K : PySem.W.Frag} {mg : Str → Option Value} {base : Heap}
theorem ok__law_pick (A : At K mg "_law_pick" s__law_pick ["_law_h", "_law_things"]) (B : Bn mg) (H__law_next : CalE P w K mg base "_law_next" ["_law_h", "_law_cap"] 1 (sp__law_next K)) : CalE P w K mg base "_law_pick" ["_law_h", "_law_things"] 2 (sp__law_pick K) := by
  obtain ⟨f, fd, F, gF, bF⟩ := A
  obtain ⟨f__law_next, fd__law_next, G__law_next⟩ := H__law_next
  refine ⟨f, fd, F.ok sc__law_pick (fun vs H Q E h => ?_) (fun cdv A outer s H vs Q E hr h => ?_), gF, F.kp, bF⟩
  · repeat (first | (obtain ⟨rfl, _⟩ := h; rfl) | (obtain ⟨_, h⟩ := h))
  · obtain ⟨h, q, t, xs, rfl, L, hS, n1, n2, hx, hl, k⟩ := h
    have hp : 0 < xs.length := List.length_pos_iff.mpr hx
    refine ⟨_, (pss_one (ps_ret (pe_ix (ix_list_ K) (pv 1) (pe_call G__law_next.ok (hr.mono (by first | decide | exact Nat.le_refl _)) (by rfl) G__law_next.g G__law_next.kp G__law_next.b .nil pass0 (pa_cons (pv 0) (pa_cons (pe_callB (call_len_seq_ K) (by rfl) B.len_ (by decide +kernel) (pa_cons (pv 1) pa_nil)) pa_nil))) (fun _ _ => rfl)))), ?_⟩
    refine ⟨_, rfl, _, rfl, _, rfl, t, xs, rfl, .inl hS, h, q, _, rfl, L, by omega, by omega, fun j H' j0 j1 L' S' => ?_⟩
    obtain ⟨i, rfl⟩ : ∃ i : Nat, j = (i : Int) := ⟨j.toNat, by omega⟩
    have hi : i < xs.length := by omega
    have ex : xs[i]? = some xs[i] := List.getElem?_eq_getElem hi
    exact ⟨t, xs, _, _, rfl, rfl, S'.seq n1 n2 hS, atI_nat ex, k i _ H' ex L' S'⟩
end

abbrev s__law_lengths : Stmt := topS 25
theorem sc__law_lengths : FnScope ["_law_h", "_law_found", "_law_k", "_law_spot"] ["_law_h"] (defScope s__law_lengths) := ⟨rfl, rfl, rfl, by decide +kernel, rfl, by decide +kernel, by decide +kernel⟩
def sp__law_lengths (K : PySem.W.Frag) : Sp := fun vs H Q _ => ∃ (h q : Addr), vs = [.ref h] ∧ LawH H h q ∧
  ∀ (T : Addr) (ls : List Nat) (H' : Hp), IsLens ls → LawH H' h q → Sm h q H H' → H' T = some (.tup (ls.map fun n => V.int (n : Nat))) → Q (.ref T) H'
section
variable {P : Program} {w : World} {K : PySem.W.Frag} {mg : Str → Option Value} {base : Heap}
theorem ok__law_lengths (A : At K mg "_law_lengths" s__law_lengths ["_law_h"]) (B : Bn mg) (H__law_pick : CalE P w K mg base "_law_pick" ["_law_h", "_law_things"] 2 (sp__law_pick K)) (H__law_next : CalE P w K mg base "_law_next" ["_law_h", "_law_cap"] 1 (sp__law_next K)) : CalE P w K mg base "_law_lengths" ["_law_h"] 3 (sp__law_lengths K) := by
  obtain ⟨f, fd, F, gF, bF⟩ := A
  obtain ⟨f__law_pick, fd__law_pick, G__law_pick⟩ := H__law_pick
  obtain ⟨f__law_next, fd__law_next, G__law_next⟩ := H__law_next
  refine ⟨f, fd, F.ok sc__law_lengths (fun vs H Q E h => ?_) (fun cdv A outer s H vs Q E hr h => ?_), gF, F.kp, bF⟩
  · repeat (first | (obtain ⟨rfl, _⟩ := h; rfl) | (obtain ⟨_, h⟩ := h))
  · obtain ⟨h, q, rfl, L, k⟩ := h
    have hsz := sizeLine_eq
    refine ⟨_, (pss_cons (ps_set (i := 1) sc__law_lengths.nd rfl (.inl rfl) (pe_lst (pa_cons (pe_call G__law_pick.ok (hr.mono (by first | decide | exact Nat.le_refl _)) (by rfl) G__law_pick.g G__law_pick.kp G__law_pick.b .nil pass0 (pa_cons (pv 0) (pa_cons (pe_lst (pa_cons pe_int (pa_cons pe_int (pa_cons pe_int (pa_cons pe_int (pa_cons pe_int pa_nil)))))) pa_nil))) pa_nil)))
      (pss_cons (ps_for PassesOwn.never rfl (pi_range1 (by rfl) B.range_ (pa_cons (pe_call G__law_next.ok (hr.mono (by first | decide | exact Nat.le_refl _)) (by rfl) G__law_next.g G__law_next.kp G__law_next.b .nil pass0 (pa_cons (pv 0) (pa_cons (pe_call G__law_pick.ok (hr.mono (by first | decide | exact Nat.le_refl _)) (by rfl) G__law_pick.g G__law_pick.kp G__law_pick.b .nil pass0 (pa_cons (pv 0) (pa_cons (pe_lst (pa_cons pe_int (pa_cons pe_int (pa_cons pe_int pa_nil)))) pa_nil))) pa_nil))) pa_nil)) (pg_name (i := 2) sc__law_lengths.nd rfl (.inl rfl))
      (pss_cons (ps_set (i := 3) sc__law_lengths.nd rfl (.inl rfl) (pe_call G__law_next.ok (hr.mono (by first | decide | exact Nat.le_refl _)) (by rfl) G__law_next.g G__law_next.kp G__law_next.b .nil pass0 (pa_cons (pv 0) (pa_cons (pe_callB (call_len_seq_ K) (by rfl) B.len_ (by decide +kernel) (pa_cons (pv 1) pa_nil)) pa_nil))))
      (pss_one (ps_if (PW.pt (pw_and (pt_cmpR op_lt (pe_ix (ix_list_ K) (pv 1) (pv 3) (fun _ _ => rfl)) pe_int (nomark _)) (pw_and1 (pt_cmpR op_lt (pe_callB (call_len_seq_ K) (by rfl) B.len_ (by decide +kernel) (pa_cons (pv 1) pa_nil)) pe_int (nomark _)))))
      (pss_cons (ps_asg (pe_op op_add (pe_ix (ix_list_ K) (pv 1) (pv 3) (fun _ _ => rfl)) pe_int) (pg_sub (pv 1) (pv 3) set_list))
      (pss_one (ps_set (i := 1) sc__law_lengths.nd rfl (.inl rfl) (pe_op op_cat (pv 1) (pe_lst (pa_cons (pe_ix (ix_list_ K) (pv 1) (pv 3) (fun _ _ => rfl)) pa_nil))))))
      pss_nil))))
      (pss_cons (ps_if (pt_cmpR op_eq (pe_call G__law_next.ok (hr.mono (by first | decide | exact Nat.le_refl _)) (by rfl) G__law_next.g G__law_next.kp G__law_next.b .nil pass0 (pa_cons (pv 0) (pa_cons pe_int pa_nil))) pe_int (nomark _))
      (pss_cons (ps_set (i := 3) sc__law_lengths.nd rfl (.inl rfl) (pe_call G__law_next.ok (hr.mono (by first | decide | exact Nat.le_refl _)) (by rfl) G__law_next.g G__law_next.kp G__law_next.b .nil pass0 (pa_cons (pv 0) (pa_cons (pe_callB (call_len_seq_ K) (by rfl) B.len_ (by decide +kernel) (pa_cons (pv 1) pa_nil)) pa_nil))))
      (pss_one (ps_asg (pe_call G__law_pick.ok (hr.mono (by first | decide | exact Nat.le_refl _)) (by rfl) G__law_pick.g G__law_pick.kp G__law_pick.b .nil pass0 (pa_cons (pv 0) (pa_cons (pe_lst (pa_cons (pe_callB (call_max2 rfl) (by rfl) B.max_ (by decide +kernel) (pa_cons pe_int (pa_cons (pe_op op_sub (pe_ix (ix_list_ K) (pv 1) (pv 3) (fun _ _ => rfl)) pe_int) pa_nil))) (pa_cons (pe_callB (call_min2 rfl) (by rfl) B.min_ (by decide +kernel) (pa_cons pe_int (pa_cons (pe_op op_add (pe_ix (ix_list_ K) (pv 1) (pv 3) (fun _ _ => rfl)) pe_int) pa_nil))) (pa_cons pe_int pa_nil)))) pa_nil))) (pg_sub (pv 1) (pv 3) set_list))))
      pss_nil)
      (pss_one (ps_ret (pe_callTy (call_tuple_of_ K) (by rfl) B.tuple_ (by decide +kernel) (pa_cons (pv 1) pa_nil))))))), ?_⟩
    refine ⟨_, rfl, (by show 5 ≤ sizeLine; omega), fun t nt => pickI L nt (fun z => by cases z) (by show 5 ≤ 1000; decide) fun x hx H1 L1 S1 => ?_⟩
    obtain ⟨c0, rfl, hc0⟩ : ∃ c : Nat, x = .int (c : Int) ∧ c ≤ 60 := by
      simp only [List.mem_cons, List.not_mem_nil, or_false] at hx
      rcases hx with rfl | rfl | rfl | rfl | rfl <;> exact ⟨_, rfl, by decide⟩
    refine ⟨(by show 1 ≤ sizeLine; omega), fun D nD => ?_⟩
    obtain ⟨nH, b1, b2⟩ := S1.fresh L1 nD
    have L2 := L1.same (same_new nD (.lst [.int (c0 : Nat)]))
    have eD : (upd H1 D (.lst [.int (c0 : Nat)])) D = some (.lst ([c0].map fun n => V.int (n : Nat))) := upd_same
    have S2 : Sm h q H (upd H1 D (.lst [.int (c0 : Nat)])) := S1.updL nH
    have hI : IsLens [c0] := ⟨Nat.le_refl 1, (by show 1 ≤ 40; decide), fun l hl => by rw [List.mem_singleton.mp hl]; exact hc0⟩
    generalize upd H1 D (.lst [.int (c0 : Nat)]) = H2 at *
    -- the loop
    refine ⟨_, rfl, _, rfl, (by show 3 ≤ sizeLine; omega), fun t nt => pickI L2 nt (fun z => by cases z) (by show 3 ≤ 1000; decide) fun x hx H3 L3 S3 => ?_⟩
    obtain ⟨c1, rfl, hc1, hc2⟩ : ∃ c : Nat, x = .int (c : Int) ∧ 1 ≤ c ∧ c ≤ 40 := by
      simp only [List.mem_cons, List.not_mem_nil, or_false] at hx
      rcases hx with rfl | rfl | rfl <;> exact ⟨_, rfl, by decide, by decide⟩
    refine ⟨h, q, _, rfl, L3, by omega, by omega, fun z H4 z0 z1 L4 S4 => ?_⟩
    obtain ⟨y, rfl⟩ : ∃ y : Nat, z = (y : Int) := ⟨z.toNat, by omega⟩
    refine ⟨_, rfl, by omega, by omega, ?_⟩
    rw [Int.toNat_natCast]
    have S34 := S3.trans S4
    refine for_range (lo := 0) (n := y) (fun j σ H5 => ∃ (F : Addr) (ls : List Nat) (v2 v3 : Option V), σ = [some (.ref h), some (.ref F), v2, v3] ∧ IsLens ls ∧ LawH H5 h q ∧ Sm h q H H5 ∧ H F = none ∧ F ≠ h ∧ F ≠ q ∧ H5 F = some (.lst (ls.map fun n => V.int (n : Nat)))) ⟨D, [c0], _, _, rfl, hI, L4, S2.trans S34, nH, b1, b2, S34 _ _ eD b1 b2⟩ ?_ ?_
    · rintro j σ H5 hj ⟨F, ls, v2, v3, rfl, hI, L5, S5, nF, f1, f2, eF⟩
      have lm : (ls.map fun n => V.int (n : Nat)).length = ls.length := List.length_map _
      have h1 := hI.l1
      have h40 := hI.l40
      refine ⟨_, rfl, _, rfl, F, _, rfl, .inl (.inl (.inl eF)), h, q, _, rfl, L5, by rw [lm]; omega, by rw [lm]; omega, fun z H6 z0 z1 L6 S6 => ?_⟩
      obtain ⟨s, rfl⟩ : ∃ y : Nat, z = (y : Int) := ⟨z.toNat, by omega⟩
      rw [lm] at z1
      have hs : s < ls.length := by omega
      obtain ⟨l, hl⟩ : ∃ l, ls[s]? = some l := ⟨_, List.getElem?_eq_getElem hs⟩
      have hl60 := hI.l60 l (List.mem_of_getElem? hl)
      have eF6 := S6 _ _ eF f1 f2
      have S56 := S5.trans S6
      have at1 : (ls.map fun n => V.int (n : Nat))[s]? = some (.int (l : Nat)) := by rw [List.getElem?_map, hl]; rfl
      refine ⟨_, rfl, _, rfl, F, _, _, _, rfl, rfl, .inl (.inl eF6), atI_nat at1, _, _, rfl, rfl, _, rfl, ?_⟩
      by_cases c1 : l < 60
      · refine iteDT (by omega) ?_
        refine ⟨_, rfl, F, _, rfl, .inl (.inl (.inl eF6)), _, _, rfl, rfl, _, rfl, ?_⟩
        by_cases c2 : ls.length < 40
        · refine iteDT (by rw [lm]; omega) ?_
          refine ⟨_, rfl, _, rfl, F, _, _, _, rfl, rfl, .inl (.inl eF6), atI_nat at1, _, _, rfl, rfl, _, rfl, _, rfl, F, _, _, s, rfl, rfl, eF6, ?_, ?_⟩
          · unfold ixN
            rw [if_pos (by omega), if_pos (by rw [lm]; omega), Int.toNat_natCast]
          have es : ((ls.map fun n => V.int (n : Nat)).set s (.int ((l : Int) + 1))) = (ls.set s (l + 1)).map fun n => V.int (n : Nat) := by rw [List.map_set]; rfl
          rw [es]
          have at2 : ((ls.set s (l + 1)).map fun n => V.int (n : Nat))[s]? = some (.int ((l + 1 : Nat) : Int)) := by rw [List.getElem?_map, List.getElem?_set_self hs]; rfl
          have eF7 : (upd H6 F (.lst ((ls.set s (l + 1)).map fun n => V.int (n : Nat)))) F = some (.lst ((ls.set s (l + 1)).map fun n => V.int (n : Nat))) := upd_same
          have L7 := L6.updL (l := (ls.set s (l + 1)).map fun n => V.int (n : Nat)) f1 f2
          have S7 := S56.updL (o := .lst ((ls.set s (l + 1)).map fun n => V.int (n : Nat))) nF
          generalize upd H6 F (.lst ((ls.set s (l + 1)).map fun n => V.int (n : Nat))) = H7 at *
          refine ⟨_, rfl, _, rfl, _, rfl, F, _, _, _, rfl, rfl, .inl (.inl eF7), atI_nat at2, (by show 1 ≤ sizeLine; omega), fun t nt => ?_⟩
          have s8 := same_new nt (.lst [.int ((l + 1 : Nat) : Int)])
          refine ⟨F, t, _, _, rfl, rfl, s8 _ _ eF7, upd_same, by rw [List.length_map, List.length_set]; show _ + 1 ≤ _; omega, fun D2 nD2 => ?_⟩
          have S8 := S7.trans (Sm.of s8)
          have L8 := L7.same s8
          obtain ⟨nH2, d1, d2⟩ := S8.fresh L8 nD2
          have s9 := same_new nD2 (.lst ((ls.set s (l + 1)).map (fun n => V.int (n : Nat)) ++ [.int ((l + 1 : Nat) : Int)]))
          refine ⟨D2, ls.set s (l + 1) ++ [l + 1], _, _, rfl, ⟨by rw [List.length_append]; show 1 ≤ _ + 1; omega, by rw [List.length_append, List.length_set]; show _ + 1 ≤ 40; omega, fun x hx => ?_⟩, L8.same s9, S8.trans (Sm.of s9), nH2, d1, d2, ?_⟩
          · rcases List.mem_append.mp hx with hx | hx
            · rcases List.mem_or_eq_of_mem_set hx with hx | hx
              · exact hI.l60 _ hx
              · omega
            · rw [List.mem_singleton.mp hx]
              omega
          · rw [upd_same, List.map_append]
            rfl
        · refine iteDF (by rw [lm]; omega) ?_
          exact ⟨F, ls, _, _, rfl, hI, L6, S56, nF, f1, f2, eF6⟩
      · refine iteDF (by omega) ?_
        exact ⟨F, ls, _, _, rfl, hI, L6, S56, nF, f1, f2, eF6⟩
    · rintro σ H5 ⟨F, ls, v2, v3, rfl, hI, L5, S5, nF, f1, f2, eF⟩
      have lm : (ls.map fun n => V.int (n : Nat)).length = ls.length := List.length_map _
      have h1 := hI.l1
      have h40 := hI.l40
      have fin : ∀ (ls : List Nat) H6, IsLens ls → LawH H6 h q → Sm h q H H6 → H6 F = some (.lst (ls.map fun n => V.int (n : Nat))) → ∀ T, H6 T = none → Q (.ref T) (upd H6 T (.tup (ls.map fun n => V.int (n : Nat)))) := fun ls H6 hI L S e T nT => by
        have s := same_new nT (.tup (ls.map fun n => V.int (n : Nat)))
        exact k T ls _ hI (L.same s) (S.trans (Sm.of s)) upd_same
      refine ⟨_, rfl, h, q, 2, rfl, L5, by decide, by decide, fun z H6 z0 z1 L6 S6 => ?_⟩
      have eF6 := S6 _ _ eF f1 f2
      have S56 := S5.trans S6
      refine ⟨rfl, _, rfl, ?_⟩
      by_cases cz : z = 0
      · subst cz
        refine iteDT rfl ?_
        refine ⟨_, rfl, _, rfl, F, _, rfl, .inl (.inl (.inl eF6)), h, q, _, rfl, L6, by rw [lm]; omega, by rw [lm]; omega, fun z H7 y0 y1 L7 S7 => ?_⟩
        obtain ⟨s, rfl⟩ : ∃ y : Nat, z = (y : Int) := ⟨z.toNat, by omega⟩
        rw [lm] at y1
        have hs : s < ls.length := by omega
        obtain ⟨l, hl⟩ : ∃ l, ls[s]? = some l := ⟨_, List.getElem?_eq_getElem hs⟩
        have hl60 := hI.l60 l (List.mem_of_getElem? hl)
        have eF7 := S7 _ _ eF6 f1 f2
        have S57 := S56.trans S7
        have at1 : (ls.map fun n => V.int (n : Nat))[s]? = some (.int (l : Nat)) := by rw [List.getElem?_map, hl]; rfl
        refine ⟨_, rfl, _, rfl, _, rfl, F, _, _, _, rfl, rfl, .inl (.inl eF7), atI_nat at1, _, _, rfl, rfl, _, _, rfl, _, rfl, _, rfl, F, _, _, _, rfl, rfl, .inl (.inl eF7), atI_nat at1, _, _, rfl, rfl, _, _, rfl, (by show 3 ≤ sizeLine; omega), fun t nt => pickI L7 nt (fun z => by cases z) (by show 3 ≤ 1000; decide) fun x hx H8 L8 S8 => ?_⟩
        obtain ⟨c, rfl, hc⟩ : ∃ c : Nat, x = .int (c : Int) ∧ c ≤ 60 := by
          simp only [List.mem_cons, List.not_mem_nil, or_false] at hx
          rcases hx with rfl | rfl | rfl
          · refine ⟨l - 1, congrArg V.int ?_, by omega⟩
            split <;> omega
          · refine ⟨min 60 (l + 1), congrArg V.int ?_, by omega⟩
            split <;> omega
          · exact ⟨60, rfl, by decide⟩
        have eF8 := S8 _ _ eF7 f1 f2
        have S58 := S57.trans S8
        refine ⟨_, rfl, _, rfl, F, _, _, s, rfl, rfl, eF8, ?_, ?_⟩
        · unfold ixN
          rw [if_pos (by omega), if_pos (by rw [lm]; omega), Int.toNat_natCast]
        have es : ((ls.map fun n => V.int (n : Nat)).set s (.int (c : Int))) = (ls.set s c).map fun n => V.int (n : Nat) := by rw [List.map_set]
        rw [es]
        refine ⟨_, rfl, F, _, rfl, .inl ⟨.inl (.inl upd_same), fin (ls.set s c) _ ⟨by rw [List.length_set]; omega, by rw [List.length_set]; omega, fun x hx => ?_⟩ (L8.updL f1 f2) (S58.updL nF) upd_same⟩⟩
        rcases List.mem_or_eq_of_mem_set hx with hx | hx
        · exact hI.l60 _ hx
        · omega
      · refine iteDF (fun y => cz (V.int.inj y)) ?_
        exact ⟨_, rfl, F, _, rfl, .inl ⟨.inl (.inl eF6), fin ls _ hI L6 S56 eF6⟩⟩
end

abbrev s__law_double : Stmt := topS 21
theorem sc__law_double : FnScope ["_law_times", "_law_found", "_law_again"] ["_law_times"] (defScope s__law_double) := ⟨rfl, rfl, rfl, by decide +kernel, rfl, by decide +kernel, by decide +kernel⟩
def sp__law_double (K : PySem.W.Frag) : Sp := fun vs H Q _ => ∃ t : Nat, vs = [.int (t : Nat)] ∧ t ≤ 1000 ∧ Q (.int ((2 ^ t : Nat) : Int)) H
section
variable {P : Program} {w : World} {K : PySem.W.Frag} {mg : Str → Option Value} {base : Heap}
theorem ok__law_double (A : At K mg "_law_double" s__law_double ["_law_times"]) (B : Bn mg) : CalE P w K mg base "_law_double" ["_law_times"] 1 (sp__law_double K) := by
  obtain ⟨f, fd, F, gF, bF⟩ := A
  refine ⟨f, fd, F.ok sc__law_double (fun vs H Q E h => ?_) (fun cdv A outer s H vs Q E hr h => ?_), gF, F.kp, bF⟩
  · repeat (first | (obtain ⟨rfl, _⟩ := h; rfl) | (obtain ⟨_, h⟩ := h))
  · obtain ⟨t, rfl, ht, k⟩ := h
    refine ⟨_, (pss_cons (ps_set (i := 1) sc__law_double.nd rfl (.inl rfl) pe_int)
      (pss_cons (ps_for PassesOwn.never rfl (pi_range1 (by rfl) B.range_ (pa_cons (pv 0) pa_nil)) (pg_name (i := 2) sc__law_double.nd rfl (.inl rfl))
      (pss_one (ps_set (i := 1) sc__law_double.nd rfl (.inl rfl) (pe_op op_mul (pv 1) pe_int))))
      (pss_one (ps_ret (pv 1))))), ?_⟩
    refine ⟨_, rfl, _, rfl, by omega, by omega, for_range (lo := 0) (n := t) (fun i σ H2 => ∃ v, σ = [some (.int (t : Nat)), some (.int ((2 ^ i : Nat) : Int)), v] ∧ H2 = H) ⟨_, rfl, rfl⟩ ?_ ?_⟩
    · rintro i σ H2 hi ⟨v, rfl, rfl⟩
      refine ⟨_, rfl, _, _, rfl, rfl, .inr (by omega), ?_⟩
      have e : ((2 ^ i : Nat) : Int) * 2 = ((2 ^ (i + 1) : Nat) : Int) := by
        rw [Nat.pow_succ, Int.natCast_mul]
        rfl
      refine ⟨some (.int (0 + (i : Nat))), ?_, rfl⟩
      show [_, some (V.int (((2 ^ i : Nat) : Int) * 2)), _] = _
      rw [e]
    · rintro σ H2 ⟨v, rfl, rfl⟩
      exact ⟨_, rfl, k⟩
end

abbrev s__law_figures : Stmt := topS 24
theorem sc__law_figures : FnScope ["_law_number", "_law_many", "_law_found", "_law_spot"] ["_law_number", "_law_many"] (defScope s__law_figures) := ⟨rfl, rfl, rfl, by decide +kernel, rfl, by decide +kernel, by decide +kernel⟩
def sp__law_figures (K : PySem.W.Frag) : Sp := fun vs H Q _ => ∃ n c : Nat, vs = [.int (n : Nat), .int (c : Nat)] ∧ c ≤ 60 ∧ Q (.str (tx (fig n c))) H
section
variable {P : Program} {w : World} {K : PySem.W.Frag} {mg : Str → Option Value} {base : Heap}
theorem ok__law_figures (A : At K mg "_law_figures" s__law_figures ["_law_number", "_law_many"]) (B : Bn mg) (H__law_double : CalE P w K mg base "_law_double" ["_law_times"] 1 (sp__law_double K)) : CalE P w K mg base "_law_figures" ["_law_number", "_law_many"] 2 (sp__law_figures K) := by
  obtain ⟨f, fd, F, gF, bF⟩ := A
  obtain ⟨f__law_double, fd__law_double, G__law_double⟩ := H__law_double
  refine ⟨f, fd, F.ok sc__law_figures (fun vs H Q E h => ?_) (fun cdv A outer s H vs Q E hr h => ?_), gF, F.kp, bF⟩
  · repeat (first | (obtain ⟨rfl, _⟩ := h; rfl) | (obtain ⟨_, h⟩ := h))
  · obtain ⟨n, c, rfl, hc, k⟩ := h
    have hsz := sizeLine_eq
    refine ⟨_, (pss_cons (ps_set (i := 2) sc__law_figures.nd rfl (.inl rfl) pe_str)
      (pss_cons (ps_for PassesOwn.never rfl (pi_range1 (by rfl) B.range_ (pa_cons (pv 1) pa_nil)) (pg_name (i := 3) sc__law_figures.nd rfl (.inl rfl))
      (pss_one (ps_set (i := 2) sc__law_figures.nd rfl (.inl rfl) (pe_op op_add_str (pv 2) (pe_ifExp (pt_cmpR op_eq (pe_op op_mod (pe_callTy call_int1 (by rfl) B.int_ (by decide +kernel) (pa_cons (pe_op op_fdivW (pv 0) (pe_call G__law_double.ok (hr.mono (by first | decide | exact Nat.le_refl _)) (by rfl) G__law_double.g G__law_double.kp G__law_double.b .nil pass0 (pa_cons (pe_op op_sub (pe_op op_sub (pv 1) pe_int) (pv 3)) pa_nil))) pa_nil)) pe_int) pe_int (nomark _)) pe_str pe_str)))))
      (pss_one (ps_ret (pv 2))))), ?_⟩
    refine ⟨_, rfl, _, rfl, by omega, by omega, ?_⟩
    rw [Int.toNat_natCast]
    refine for_range (lo := 0) (n := c) (fun i σ H3 => ∃ v, σ = [some (.int (n : Nat)), some (.int (c : Nat)), some (.str (tx ((fig n c).take i))), v] ∧ H3 = H) ⟨none, by rw [tx_nil]; rfl, rfl⟩ ?_ ?_
    · rintro i σ H3 hi ⟨v, rfl, rfl⟩
      refine ⟨_, rfl, _, rfl, _, rfl, _, _, rfl, rfl, _, rfl, _, _, rfl, rfl, c - 1 - i, ?_, by omega, ?_⟩
      · show [V.int (((c : Nat) : Int) - 1 - (0 + (i : Int)))] = _
        rw [show (((c : Nat) : Int) - 1 - (0 + (i : Int))) = ((c - 1 - i : Nat) : Int) by omega]
      have hp : (0 : Int) < ((2 ^ (c - 1 - i) : Nat) : Int) := Int.ofNat_lt.mpr (Nat.pow_pos (by decide))
      have hb : (((2 ^ (c - 1 - i) : Nat) : Int)).natAbs < 2 ^ 61 := by
        rw [Int.natAbs_natCast]
        exact Nat.pow_lt_pow_right (by decide) (by omega)
      refine ⟨_, _, rfl, rfl, wide_div hp hb (by decide) (by decide), .inl ⟨_, rfl, _, _, rfl, rfl, (by decide : (0 : Int) < 2), rfl, _, rfl, ?_⟩⟩
      have ft := fig_take n c i hi
      have ll : ((fig n c).take i).length ≤ c := by rw [List.length_take, fig_len]; omega
      have go : ∀ b : Bool, b = (n / 2 ^ (c - 1 - i) % 2 == 1) → tx ((fig n c).take i) ++ tx [b] = tx ((fig n c).take (i + 1)) := by
        rintro b rfl
        rw [tx_app, ft]
      have bi := bit_int n (c - 1 - i)
      refine ite2 (fun z => ?_) (fun z => ?_)
      · have z' := bi.mp (V.int.inj (of_decide_eq_true z))
        refine ⟨_, _, rfl, rfl, by rw [tx_one, tx_len, tx_len]; show _ + 1 ≤ sizeLine; omega, some (.int (0 + (i : Int))), ?_, rfl⟩
        show [_, _, some (V.str (tx ((fig n c).take i) ++ ("1" : Str))), _] = _
        rw [tx_one, go true z'.symm]
      · have z' : (n / 2 ^ (c - 1 - i) % 2 == 1) = false := Bool.eq_false_iff.mpr fun y => z (decide_eq_true (congrArg V.int (bi.mpr y)))
        refine ⟨_, _, rfl, rfl, by rw [tx_zero, tx_len, tx_len]; show _ + 1 ≤ sizeLine; omega, some (.int (0 + (i : Int))), ?_, rfl⟩
        show [_, _, some (V.str (tx ((fig n c).take i) ++ ("0" : Str))), _] = _
        rw [tx_zero, go false z'.symm]
    · rintro σ H3 ⟨v, rfl, rfl⟩
      refine ⟨_, rfl, ?_⟩
      rw [List.take_of_length_le (by rw [fig_len]; exact Nat.le_refl _)]
      exact k
end

abbrev s__law_alike : Stmt := topS 19
theorem sc__law_alike : FnScope ["_law_found", "_law_due", "_law_k"] ["_law_found", "_law_due"] (defScope s__law_alike) := ⟨rfl, rfl, rfl, by decide +kernel, rfl, by decide +kernel, by decide +kernel⟩
def tnD : PyData → String
  | .none => "NoneType" | .bool _ => "bool" | .int _ => "int" | .str _ => "str" | .list _ => "list" | .tuple _ => "tuple" | .dict _ => "dict"
theorem Dp.ty {K : PySem.W.Frag} {H : Hp} {v : V} {d : PyData} (h : Dp K H v d) : TyX K H v (.type (tnD d)) := by
  cases h with
  | non => exact .base .non
  | bl b => exact .base (.bl b)
  | int i => exact .base (.int i)
  | str x => exact .base (.str x)
  | lst h _ => exact tyL h
  | tup h _ => exact tyT h
def isLD : PyData → Bool
  | .list _ => true | _ => false
theorem kaTL {K : PySem.W.Frag} (d : PyData) : PySem.W.kitAny K (.type (tnD d)) [.type "tuple", .type "list"] = some (isTL d) := by
  have no : ∀ T : String, kitB T "tuple" = some false → kitB T "list" = some false → PySem.W.kitAny K (.type T) [.type "tuple", .type "list"] = some false := fun T h1 h2 =>
    kitAny_cons (b := false) (kit_ty h1) (fun _ => kitAny_cons (b := false) (kit_ty h2) (fun _ => rfl) (fun z => nomatch z)) (fun z => nomatch z)
  have c1 : kitB "tuple" "tuple" = some true := by decide +kernel
  have c2 : kitB "list" "tuple" = some false := by decide +kernel
  have c3 : kitB "list" "list" = some true := by decide +kernel
  cases d with
  | none => exact no "NoneType" (by decide +kernel) (by decide +kernel)
  | bool b => exact no "bool" (by decide +kernel) (by decide +kernel)
  | int b => exact no "int" (by decide +kernel) (by decide +kernel)
  | str b => exact no "str" (by decide +kernel) (by decide +kernel)
  | dict b => exact no "dict" (by decide +kernel) (by decide +kernel)
  | tuple b => exact kitAny_cons (b := true) (kit_ty c1) (fun z => nomatch z) (fun _ => rfl)
  | list b => exact kitAny_cons (b := false) (kit_ty c2) (fun _ => kitAny_cons (b := true) (kit_ty c3) (fun z => nomatch z) (fun _ => rfl)) (fun z => nomatch z)
theorem kaL {K : PySem.W.Frag} (d : PyData) : PySem.W.kitOne K (.type (tnD d)) (.type "list") = some (isLD d) := by
  have c1 : kitB "NoneType" "list" = some false := by decide +kernel
  have c2 : kitB "bool" "list" = some false := by decide +kernel
  have c3 : kitB "int" "list" = some false := by decide +kernel
  have c4 : kitB "str" "list" = some false := by decide +kernel
  have c5 : kitB "list" "list" = some true := by decide +kernel
  have c6 : kitB "tuple" "list" = some false := by decide +kernel
  have c7 : kitB "dict" "list" = some false := by decide +kernel
  cases d <;> first | exact kit_ty c1 | exact kit_ty c2 | exact kit_ty c3 | exact kit_ty c4 | exact kit_ty c5 | exact kit_ty c6 | exact kit_ty c7
theorem kit_of_names {K : PySem.W.Frag} (c : String) (g : PyData → Bool) (h : ∀ d, kitB (tnD d) c = some (g d)) (d : PyData) : PySem.W.kitOne K (.type (tnD d)) (.type c) = some (g d) := kit_ty (h d)
def isSD : PyData → Bool
  | .str _ => true | _ => false
def isID : PyData → Bool
  | .int _ => true | .bool _ => true | _ => false
def isBD : PyData → Bool
  | .bool _ => true | _ => false
theorem tab {c : String} {b1 b2 b3 b4 b5 b6 b7 : Bool} (h : kitB "NoneType" c = some b1 ∧ kitB "bool" c = some b2 ∧ kitB "int" c = some b3 ∧ kitB "str" c = some b4 ∧ kitB "list" c = some b5 ∧ kitB "tuple" c = some b6 ∧ kitB "dict" c = some b7) (d : PyData) :
    kitB (tnD d) c = some (match d with | .none => b1 | .bool _ => b2 | .int _ => b3 | .str _ => b4 | .list _ => b5 | .tuple _ => b6 | .dict _ => b7) := by
  obtain ⟨h1, h2, h3, h4, h5, h6, h7⟩ := h
  cases d <;> assumption
theorem kS {K : PySem.W.Frag} (d : PyData) : PySem.W.kitOne K (.type (tnD d)) (.type "str") = some (isSD d) := by
  have := kit_ty (K := K) (tab (c := "str") (by decide +kernel : kitB "NoneType" "str" = some false ∧ kitB "bool" "str" = some false ∧ kitB "int" "str" = some false ∧ kitB "str" "str" = some true ∧ kitB "list" "str" = some false ∧ kitB "tuple" "str" = some false ∧ kitB "dict" "str" = some false) d)
  cases d <;> exact this
theorem kI {K : PySem.W.Frag} (d : PyData) : PySem.W.kitOne K (.type (tnD d)) (.type "int") = some (isID d) := by
  have := kit_ty (K := K) (tab (c := "int") (by decide +kernel : kitB "NoneType" "int" = some false ∧ kitB "bool" "int" = some true ∧ kitB "int" "int" = some true ∧ kitB "str" "int" = some false ∧ kitB "list" "int" = some false ∧ kitB "tuple" "int" = some false ∧ kitB "dict" "int" = some false) d)
  cases d <;> exact this
theorem kB {K : PySem.W.Frag} (d : PyData) : PySem.W.kitOne K (.type (tnD d)) (.type "bool") = some (isBD d) := by
  have := kit_ty (K := K) (tab (c := "bool") (by decide +kernel : kitB "NoneType" "bool" = some false ∧ kitB "bool" "bool" = some true ∧ kitB "int" "bool" = some false ∧ kitB "str" "bool" = some false ∧ kitB "list" "bool" = some false ∧ kitB "tuple" "bool" = some false ∧ kitB "dict" "bool" = some false) d)
  cases d <;> exact this
def spA (K : PySem.W.Frag) (n : Nat) : Sp := fun vs H Q _ => ∃ (x y : V) (d : PyData) (m : Nat), vs = [x, y] ∧ n = m + 1 ∧ Dp K H x d ∧ Dp K H y d ∧ OkD m d ∧ ∀ H', Same H H' → Q (.bl true) H'
def sp__law_alike (K : PySem.W.Frag) : Sp := spA K 5
section
variable {P : Program} {w : World} {K : PySem.W.Frag} {mg : Str → Option Value} {base : Heap}
theorem ok__law_alike (A : At K mg "_law_alike" s__law_alike ["_law_found", "_law_due"]) (B : Bn mg) : CalE P w K mg base "_law_alike" ["_law_found", "_law_due"] 5 (sp__law_alike K) := by
  obtain ⟨f, fd, F, gF, bF⟩ := A
  have key : ∀ n, FnOk P w K mg base CX0 n f fd ["_law_found", "_law_due"] (spA K n) := by
    intro n
    induction n with
    | zero =>
      have no : ∀ vs H Q E, ¬ spA K 0 vs H Q E := fun vs H Q E h => by
        obtain ⟨x, y, d, m, _, h1, _⟩ := h
        omega
      exact ⟨fun vs H Q E h => absurd h (no vs H Q E), fun A outer s H args us vs Q E _ _ _ _ h => absurd h (no vs H Q E)⟩
    | succ n ih =>
      have G__law_alike : Cal P w K mg base "_law_alike" ["_law_found", "_law_due"] n (spA K n) f fd := ⟨ih, gF, F.kp, bF⟩
      refine F.ok sc__law_alike (fun vs H Q E h => ?_) (fun cdv A outer s H vs Q E hr h => ?_)
      · obtain ⟨x, y, d, m, rfl, _⟩ := h
        rfl
      obtain ⟨x, y, d, m, rfl, em, hx, hy, hd, q⟩ := h
      have em' : n = m := Nat.succ.inj em
      subst em'
      refine ⟨_, (pss_cons (ps_if (pt_val (pe_callB (call_isiT_ K) (by rfl) B.isinstance_ (by decide +kernel) (pa_cons (pv 1) (pa_cons (pe_tup (pa_cons (pe_bltn (v := .ty "tuple") (by rfl) B.tuple_ (by decide +kernel) rfl) (pa_cons (pe_bltn (v := .ty "list") (by rfl) B.list_ (by decide +kernel) rfl) pa_nil))) pa_nil))))
      (pss_cons (ps_if (PW.pt (pw_or (pt_not (pt_val (pe_callB (call_isiT_ K) (by rfl) B.isinstance_ (by decide +kernel) (pa_cons (pv 0) (pa_cons (pe_tup (pa_cons (pe_bltn (v := .ty "tuple") (by rfl) B.tuple_ (by decide +kernel) rfl) (pa_cons (pe_bltn (v := .ty "list") (by rfl) B.list_ (by decide +kernel) rfl) pa_nil))) pa_nil))))) (pw_or1 (pt_cmpR op_ne (pe_callB (call_isi_ K) (by rfl) B.isinstance_ (by decide +kernel) (pa_cons (pv 0) (pa_cons (pe_bltn (v := .ty "list") (by rfl) B.list_ (by decide +kernel) rfl) pa_nil))) (pe_callB (call_isi_ K) (by rfl) B.isinstance_ (by decide +kernel) (pa_cons (pv 1) (pa_cons (pe_bltn (v := .ty "list") (by rfl) B.list_ (by decide +kernel) rfl) pa_nil))) (nomark _)))))
      (pss_one (ps_ret pe_bl))
      pss_nil)
      (pss_cons (ps_if (pt_cmpR op_ne (pe_callB (call_len_ K) (by rfl) B.len_ (by decide +kernel) (pa_cons (pv 0) pa_nil)) (pe_callB (call_len_ K) (by rfl) B.len_ (by decide +kernel) (pa_cons (pv 1) pa_nil)) (nomark _))
      (pss_one (ps_ret pe_bl))
      pss_nil)
      (pss_one (ps_ret (pe_cmpR (op_eqD_ K hr.units) (pe_lc (own := [("_law_k", 2)]) (g := gName 2) (tt := _) rfl sc__law_alike.nd (pi_range1 (by rfl) B.range_ (pa_cons (pe_callB (call_len_ K) (by rfl) B.len_ (by decide +kernel) (pa_cons (pv 1) pa_nil)) pa_nil)) (blkOk_by (own := [("_law_k", 2)]) (N := ["_law_found", "_law_due", "_law_k"]) (sc := defScope s__law_alike) (by decide +kernel)) (fun _ _ _ _ _ => (pg_name (i := 2) sc__law_alike.nd rfl (.inl rfl))) (fun _ _ _ _ _ => (pts_one (pt_not (pt_val (pe_call G__law_alike.ok (hr.mono (by first | decide | exact Nat.le_refl _)) (by rfl) G__law_alike.g G__law_alike.kp G__law_alike.b .nil pass0 (pa_cons (pe_ix (ix_seq_ K) (pv 0) (pv 2) (fun _ _ => rfl)) (pa_cons (pe_ix (ix_seq_ K) (pv 1) (pv 2) (fun _ _ => rfl)) pa_nil))))))) (fun _ _ _ _ _ => (pv 2))) (pe_lst pa_nil) (nomark _))))))
      pss_nil)
      (pss_cons (ps_if (PW.pt (pw_or (pt_cmp (pc_isN (pv 1))) (pw_or1 (pt_val (pe_callB (call_isi_ K) (by rfl) B.isinstance_ (by decide +kernel) (pa_cons (pv 1) (pa_cons (pe_bltn (v := .ty "str") (by rfl) B.str_ (by decide +kernel) rfl) pa_nil)))))))
      (pss_one (ps_ret (pe_and (pe_cmpR op_eq (pv 0) (pv 1) (nomark _)) (pe_one (pe_cmpR op_eq (pe_callB (call_isi_ K) (by rfl) B.isinstance_ (by decide +kernel) (pa_cons (pv 0) (pa_cons (pe_bltn (v := .ty "str") (by rfl) B.str_ (by decide +kernel) rfl) pa_nil))) (pe_callB (call_isi_ K) (by rfl) B.isinstance_ (by decide +kernel) (pa_cons (pv 1) (pa_cons (pe_bltn (v := .ty "str") (by rfl) B.str_ (by decide +kernel) rfl) pa_nil))) (nomark _))))))
      pss_nil)
      (pss_one (ps_ret (pe_and (pe_callB (call_isi_ K) (by rfl) B.isinstance_ (by decide +kernel) (pa_cons (pv 0) (pa_cons (pe_bltn (v := .ty "int") (by rfl) B.int_ (by decide +kernel) rfl) pa_nil))) (pe_and (pe_cmpR op_eq (pe_callB (call_isi_ K) (by rfl) B.isinstance_ (by decide +kernel) (pa_cons (pv 0) (pa_cons (pe_bltn (v := .ty "bool") (by rfl) B.bool_ (by decide +kernel) rfl) pa_nil))) (pe_callB (call_isi_ K) (by rfl) B.isinstance_ (by decide +kernel) (pa_cons (pv 1) (pa_cons (pe_bltn (v := .ty "bool") (by rfl) B.bool_ (by decide +kernel) rfl) pa_nil))) (nomark _)) (pe_one (pe_cmpR op_eq (pv 0) (pv 1) (nomark _))))))))), ?_⟩
      -- isinstance(due, (tuple, list))
      refine ⟨_, rfl, (by show 2 ≤ sizeLine; decide), fun p np => ?_⟩
      have s1 := same_new np (.tup [.ty "tuple", .ty "list"])
      have x1 := Dp.same s1 hx
      have y1 := Dp.same s1 hy
      have two : ([V.ty "tuple", V.ty "list"] : List V).length ≤ sizeLine := by show 2 ≤ sizeLine; decide
      refine ⟨_, p, _, _, _, _, rfl, upd_same, .cons (.ty _) (.cons (.ty _) .nil), Dp.ty y1, kaTL d, _, rfl, ?_⟩
      have flat : isTL d = false → (d = .none ∨ (∃ b, d = .bool b) ∨ (∃ i, d = .int i) ∨ ∃ z, d = .str z) := by
        intro h
        cases d with
        | none => exact .inl rfl
        | bool b => exact .inr (.inl ⟨b, rfl⟩)
        | int i => exact .inr (.inr (.inl ⟨i, rfl⟩))
        | str z => exact .inr (.inr (.inr ⟨z, rfl⟩))
        | list _ => cases h
        | tuple _ => cases h
        | dict _ => cases hy
      cases hd0 : isTL d with
      | true =>
        refine iteT ?_
        -- not isinstance(found, (tuple, list)) or isinstance(found, list) != isinstance(due, list)
        refine ⟨_, rfl, two, fun p2 np2 => ?_⟩
        have s2 := same_new np2 (.tup [.ty "tuple", .ty "list"])
        refine ⟨_, p2, _, _, _, _, rfl, upd_same, .cons (.ty _) (.cons (.ty _) .nil), Dp.ty (Dp.same s2 x1), kaTL d, _, rfl, ?_⟩
        have x2 := Dp.same s2 x1
        have y2 := Dp.same s2 y1
        have s3 := s1.trans s2
        generalize upd (upd H p (.tup [.ty "tuple", .ty "list"])) p2 (.tup [.ty "tuple", .ty "list"]) = H2 at *
        rw [hd0]
        refine iteF ?_
        refine ⟨_, rfl, _, _, _, _, _, rfl, .ty _, Dp.ty x2, kaL d, _, rfl, _, _, _, _, _, rfl, .ty _, Dp.ty y2, kaL d, rfl, _, rfl, ?_⟩
        refine iteNS rfl ?_
        obtain ⟨a, xs, ds, rfl, ha, da⟩ := Dp.seq x2 hd0
        obtain ⟨b, ys, es, rfl, hb, db⟩ := Dp.seq y2 hd0
        have ee : es = ds := by
          rcases ha with ⟨e1, _⟩ | ⟨e1, _⟩ <;> rcases hb with ⟨e2, _⟩ | ⟨e2, _⟩
          · exact PyData.list.inj (e2.symm.trans e1)
          · cases e2.symm.trans e1
          · cases e2.symm.trans e1
          · exact PyData.tuple.inj (e2.symm.trans e1)
        subst ee
        have qa : SqL K H2 a xs ∨ SqT K H2 a xs := ha.elim (fun z => .inl z.2) (fun z => .inr z.2)
        have qb : SqL K H2 b ys ∨ SqT K H2 b ys := hb.elim (fun z => .inl z.2) (fun z => .inr z.2)
        have lx : xs.length = es.length := DpAll.length da
        have ly : ys.length = es.length := DpAll.length db
        obtain ⟨n', rfl, hsz, hok⟩ : ∃ n', n = n' + 1 ∧ es.length ≤ 1000000 ∧ ∀ d ∈ es, OkD n' d := by
          cases n with
          | zero => rcases ha with ⟨rfl, _⟩ | ⟨rfl, _⟩ <;> exact absurd hd id
          | succ n' => rcases ha with ⟨rfl, _⟩ | ⟨rfl, _⟩ <;> exact ⟨n', rfl, hd.1, hd.2⟩
        have La : ∀ H3, Same H2 H3 → LenV K (.ref a) H3 es.length := fun H3 s => qa.elim (fun z => .inl ⟨_, s.seq z, lx.symm⟩) (fun z => .inr ⟨_, Same.seqT s z, lx.symm⟩)
        have Lb : ∀ H3, Same H2 H3 → LenV K (.ref b) H3 es.length := fun H3 s => qb.elim (fun z => .inl ⟨_, s.seq z, ly.symm⟩) (fun z => .inr ⟨_, Same.seqT s z, ly.symm⟩)
        -- len(found) != len(due)
        refine ⟨_, rfl, _, es.length, rfl, La _ (Same.refl _), _, rfl, _, es.length, rfl, Lb _ (Same.refl _), rfl, _, rfl, iteNS rfl ?_⟩
        -- the comprehension
        refine ⟨_, rfl, _, es.length, rfl, Lb _ (Same.refl _), (es.length : Int), rfl, by omega, by omega, fun D nD => ?_⟩
        refine lc_range (lo := 0) (n := es.length) (fun i H' => Same H2 H' ∧ H' D = some (.lst [])) ⟨same_new nD _, upd_same⟩ ?_ ?_
        · rintro i H3 hi ⟨s4, eD⟩
          have hdi : es[i]? = some es[i] := List.getElem?_eq_getElem hi
          obtain ⟨u, hu, du⟩ := DpAll.get da hdi
          obtain ⟨v, hv, dv⟩ := DpAll.get db hdi
          have ei : (0 : Int) + (i : Int) = ((i : Nat) : Int) := Int.zero_add _
          refine ⟨rfl, _, rfl, _, rfl, ?_⟩
          have g1 : rIx K (.ref a) (.int (0 + (i : Int))) H3 = fun Q => rIx K (.ref a) (.int (0 + (i : Int))) H3 Q := rfl
          have ra : ∀ Q : VK, Q u H3 → rIx K (.ref a) (.int (0 + (i : Int))) H3 Q := fun Q q => qa.elim (fun z => .inl ⟨a, xs, _, u, rfl, rfl, s4.seq z, at_of ei hu, q⟩) (fun z => .inr (.inl ⟨a, xs, _, u, rfl, rfl, Same.seqT s4 z, at_of ei hu, q⟩))
          have rb : ∀ Q : VK, Q v H3 → rIx K (.ref b) (.int (0 + (i : Int))) H3 Q := fun Q q => qb.elim (fun z => .inl ⟨b, ys, _, v, rfl, rfl, s4.seq z, at_of ei hv, q⟩) (fun z => .inr (.inl ⟨b, ys, _, v, rfl, rfl, Same.seqT s4 z, at_of ei hv, q⟩))
          refine ra _ ?_
          refine ⟨_, rfl, _, rfl, rb _ ?_⟩
          refine ⟨u, v, es[i], n', rfl, rfl, Dp.same s4 du, Dp.same s4 dv, hok _ (List.getElem_mem hi), fun H4 s5 => ?_⟩
          refine ⟨_, rfl, iteF ?_⟩
          exact ⟨s4.trans s5, s5 _ _ eD⟩
        · rintro H3 ⟨s4, eD⟩
          refine ⟨(by show 0 ≤ sizeLine; decide), fun l nl => ?_⟩
          have s5 := same_new nl (.lst [])
          refine ⟨.list [], .list [], .lst (.inl (.inl (s5 _ _ eD))) .nil, .lst (.inl (.inl upd_same)) .nil, by decide +kernel, by decide +kernel, ?_⟩
          have e : PyData.eqv (.list []) (.list []) = true := by decide +kernel
          rw [e]
          exact q _ (s3.trans (s4.trans s5))
      | false =>
        refine iteF ?_
        have cS : ∀ H3 (Q : VK), Same H H3 → Q (.bl true) H3 → (tOp rEq (tCB (rIsi K) (tCons (tVar 0) (tCons (tC (V.ty "str")) tNil))) (tCB (rIsi K) (tCons (tVar 1) (tCons (tC (V.ty "str")) tNil)))) [some x, some y, none] H3 Q := fun H3 Q s q => by
          refine ⟨_, rfl, _, _, _, _, _, rfl, .ty _, Dp.ty (Dp.same s hx), kS d, _, rfl, _, _, _, _, _, rfl, .ty _, Dp.ty (Dp.same s hy), kS d, rfl, ?_⟩
          rw [decide_eq_true rfl]
          exact q
        have cB : ∀ H3 (Q : VK), Same H H3 → Q (.bl true) H3 → (tOp rEq (tCB (rIsi K) (tCons (tVar 0) (tCons (tC (V.ty "bool")) tNil))) (tCB (rIsi K) (tCons (tVar 1) (tCons (tC (V.ty "bool")) tNil)))) [some x, some y, none] H3 Q := fun H3 Q s q => by
          refine ⟨_, rfl, _, _, _, _, _, rfl, .ty _, Dp.ty (Dp.same s hx), kB d, _, rfl, _, _, _, _, _, rfl, .ty _, Dp.ty (Dp.same s hy), kB d, rfl, ?_⟩
          rw [decide_eq_true rfl]
          exact q
        have exy : x = y ∧ scal x y = true := by
          rcases flat hd0 with rfl | ⟨b, rfl⟩ | ⟨i, rfl⟩ | ⟨z, rfl⟩ <;> cases hx <;> cases hy <;> exact ⟨rfl, rfl⟩
        obtain ⟨rfl, hsc⟩ := exy
        -- due is None or isinstance(due, str)
        refine ⟨_, rfl, _, rfl, ?_⟩
        have fin : ∀ b : Bool, (b = true → isSD d = true ∨ x = .non) → (b = false → isID d = true) → (fun b H1 => if b = true then tRet (tAndV (tOp rEq (tVar 0) (tVar 1)) (tOp rEq (tCB (rIsi K) (tCons (tVar 0) (tCons (tC (V.ty "str")) tNil))) (tCB (rIsi K) (tCons (tVar 1) (tCons (tC (V.ty "str")) tNil)))))
            { nx := fun _ _ => False, rt := Q } [some x, some x, none] H1 else tRet (tAndV (tCB (rIsi K) (tCons (tVar 0) (tCons (tC (V.ty "int")) tNil))) (tAndV (tOp rEq (tCB (rIsi K) (tCons (tVar 0) (tCons (tC (V.ty "bool")) tNil))) (tCB (rIsi K) (tCons (tVar 1) (tCons (tC (V.ty "bool")) tNil)))) (tOp rEq (tVar 0) (tVar 1)))) { nx := fun _ _ => False, rt := Q } [some x, some x, none] H1) b (upd H p (.tup [.ty "tuple", .ty "list"])) := by
          intro b h1 h2
          cases b with
          | true =>
            refine iteT ?_
            refine ⟨_, rfl, _, rfl, hsc, _, rfl, iteDT rfl ?_⟩
            exact cS _ _ s1 (q _ s1)
          | false =>
            refine iteF ?_
            refine ⟨_, rfl, _, _, _, _, _, rfl, .ty _, Dp.ty x1, kI d, _, rfl, ?_⟩
            rw [h2 rfl]
            refine iteT (cB _ _ s1 ⟨_, rfl, iteT ⟨_, rfl, _, rfl, hsc, ?_⟩⟩)
            rw [decide_eq_true rfl]
            exact q _ s1
        by_cases c : x = .non
        · exact iteDT c (fin true (fun _ => .inr c) (fun z => nomatch z))
        · refine iteDF c ?_
          refine ⟨_, rfl, _, _, _, _, _, rfl, .ty _, Dp.ty y1, kS d, _, rfl, fin _ (fun z => .inl z) (fun z => ?_)⟩
          rcases flat hd0 with rfl | ⟨b, rfl⟩ | ⟨i, rfl⟩ | ⟨w, rfl⟩
          · cases hx
            exact absurd rfl c
          · rfl
          · rfl
          · cases z
  exact ⟨f, fd, key 5, gF, F.kp, bF⟩
end

abbrev s_is_integer : Stmt := topS 5
theorem sc_is_integer : FnScope ["thing", "low", "high"] ["thing", "low", "high"] (defScope s_is_integer) := ⟨rfl, rfl, rfl, by decide +kernel, rfl, by decide +kernel, by decide +kernel⟩
/-- the values of «any value» -/
inductive AnyV (K : PySem.W.Frag) (H : Hp) : V → Prop
  | non : AnyV K H .non
  | bl (b : Bool) : AnyV K H (.bl b)
  | int (i : Int) : AnyV K H (.int i)
  | str (x : Str) : AnyV K H (.str x)
  | lst {a : Addr} (h : TyX K H (.ref a) (.type "list")) : AnyV K H (.ref a)
  | tup {a : Addr} (h : TyX K H (.ref a) (.type "tuple")) : AnyV K H (.ref a)
  | dct {a : Addr} (h : TyX K H (.ref a) (.type "dict")) : AnyV K H (.ref a)
def isI (x : V) (lo hi : Int) : Bool := match x with
  | .int n => decide (lo ≤ n) && decide (n ≤ hi)
  | _ => false
theorem isI_yes {n lo hi : Int} (h : lo ≤ n) (h' : n ≤ hi) : isI (.int n) lo hi = true := by
  show (decide (lo ≤ n) && decide (n ≤ hi)) = true
  rw [decide_eq_true h, decide_eq_true h']
  rfl
def sp_is_integer (K : PySem.W.Frag) : Sp := fun vs H Q _ => ∃ (x : V) (lo hi : Int), vs = [x, .int lo, .int hi] ∧ AnyV K H x ∧ Q (.bl (isI x lo hi)) H
section
variable {P : Program} {w : World} {K : PySem.W.Frag} {mg : Str → Option Value} {base : Heap}
theorem ok_is_integer (A : At K mg "is_integer" s_is_integer ["thing", "low", "high"]) (B : Bn mg) : CalE P w K mg base "is_integer" ["thing", "low", "high"] 1 (sp_is_integer K) := by
  obtain ⟨f, fd, F, gF, bF⟩ := A
  refine ⟨f, fd, F.ok sc_is_integer (fun vs H Q E h => ?_) (fun cdv A outer s H vs Q E hr h => ?_), gF, F.kp, bF⟩
  · repeat (first | (obtain ⟨rfl, _⟩ := h; rfl) | (obtain ⟨_, h⟩ := h))
  · obtain ⟨x, lo, hi, rfl, hx, q⟩ := h
    refine ⟨_, (pss_one (ps_ret (pe_and (pe_callB (call_isi_ K) (by rfl) B.isinstance_ (by decide +kernel) (pa_cons (pv 0) (pa_cons (pe_bltn (v := .ty "int") (by rfl) B.int_ (by decide +kernel) rfl) pa_nil))) (pe_and (pe_not (pe_callB (call_isi_ K) (by rfl) B.isinstance_ (by decide +kernel) (pa_cons (pv 0) (pa_cons (pe_bltn (v := .ty "bool") (by rfl) B.bool_ (by decide +kernel) rfl) pa_nil)))) (pe_one (pe_chain op_le op_le (pv 1) (pv 0) (pv 2))))))), ?_⟩
    have no : ∀ T : String, TyX K H x (.type T) → kitB T "int" = some false → isI x lo hi = false → (tRet (tAndV (tCB (rIsi K) (tCons (tVar 0) (tCons (tC (.ty "int")) tNil))) (tAndV (tNotV (tCB (rIsi K) (tCons (tVar 0) (tCons (tC (.ty "bool")) tNil)))) (tChain (rI0 fun i j => .bl (decide (i ≤ j))) (rI0 fun i j => .bl (decide (i ≤ j))) (tVar 1) (tVar 0) (tVar 2))))) { nx := fun _ H' => Q .non H', rt := Q } (start ["thing", "low", "high"] [x, .int lo, .int hi]) H := fun T hT hk hi => by
      refine ⟨_, rfl, _, _, _, _, false, rfl, .ty _, hT, kit_ty hk, _, rfl, iteF ?_⟩
      rw [hi] at q
      exact q
    cases hx with
    | non => exact no _ (.base .non) (by decide +kernel) rfl
    | str z => exact no _ (.base (.str z)) (by decide +kernel) rfl
    | lst h => exact no _ h (by decide +kernel) rfl
    | tup h => exact no _ h (by decide +kernel) rfl
    | dct h => exact no _ h (by decide +kernel) rfl
    | bl b =>
      refine ⟨_, rfl, _, _, _, _, true, rfl, .ty _, .base (.bl b), kit_ty (by decide +kernel), _, rfl, iteT ?_⟩
      refine ⟨_, rfl, _, _, _, _, true, rfl, .ty _, .base (.bl b), kit_ty (by decide +kernel), _, rfl, _, rfl, iteF ?_⟩
      exact q
    | int n =>
      refine ⟨_, rfl, _, _, _, _, true, rfl, .ty _, .base (.int n), kit_ty (by decide +kernel), _, rfl, iteT ?_⟩
      refine ⟨_, rfl, _, _, _, _, false, rfl, .ty _, .base (.int n), kit_ty (by decide +kernel), _, rfl, _, rfl, iteT ?_⟩
      refine ⟨_, rfl, _, rfl, _, _, rfl, rfl, _, rfl, ?_⟩
      have e : isI (.int n) lo hi = (decide (lo ≤ n) && decide (n ≤ hi)) := rfl
      rw [e] at q
      by_cases c : lo ≤ n
      · rw [decide_eq_true c]
        rw [decide_eq_true c, Bool.true_and] at q
        exact iteT ⟨_, rfl, _, _, rfl, rfl, q⟩
      · rw [decide_eq_false c]
        rw [decide_eq_false c, Bool.false_and] at q
        exact iteF q
end

abbrev s_check_lengths : Stmt := topS 12
theorem sc_check_lengths : FnScope ["thing", "index", "length"] ["thing"] (defScope s_check_lengths) := ⟨rfl, rfl, rfl, by decide +kernel, rfl, by decide +kernel, by decide +kernel⟩
def sp_check_lengths (K : PySem.W.Frag) : Sp := fun vs H Q _ => ∃ (a : Addr) (ls : List Nat), vs = [.ref a] ∧ SqT K H a (ls.map fun n => V.int (n : Nat)) ∧ IsLens ls ∧ ∀ H', Same H H' → Q .non H'
section
variable {P : Program} {w : World} {K : PySem.W.Frag} {mg : Str → Option Value} {base : Heap}
theorem ok_check_lengths (A : At K mg "check_lengths" s_check_lengths ["thing"]) (B : Bn mg) (H_is_integer : CalE P w K mg base "is_integer" ["thing", "low", "high"] 1 (sp_is_integer K)) (K_MOST_COUNT : ∃ v, mg "MOST_COUNT" = some v ∧ RelV (.int 40) v) (K_MOST_LENGTH : ∃ v, mg "MOST_LENGTH" = some v ∧ RelV (.int 60) v) : CalE P w K mg base "check_lengths" ["thing"] 2 (sp_check_lengths K) := by
  obtain ⟨f, fd, F, gF, bF⟩ := A
  obtain ⟨f_is_integer, fd_is_integer, G_is_integer⟩ := H_is_integer
  obtain ⟨v_MOST_COUNT, C_MOST_COUNT⟩ := K_MOST_COUNT
  obtain ⟨v_MOST_LENGTH, C_MOST_LENGTH⟩ := K_MOST_LENGTH
  refine ⟨f, fd, F.ok sc_check_lengths (fun vs H Q E h => ?_) (fun cdv A outer s H vs Q E hr h => ?_), gF, F.kp, bF⟩
  · repeat (first | (obtain ⟨rfl, _⟩ := h; rfl) | (obtain ⟨_, h⟩ := h))
  · obtain ⟨a, ns, rfl, hS, ⟨hl1, hl, hn⟩, k⟩ := h
    obtain ⟨_, rfl⟩ := C_MOST_COUNT.2
    obtain ⟨_, rfl⟩ := C_MOST_LENGTH.2
    have lm : (ns.map fun n => V.int (n : Nat)).length = ns.length := List.length_map _
    refine ⟨_, (pss_cons (ps_if (PW.pt (pw_or (pt_not (pt_val (pe_callB (call_isi_ K) (by rfl) B.isinstance_ (by decide +kernel) (pa_cons (pv 0) (pa_cons (pe_bltn (v := .ty "tuple") (by rfl) B.tuple_ (by decide +kernel) rfl) pa_nil))))) (pw_or1 (pt_not (pt_chain op_le op_le pe_int (pe_callB (call_len_seq_ K) (by rfl) B.len_ (by decide +kernel) (pa_cons (pv 0) pa_nil)) (pe_glob (by rfl) C_MOST_COUNT.1 C_MOST_COUNT.2))))))
      (pss_one ps_never)
      pss_nil)
      (pss_one (ps_for PassesOwn.never rfl (pi_enumT (by rfl) B.enumerate_ (pa_cons (pv 0) pa_nil)) (pg_tup (by rfl) (pgs_cons (pg_name (i := 1) sc_check_lengths.nd rfl (.inl rfl)) (pgs_cons (pg_name (i := 2) sc_check_lengths.nd rfl (.inl rfl)) pgs_nil)))
      (pss_one (ps_if (pt_not (pt_val (pe_call G_is_integer.ok (hr.mono (by first | decide | exact Nat.le_refl _)) (by rfl) G_is_integer.g G_is_integer.kp G_is_integer.b .nil pass0 (pa_cons (pv 2) (pa_cons pe_int (pa_cons (pe_glob (by rfl) C_MOST_LENGTH.1 C_MOST_LENGTH.2) pa_nil))))))
      (pss_one ps_never)
      pss_nil))))), ?_⟩
    refine ⟨_, rfl, _, _, _, _, true, rfl, .ty _, tyT hS, kit_ty (by decide +kernel), _, rfl, iteF ?_⟩
    refine ⟨_, rfl, a, _, rfl, .inr hS, _, _, rfl, rfl, _, rfl, iteDT (by rw [lm]; omega) ?_⟩
    refine ⟨_, _, rfl, rfl, _, rfl, iteNF (by rw [lm]; omega) ?_⟩
    refine ⟨_, rfl, a, _, rfl, hS, for_enumT (K := K) (a := a) (xs := ns.map fun n => V.int (n : Nat)) (fun i σ H2 => ∃ v1 v2, σ = [some (.ref a), v1, v2] ∧ Same H H2) ⟨_, _, rfl, Same.refl _⟩ (fun i σ H2 _ ⟨_, _, _, s⟩ => Same.seqT s hS) ?_ ?_⟩
    · rintro i x σ H2 T hx ⟨v1, v2, rfl, s2⟩ nT
      obtain ⟨z, hz, rfl⟩ := geti_nat hx
      have hzb := hn z (List.mem_of_getElem? hz)
      refine ⟨T, _, rfl, .inl (.inl upd_same), rfl, _, _, rfl, _, _, rfl, rfl, ?_⟩
      refine ⟨_, rfl, _, _, _, rfl, .int _, ?_⟩
      rw [isI_yes (by omega) (by omega)]
      exact ⟨_, rfl, iteF ⟨_, _, rfl, s2.trans (same_new nT _)⟩⟩
    · rintro σ H2 ⟨v1, v2, rfl, s2⟩
      exact k H2 s2
end

abbrev s_power_of_two : Stmt := topS 7
theorem sc_power_of_two : FnScope ["times"] ["times"] (defScope s_power_of_two) := ⟨rfl, rfl, rfl, by decide +kernel, rfl, by decide +kernel, by decide +kernel⟩
def sp_power_of_two (K : PySem.W.Frag) : Sp := fun vs H Q _ => ∃ t : Nat, vs = [.int (t : Nat)] ∧ t ≤ 1000 ∧ Q (.int ((2 ^ t : Nat) : Int)) H
section
variable {P : Program} {w : World} {K : PySem.W.Frag} {mg : Str → Option Value} {base : Heap}
theorem ok_power_of_two (A : At K mg "power_of_two" s_power_of_two ["times"]) (B : Bn mg) : CalE P w K mg base "power_of_two" ["times"] 1 (sp_power_of_two K) := by
  obtain ⟨f, fd, F, gF, bF⟩ := A
  refine ⟨f, fd, F.ok sc_power_of_two (fun vs H Q E h => ?_) (fun cdv A outer s H vs Q E hr h => ?_), gF, F.kp, bF⟩
  · repeat (first | (obtain ⟨rfl, _⟩ := h; rfl) | (obtain ⟨_, h⟩ := h))
  · obtain ⟨t, rfl, ht, k⟩ := h
    refine ⟨_, (pss_one (ps_ret (pe_op op_shl pe_int (pv 0)))), ?_⟩
    refine ⟨_, rfl, _, _, rfl, rfl, ⟨by omega, by omega, by decide⟩, ?_⟩
    have e : (1 : Int) * 2 ^ ((t : Int)).toNat = ((2 ^ t : Nat) : Int) := by
      rw [Int.one_mul, Int.toNat_natCast, Int.natCast_pow]
      rfl
    show Q (.int ((1 : Int) * 2 ^ ((t : Int)).toNat)) H
    rw [e]
    exact k
end

abbrev s_room_left : Stmt := topS 13
theorem sc_room_left : FnScope ["lengths", "length"] ["lengths"] (defScope s_room_left) := ⟨rfl, rfl, rfl, by decide +kernel, rfl, by decide +kernel, by decide +kernel⟩
def sp_room_left (K : PySem.W.Frag) : Sp := fun vs H Q _ => ∃ (a : Addr) (ls : List Nat), vs = [.ref a] ∧ SqT K H a (ls.map fun n => V.int (n : Nat)) ∧ IsLens ls ∧ ∀ H', Same H H' → Q (.int (((2 ^ 60 : Nat) : Int) - ((roomN ls : Nat) : Int))) H'
section
variable {P : Program} {w : World} {K : PySem.W.Frag} {mg : Str → Option Value} {base : Heap}
theorem ok_room_left (A : At K mg "room_left" s_room_left ["lengths"]) (B : Bn mg) (H_power_of_two : CalE P w K mg base "power_of_two" ["times"] 1 (sp_power_of_two K)) (K_MOST_LENGTH : ∃ v, mg "MOST_LENGTH" = some v ∧ RelV (.int 60) v) : CalE P w K mg base "room_left" ["lengths"] 2 (sp_room_left K) := by
  obtain ⟨f, fd, F, gF, bF⟩ := A
  obtain ⟨f_power_of_two, fd_power_of_two, G_power_of_two⟩ := H_power_of_two
  obtain ⟨v_MOST_LENGTH, C_MOST_LENGTH⟩ := K_MOST_LENGTH
  refine ⟨f, fd, F.ok sc_room_left (fun vs H Q E h => ?_) (fun cdv A outer s H vs Q E hr h => ?_), gF, F.kp, bF⟩
  · repeat (first | (obtain ⟨rfl, _⟩ := h; rfl) | (obtain ⟨_, h⟩ := h))
  · obtain ⟨a, ns, rfl, hS, ⟨hl1, hl, hn⟩, k⟩ := h
    obtain ⟨_, rfl⟩ := C_MOST_LENGTH.2
    have hsz := sizeLine_eq
    have lm : (ns.map fun n => V.int (n : Nat)).length = ns.length := List.length_map _
    refine ⟨_, (pss_one (ps_ret (pe_op op_sub (pe_call G_power_of_two.ok (hr.mono (by first | decide | exact Nat.le_refl _)) (by rfl) G_power_of_two.g G_power_of_two.kp G_power_of_two.b .nil pass0 (pa_cons (pe_glob (by rfl) C_MOST_LENGTH.1 C_MOST_LENGTH.2) pa_nil)) (pe_callB (cr_sum_ K rfl) (by rfl) B.sum_ (by decide +kernel) (pa_cons (pe_lc (own := [("length", 1)]) (g := gName 1) (tt := tYes) rfl sc_room_left.nd (pi_tup (pv 0)) (blkOk_by (own := [("length", 1)]) (N := ["lengths", "length"]) (sc := defScope s_room_left) (by decide +kernel)) (fun _ _ _ _ _ => (pg_name (i := 1) sc_room_left.nd rfl (.inl rfl))) (fun _ _ _ _ _ => pts_nil) (fun _ _ _ _ _ => (pe_call G_power_of_two.ok (hr.mono (by first | decide | exact Nat.le_refl _)) (by rfl) G_power_of_two.g G_power_of_two.kp G_power_of_two.b .nil pass0 (pa_cons (pe_op op_sub (pe_glob (by rfl) C_MOST_LENGTH.1 C_MOST_LENGTH.2) (pv 1)) pa_nil)))) pa_nil))))), ?_⟩
    refine ⟨60, rfl, by decide, ?_⟩
    refine ⟨_, rfl, a, rfl, ⟨_, hS⟩, fun L nL => ?_⟩
    refine lc_tup (K := K) (a := a) (xs := ns.map fun n => V.int (n : Nat)) (fun j H4 => Same H H4 ∧ H4 L = some (.lst (((ns.take j).map fun n => ((2 ^ (60 - n) : Nat) : Int)).map V.int))) ⟨same_new nL _, by rw [upd_same]; rfl⟩ (fun j H4 _ h4 => Same.seqT h4.1 hS) ?_ ?_
    · rintro j x H4 hx ⟨s4, eL⟩
      obtain ⟨z, hz, rfl⟩ := geti_nat hx
      have hzb := hn z (List.mem_of_getElem? hz)
      refine ⟨rfl, _, rfl, _, _, rfl, rfl, 60 - z, ?_, by omega, _, eL, ?_, ?_, ?_⟩
      · show [V.int (60 - (z : Int))] = _
        rw [show (60 - (z : Int)) = ((60 - z : Nat) : Int) by omega]
      · rw [List.length_map, List.length_map, List.length_take]
        omega
      · intro b o ho
        rw [upd_ne (ne_of_none ho nL)]
        exact s4 b o ho
      · rw [upd_same, take_more hz, List.map_append, List.map_append]
        rfl
    rintro H4 ⟨s4, eL⟩
    rw [lm, List.take_length] at eL
    refine ⟨L, _, rfl, .inl (.inl eL), _, _, rfl, rfl, ?_⟩
    show Q (.int (((2 ^ 60 : Nat) : Int) - (ns.map fun n => ((2 ^ (60 - n) : Nat) : Int)).sum)) H4
    rw [sum_natInt]
    exact k H4 s4
end

abbrev s_figures : Stmt := topS 8
theorem sc_figures : FnScope ["number", "many", "found", "place"] ["number", "many"] (defScope s_figures) := ⟨rfl, rfl, rfl, by decide +kernel, rfl, by decide +kernel, by decide +kernel⟩
def sp_figures (K : PySem.W.Frag) : Sp := fun vs H Q _ => ∃ n c : Nat, vs = [.int (n : Nat), .int (c : Nat)] ∧ c ≤ 1000 ∧ Q (.str (tx (fig n c))) H
section
variable {P : Program} {w : World} {K : PySem.W.Frag} {mg : Str → Option Value} {base : Heap}
theorem ok_figures (A : At K mg "figures" s_figures ["number", "many"]) (B : Bn mg) : CalE P w K mg base "figures" ["number", "many"] 1 (sp_figures K) := by
  obtain ⟨f, fd, F, gF, bF⟩ := A
  refine ⟨f, fd, F.ok sc_figures (fun vs H Q E h => ?_) (fun cdv A outer s H vs Q E hr h => ?_), gF, F.kp, bF⟩
  · repeat (first | (obtain ⟨rfl, _⟩ := h; rfl) | (obtain ⟨_, h⟩ := h))
  · obtain ⟨n, c, rfl, hc, k⟩ := h
    have hsz := sizeLine_eq
    refine ⟨_, (pss_cons (ps_set (i := 2) sc_figures.nd rfl (.inl rfl) pe_str)
      (pss_cons (ps_for PassesOwn.never rfl (pi_range3 (by rfl) B.range_ (pa_cons (pe_op op_sub (pv 1) pe_int) (pa_cons (pe_un un_neg pe_int) (pa_cons (pe_un un_neg pe_int) pa_nil)))) (pg_name (i := 3) sc_figures.nd rfl (.inl rfl))
      (pss_one (ps_aug (i := 2) sc_figures.nd rfl (.inl rfl) (pe_ifExp (pt_cmpR op_eq (pe_op op_mod (pe_op op_shr (pv 0) (pv 3)) pe_int) pe_int (nomark _)) pe_str pe_str) ip_add_str)))
      (pss_one (ps_ret (pv 2))))), ?_⟩
    refine ⟨_, rfl, _, _, rfl, rfl, _, rfl, _, rfl, (c : Int) - 1, -1, -1, c, rfl, ?_, ?_⟩
    · have := RgC.neg (i := (c : Int) - 1) (j := -1) (by omega) (by omega) (by omega) (by omega)
      rw [show ((c : Int) - 1 - -1).toNat = c by omega] at this
      exact this
    refine for_rangeC (lo := (c : Int) - 1) (c := -1) (n := c) (fun i σ H2 => ∃ v, σ = [some (.int (n : Nat)), some (.int (c : Nat)), some (.str (tx ((fig n c).take i))), v] ∧ H2 = H) ⟨_, by rw [tx_nil]; rfl, rfl⟩ ?_ ?_
    · rintro i σ H2 hi ⟨v, rfl, rfl⟩
      have ft := fig_take n c i hi
      have ei : (c : Int) - 1 + (i : Int) * -1 = ((c - 1 - i : Nat) : Int) := by omega
      have ll : ((fig n c).take i).length ≤ c := by rw [List.length_take, fig_len]; omega
      refine ⟨_, rfl, _, rfl, _, rfl, _, _, rfl, rfl, by omega, _, _, rfl, rfl, (by decide : (0 : Int) < 2), rfl, _, rfl, ?_⟩
      have bi : ((n : Int) / 2 ^ ((c : Int) - 1 + (i : Int) * -1).toNat % 2 = 1) ↔ (n / 2 ^ (c - 1 - i) % 2 == 1) = true := by
        rw [ei, Int.toNat_natCast]
        have := bit_int n (c - 1 - i)
        rw [Int.natCast_pow] at this
        exact this
      have go : ∀ b : Bool, b = (n / 2 ^ (c - 1 - i) % 2 == 1) → tx ((fig n c).take i) ++ tx [b] = tx ((fig n c).take (i + 1)) := by
        rintro b rfl
        rw [tx_app, ft]
      refine ite2 (fun z => ?_) (fun z => ?_)
      · have z' := bi.mp (V.int.inj (of_decide_eq_true z))
        refine ⟨_, _, rfl, rfl, by rw [tx_one, tx_len, tx_len]; show _ + 1 ≤ sizeLine; omega, some (.int ((c : Int) - 1 + (i : Int) * -1)), ?_, rfl⟩
        show [some (V.int (n : Int)), some (V.int (c : Int)), some (V.str (tx ((fig n c).take i) ++ ("1" : Str))), some (.int ((c : Int) - 1 + (i : Int) * -1))] = _
        rw [tx_one, go true z'.symm]
      · have z' : (n / 2 ^ (c - 1 - i) % 2 == 1) = false := Bool.eq_false_iff.mpr fun y => z (decide_eq_true (congrArg V.int (bi.mpr y)))
        refine ⟨_, _, rfl, rfl, by rw [tx_zero, tx_len, tx_len]; show _ + 1 ≤ sizeLine; omega, some (.int ((c : Int) - 1 + (i : Int) * -1)), ?_, rfl⟩
        show [some (V.int (n : Int)), some (V.int (c : Int)), some (V.str (tx ((fig n c).take i) ++ ("0" : Str))), some (.int ((c : Int) - 1 + (i : Int) * -1))] = _
        rw [tx_zero, go false z'.symm]
    · rintro σ H2 ⟨v, rfl, rfl⟩
      refine ⟨_, rfl, ?_⟩
      rw [List.take_of_length_le (by rw [fig_len]; exact Nat.le_refl _)]
      exact k
end

abbrev s_book : Stmt := topS 14
theorem sc_book : FnScope ["lengths", "order", "found", "next_word", "length", "number"] ["lengths"] (defScope s_book) := ⟨rfl, rfl, rfl, by decide +kernel, rfl, by decide +kernel, by decide +kernel⟩
def sp_book (K : PySem.W.Frag) : Sp := fun vs H Q E => ∃ (a : Addr) (ls : List Nat), vs = [.ref a] ∧ SqT K H a (ls.map fun n => V.int (n : Nat)) ∧ IsLens ls ∧
  (roomN ls ≤ 2 ^ 60 → ∀ (T : Addr) (H' : Hp) (o : List (Nat × Nat)), IsOrd ls o → Same H H' → H' T = some (.tup ((wordsO o 0 (List.replicate ls.length [])).map fun w => V.str (tx w))) → Q (.ref T) H') ∧
  (2 ^ 60 < roomN ls → ∀ (C : Addr) (H' : Hp), ClsAt K "NoBook" C → Same H H' → E (.ref C) none H')
section
variable {P : Program} {w : World} {K : PySem.W.Frag} {mg : Str → Option Value} {base : Heap}
theorem ok_book (A : At K mg "book" s_book ["lengths"]) (B : Bn mg) (H_check_lengths : CalE P w K mg base "check_lengths" ["thing"] 2 (sp_check_lengths K)) (H_room_left : CalE P w K mg base "room_left" ["lengths"] 2 (sp_room_left K)) (H_figures : CalE P w K mg base "figures" ["number", "many"] 1 (sp_figures K)) (H_power_of_two : CalE P w K mg base "power_of_two" ["times"] 1 (sp_power_of_two K)) (K_MOST_LENGTH : ∃ v, mg "MOST_LENGTH" = some v ∧ RelV (.int 60) v) (HT_NoBook : ∃ C, ExT K mg "NoBook" C) : CalX P w K mg base "book" ["lengths"] 3 (sp_book K) := by
  obtain ⟨f, fd, F, gF, bF⟩ := A
  obtain ⟨f_check_lengths, fd_check_lengths, G_check_lengths⟩ := H_check_lengths
  obtain ⟨f_room_left, fd_room_left, G_room_left⟩ := H_room_left
  obtain ⟨f_figures, fd_figures, G_figures⟩ := H_figures
  obtain ⟨f_power_of_two, fd_power_of_two, G_power_of_two⟩ := H_power_of_two
  obtain ⟨v_MOST_LENGTH, C_MOST_LENGTH⟩ := K_MOST_LENGTH
  obtain ⟨A_NoBook, T_NoBook⟩ := HT_NoBook
  refine ⟨f, fd, F.okX sc_book (fun vs H Q E h => ?_) (fun cdv A outer s H vs Q E hr h => ?_), gF, F.kp, bF⟩
  · repeat (first | (obtain ⟨rfl, _⟩ := h; rfl) | (obtain ⟨_, h⟩ := h))
  · obtain ⟨a, ls, rfl, hS, hL, k, kR⟩ := h
    obtain ⟨_, rfl⟩ := C_MOST_LENGTH.2
    have hsz := sizeLine_eq
    have lm : (ls.map fun n => V.int (n : Nat)).length = ls.length := List.length_map _
    refine ⟨_, (pss_cons (ps_expr (pe_call G_check_lengths.ok (hr.mono (by first | decide | exact Nat.le_refl _)) (by rfl) G_check_lengths.g G_check_lengths.kp G_check_lengths.b .nil pass0 (pa_cons (pv 0) pa_nil)))
      (pss_cons (ps_if (pt_cmpR op_lt (pe_call G_room_left.ok (hr.mono (by first | decide | exact Nat.le_refl _)) (by rfl) G_room_left.g G_room_left.kp G_room_left.b .nil pass0 (pa_cons (pv 0) pa_nil)) pe_int (nomark _))
      (pss_one (ps_raise0 (takes_of rfl rfl rfl rfl) T_NoBook (by rfl)))
      pss_nil)
      (pss_cons (ps_set (i := 1) sc_book.nd rfl (.inl rfl) (pe_callB cr_sortedPO (by rfl) B.sorted_ (by decide +kernel) (pa_cons (pe_lc (own := [("number", 5), ("length", 4)]) (g := (gTup K 2 (gCons (gName 5) (gCons (gName 4) gNil)))) (tt := tYes) rfl sc_book.nd (pi_enumT (by rfl) B.enumerate_ (pa_cons (pv 0) pa_nil)) (blkOk_by (own := [("number", 5), ("length", 4)]) (N := ["lengths", "order", "found", "next_word", "length", "number"]) (sc := defScope s_book) (by decide +kernel)) (fun _ _ _ _ _ => (pg_tup (by rfl) (pgs_cons (pg_name (i := 5) sc_book.nd rfl (.inl rfl)) (pgs_cons (pg_name (i := 4) sc_book.nd rfl (.inl rfl)) pgs_nil)))) (fun _ _ _ _ _ => pts_nil) (fun _ _ _ _ _ => (pe_tup (pa_cons (pv 4) (pa_cons (pv 5) pa_nil))))) pa_nil)))
      (pss_cons (ps_par (i := 2) (j := 3) (by rfl) sc_book.nd rfl rfl (by decide) rfl rfl (pa_cons (pe_op op_rep (pe_lst (pa_cons pe_str pa_nil)) (pe_callB (call_len_seq_ K) (by rfl) B.len_ (by decide +kernel) (pa_cons (pv 0) pa_nil))) (pa_cons pe_int pa_nil)) (by rfl))
      (pss_cons (ps_for (passes_of rfl) rfl (pi_list (pv 1)) (pg_tup (by rfl) (pgs_cons (pg_name (i := 4) sc_book.nd rfl (.inl rfl)) (pgs_cons (pg_name (i := 5) sc_book.nd rfl (.inl rfl)) pgs_nil)))
      (pss_cons (ps_asg (pe_call G_figures.ok (hr.mono (by first | decide | exact Nat.le_refl _)) (by rfl) G_figures.g G_figures.kp G_figures.b .nil pass0 (pa_cons (pe_op op_shr (pv 3) (pe_op op_sub (pe_glob (by rfl) C_MOST_LENGTH.1 C_MOST_LENGTH.2) (pv 4))) (pa_cons (pv 4) pa_nil))) (pg_sub (pv 2) (pv 5) set_list))
      (pss_one (ps_aug (i := 3) sc_book.nd rfl (.inl rfl) (pe_call G_power_of_two.ok (hr.mono (by first | decide | exact Nat.le_refl _)) (by rfl) G_power_of_two.g G_power_of_two.kp G_power_of_two.b .nil pass0 (pa_cons (pe_op op_sub (pe_glob (by rfl) C_MOST_LENGTH.1 C_MOST_LENGTH.2) (pv 4)) pa_nil)) ip_add))))
      (pss_one (ps_ret (pe_callTy (call_tuple_of_ K) (by rfl) B.tuple_ (by decide +kernel) (pa_cons (pv 2) pa_nil))))))))), ?_⟩
    refine ⟨_, rfl, a, ls, rfl, hS, hL, fun H1 s1 => ?_⟩
    refine ⟨_, rfl, a, ls, rfl, Same.seqT s1 hS, hL, fun H2 s2 => ?_⟩
    refine ⟨_, _, rfl, rfl, _, rfl, ?_⟩
    by_cases c : 2 ^ 60 < roomN ls
    · exact iteDT (by omega) (kR c _ _ T_NoBook.n (s1.trans s2))
    refine iteDF (by omega) ?_
    have k := k (by omega)
    have S2 := s1.trans s2
    have hS2 := Same.seqT S2 hS
    have k : ∀ (T : Addr) (H' : Hp) (o : List (Nat × Nat)), IsOrd ls o → Same H2 H' → H' T = some (.tup ((wordsO o 0 (List.replicate ls.length [])).map fun w => V.str (tx w))) → Q (.ref T) H' := fun T H' o ho s => k T H' o ho (S2.trans s)
    refine ⟨_, rfl, a, _, rfl, hS2, fun L nL => ?_⟩
    refine lc_enumT (K := K) (a := a) (xs := ls.map fun n => V.int (n : Nat)) (fun j H4 => ∃ ts : List Addr, ts.length = j ∧ Same H2 H4 ∧ H4 L = some (.lst (ts.map V.ref)) ∧ ∀ (i : Nat) (t : Addr), ts[i]? = some t → ∃ l : Nat, ls[i]? = some l ∧ H4 t = some (.tup [.int (l : Nat), .int (i : Nat)])) ⟨[], rfl, same_new nL _, upd_same, fun i t h => by cases h⟩ (fun j H4 _ ⟨_, _, s, _⟩ => Same.seqT s hS2) ?_ ?_
    · rintro j x H4 T hx ⟨ts, hts, s4, eL, he⟩ nT
      obtain ⟨z, hz, rfl⟩ := geti_nat hx
      have hj : j < ls.length := (List.getElem?_eq_some_iff.mp hz).1
      have h40 := hL.l40
      refine ⟨T, _, rfl, .inl (.inl upd_same), rfl, _, _, rfl, _, _, rfl, rfl, rfl, ?_⟩
      refine ⟨_, rfl, _, rfl, (by show 2 ≤ sizeLine; omega), fun U nU => ?_⟩
      have s5 := (same_new nT (.tup [.int (j : Nat), .int (z : Nat)])).trans (same_new nU (.tup [.int (z : Nat), .int (j : Nat)]))
      have eU : (upd (upd H4 T (.tup [.int (j : Nat), .int (z : Nat)])) U (.tup [.int (z : Nat), .int (j : Nat)])) U = some (.tup [.int (z : Nat), .int (j : Nat)]) := upd_same
      generalize upd (upd H4 T (.tup [.int (j : Nat), .int (z : Nat)])) U (.tup [.int (z : Nat), .int (j : Nat)]) = H5 at *
      have eL5 := s5 _ _ eL
      refine ⟨_, eL5, by rw [List.length_map]; omega, ts ++ [U], by rw [List.length_append, hts]; rfl, ?_, ?_, ?_⟩
      · intro b o ho
        rw [upd_ne (ne_of_none ho nL)]
        exact s5 _ _ (s4 _ _ ho)
      · rw [upd_same, List.map_append]
        rfl
      · intro i t ht
        have keep : ∀ {l : Nat}, H5 t = some (.tup [.int (l : Nat), .int (i : Nat)]) → (upd H5 L (.lst (ts.map V.ref ++ [V.ref U]))) t = some (.tup [.int (l : Nat), .int (i : Nat)]) := fun h => by
          rw [upd_ne (fun y => by rw [y, eL5] at h; cases h)]
          exact h
        by_cases hi : i < ts.length
        · rw [List.getElem?_append_left hi] at ht
          obtain ⟨l, h1, h2⟩ := he i t ht
          exact ⟨l, h1, keep (s5 _ _ h2)⟩
        · have hi2 := (List.getElem?_eq_some_iff.mp ht).1
          rw [List.length_append, List.length_singleton] at hi2
          have : i = ts.length := by omega
          subst this
          rw [List.getElem?_append_right (Nat.le_refl _), Nat.sub_self] at ht
          cases Option.some.inj ht
          rw [hts] at keep ⊢
          exact ⟨z, hz, keep eU⟩
    rintro H4 ⟨ts, hts, s4, eL, he⟩
    rw [lm] at hts
    refine ⟨L, _, kOf H4, rfl, .inl (.inl eL), ?_, fun ys p hsd hst np => ?_⟩
    · intro x hx
      obtain ⟨t, ht, rfl⟩ := List.mem_map.mp hx
      obtain ⟨i, hi⟩ := List.getElem?_of_mem ht
      obtain ⟨l, h1, h2⟩ := he i t hi
      refine ⟨t, rfl, ?_⟩
      rw [kOf_at h2]
      exact h2
    have hord : IsOrd ls (ys.map (pairOf H4)) := by
      refine ord_of (xs := ts.map V.ref) (PrO_map (by rw [List.length_map, List.length_zipIdx, hts]) fun i p hp => ?_) ?_ hsd hst
      · rw [List.getElem?_zipIdx] at hp
        cases e : ls[i]? with
        | none => rw [e] at hp; cases hp
        | some l =>
          rw [e] at hp
          cases Option.some.inj hp
          have hi := (List.getElem?_eq_some_iff.mp e).1
          have ht : ts[i]? = some ts[i] := List.getElem?_eq_getElem (by omega)
          obtain ⟨l', h1, h2⟩ := he i _ ht
          rw [e] at h1
          cases Option.some.inj h1
          refine ⟨ts[i], by rw [List.getElem?_map, ht]; rfl, ?_⟩
          rw [Nat.zero_add]
          exact h2
      · intro x hx
        obtain ⟨t, ht, rfl⟩ := List.mem_map.mp hx
        obtain ⟨i, hi⟩ := List.getElem?_of_mem ht
        obtain ⟨l, h1, h2⟩ := he i t hi
        exact ⟨t, l, i, rfl, h2⟩
    have yl : ys.length = ls.length := by rw [hst.len, List.length_map, hts]
    have s5 := s4.trans (same_new np (.lst ys))
    have ep : (upd H4 p (.lst ys)) p = some (.lst ys) := upd_same
    have hys : ∀ x ∈ ys, ∃ (t : Addr) (l n : Nat), x = V.ref t ∧ (upd H4 p (.lst ys)) t = some (.tup [.int (l : Nat), .int (n : Nat)]) ∧ pairOf H4 x = (l, n) ∧ l ≤ 60 ∧ n < ls.length := by
      intro x hx
      obtain ⟨t, ht, rfl⟩ := List.mem_map.mp (hst.perm.mem_iff.mp hx)
      obtain ⟨i, hi⟩ := List.getElem?_of_mem ht
      obtain ⟨l, h1, h2⟩ := he i t hi
      exact ⟨t, l, i, rfl, same_new np _ _ _ h2, pairOf_at h2, hL.l60 l (List.mem_of_getElem? h1), (List.getElem?_eq_some_iff.mp h1).1⟩
    generalize pairOf H4 = pf at *
    generalize upd H4 p (.lst ys) = H5 at *
    clear he eL hsd hst
    refine ⟨(by show 1 ≤ sizeLine; omega), fun E1 nE1 => ?_⟩
    have s6 := same_new nE1 (.lst [.str ("" : Str)])
    refine ⟨_, rfl, a, _, rfl, .inr (Same.seqT (s5.trans s6) hS2), ?_⟩
    rw [lm]
    have h40 := hL.l40
    refine ⟨E1, _, _, rfl, rfl, upd_same, by omega, by omega, (by show 1 * _ ≤ sizeLine; omega), fun F nF => ?_⟩
    have s7 := s6.trans (same_new nF (.lst ((List.replicate ls.length [V.str ("" : Str)]).flatten)))
    have eF : (upd (upd H5 E1 (.lst [.str ("" : Str)])) F (.lst ((List.replicate ls.length [V.str ("" : Str)]).flatten))) F = some (.lst ((List.replicate ls.length ([] : List Bool)).map fun w => V.str (tx w))) := by rw [upd_same, rep_empty]
    have npF : p ≠ F := fun z => by rw [← z, s6 _ _ ep] at nF; cases nF
    have ep := s7 _ _ ep
    have hys : ∀ x ∈ ys, ∃ (t : Addr) (l n : Nat), x = V.ref t ∧ (upd (upd H5 E1 (.lst [.str ("" : Str)])) F (.lst ((List.replicate ls.length [V.str ("" : Str)]).flatten))) t = some (.tup [.int (l : Nat), .int (n : Nat)]) ∧ pf x = (l, n) ∧ l ≤ 60 ∧ n < ls.length := fun x hx => by
      obtain ⟨t, l, n, h1, h2, h3⟩ := hys x hx
      exact ⟨t, l, n, h1, s7 _ _ h2, h3⟩
    have S7 := s5.trans s7
    have nF2 : H2 F = none := (s5.trans s6).free nF
    rw [Int.toNat_natCast]
    generalize upd (upd H5 E1 (.lst [.str ("" : Str)])) F (.lst ((List.replicate ls.length [V.str ("" : Str)]).flatten)) = H6 at *
    refine ⟨_, _, rfl, ?_⟩
    refine ⟨_, rfl, p, rfl, ⟨_, .inl (.inl ep)⟩, for_list (K := K) (a := p) (xs := ys) (fun i σ H7 => ∃ (c : Nat) (f : List (List Bool)) (v4 v5 : Option V), σ = [some (.ref a), some (.ref p), some (.ref F), some (.int (c : Nat)), v4, v5] ∧ f.length = ls.length ∧ H7 F = some (.lst (f.map fun w => V.str (tx w))) ∧ (∀ b o, b ≠ F → H6 b = some o → H7 b = some o) ∧ wordsO (ys.map pf) 0 (List.replicate ls.length []) = wordsO ((ys.map pf).drop i) c f) ⟨0, List.replicate ls.length [], _, _, rfl, List.length_replicate, eF, fun b o _ h => h, rfl⟩ (fun i σ H7 _ ⟨_, _, _, _, _, _, _, s, _⟩ => .inl (.inl (s _ _ npF ep))) ?_ ?_⟩
    · rintro i x σ H7 hx ⟨c, f, v4, v5, rfl, hf, eF7, keep, hw⟩
      obtain ⟨t, l, n, rfl, et, epf, l60, hn⟩ := hys x (List.mem_of_getElem? hx)
      have etF : t ≠ F := fun z => by rw [z, eF] at et; cases et
      have et7 := keep _ _ etF et
      have hi := (List.getElem?_eq_some_iff.mp hx).1
      have hd : (ys.map pf).drop i = (l, n) :: (ys.map pf).drop (i + 1) := by
        rw [List.drop_eq_getElem_cons (by rw [List.length_map]; exact hi), List.getElem_map, (List.getElem?_eq_some_iff.mp hx).2, epf]
      rw [hd] at hw
      have el : (60 : Int) - (l : Int) = ((60 - l : Nat) : Int) := by omega
      refine ⟨t, _, rfl, .inl (.inl et7), rfl, _, _, rfl, _, _, rfl, rfl, ?_⟩
      refine ⟨_, rfl, _, rfl, _, _, rfl, rfl, _, _, rfl, rfl, by omega, _, rfl, c / 2 ^ (60 - l), l, ?_, by omega, ?_⟩
      · show [V.int ((c : Int) / 2 ^ ((60 : Int) - (l : Int)).toNat), V.int (l : Int)] = _
        rw [el, Int.toNat_natCast, Int.natCast_ediv, Int.natCast_pow]
        rfl
      refine ⟨_, rfl, _, rfl, F, _, _, n, rfl, rfl, eF7, ?_, ?_⟩
      · unfold ixN
        rw [if_pos (by omega), if_pos (by rw [List.length_map]; omega), Int.toNat_natCast]
      rw [set_map_tx]
      have eF8 : (upd H7 F (.lst ((f.set n (fig (c / 2 ^ (60 - l)) l)).map fun w => V.str (tx w)))) F = some (.lst ((f.set n (fig (c / 2 ^ (60 - l)) l)).map fun w => V.str (tx w))) := upd_same
      have keep8 : ∀ b o, b ≠ F → H6 b = some o → (upd H7 F (.lst ((f.set n (fig (c / 2 ^ (60 - l)) l)).map fun w => V.str (tx w)))) b = some o := fun b o hb ho => by
        rw [upd_ne hb]
        exact keep b o hb ho
      generalize upd H7 F (.lst ((f.set n (fig (c / 2 ^ (60 - l)) l)).map fun w => V.str (tx w))) = H8 at *
      refine ⟨_, rfl, _, rfl, _, _, rfl, rfl, 60 - l, ?_, by omega, _, _, rfl, rfl, ?_⟩
      · show [V.int ((60 : Int) - (l : Int))] = _
        rw [el]
      refine ⟨c + 2 ^ (60 - l), f.set n (fig (c / 2 ^ (60 - l)) l), some (.int (l : Nat)), some (.int (n : Nat)), ?_, by rw [List.length_set]; exact hf, eF8, keep8, hw⟩
      rw [Int.natCast_add]
      rfl
    · rintro σ H7 ⟨c, f, v4, v5, rfl, hf, eF7, keep, hw⟩
      rw [List.drop_eq_nil_of_le (by rw [List.length_map]; exact Nat.le_refl _)] at hw
      refine ⟨_, rfl, F, _, rfl, .inl ⟨.inl (.inl eF7), fun T nT => ?_⟩⟩
      refine k T _ (ys.map pf) hord (fun b o ho => ?_) ?_
      · exact same_new nT _ _ _ (keep _ _ (ne_of_none ho nF2) (S7 _ _ ho))
      · rw [upd_same, hw]
        rfl
end

abbrev s_is_whole : Stmt := topS 15
theorem sc_is_whole : FnScope ["lengths"] ["lengths"] (defScope s_is_whole) := ⟨rfl, rfl, rfl, by decide +kernel, rfl, by decide +kernel, by decide +kernel⟩
def sp_is_whole (K : PySem.W.Frag) : Sp := fun vs H Q E => ∃ (a : Addr) (ls : List Nat), vs = [.ref a] ∧ SqT K H a (ls.map fun n => V.int (n : Nat)) ∧ IsLens ls ∧
  (roomN ls ≤ 2 ^ 60 → ∀ H', Same H H' → Q (.bl (decide (roomN ls = 2 ^ 60))) H') ∧
  (2 ^ 60 < roomN ls → ∀ (C : Addr) (H' : Hp), ClsAt K "NoBook" C → Same H H' → E (.ref C) none H')
section
variable {P : Program} {w : World} {K : PySem.W.Frag} {mg : Str → Option Value} {base : Heap}
theorem ok_is_whole (A : At K mg "is_whole" s_is_whole ["lengths"]) (B : Bn mg) (H_check_lengths : CalE P w K mg base "check_lengths" ["thing"] 2 (sp_check_lengths K)) (H_room_left : CalE P w K mg base "room_left" ["lengths"] 2 (sp_room_left K)) (HT_NoBook : ∃ C, ExT K mg "NoBook" C) : CalX P w K mg base "is_whole" ["lengths"] 3 (sp_is_whole K) := by
  obtain ⟨f, fd, F, gF, bF⟩ := A
  obtain ⟨f_check_lengths, fd_check_lengths, G_check_lengths⟩ := H_check_lengths
  obtain ⟨f_room_left, fd_room_left, G_room_left⟩ := H_room_left
  obtain ⟨A_NoBook, T_NoBook⟩ := HT_NoBook
  refine ⟨f, fd, F.okX sc_is_whole (fun vs H Q E h => ?_) (fun cdv A outer s H vs Q E hr h => ?_), gF, F.kp, bF⟩
  · repeat (first | (obtain ⟨rfl, _⟩ := h; rfl) | (obtain ⟨_, h⟩ := h))
  · obtain ⟨a, ls, rfl, hS, hL, k, kR⟩ := h
    refine ⟨_, (pss_cons (ps_expr (pe_call G_check_lengths.ok (hr.mono (by first | decide | exact Nat.le_refl _)) (by rfl) G_check_lengths.g G_check_lengths.kp G_check_lengths.b .nil pass0 (pa_cons (pv 0) pa_nil)))
      (pss_cons (ps_if (pt_cmpR op_lt (pe_call G_room_left.ok (hr.mono (by first | decide | exact Nat.le_refl _)) (by rfl) G_room_left.g G_room_left.kp G_room_left.b .nil pass0 (pa_cons (pv 0) pa_nil)) pe_int (nomark _))
      (pss_one (ps_raise0 (takes_of rfl rfl rfl rfl) T_NoBook (by rfl)))
      pss_nil)
      (pss_one (ps_ret (pe_cmpR op_eq (pe_call G_room_left.ok (hr.mono (by first | decide | exact Nat.le_refl _)) (by rfl) G_room_left.g G_room_left.kp G_room_left.b .nil pass0 (pa_cons (pv 0) pa_nil)) pe_int (nomark _)))))), ?_⟩
    refine ⟨_, rfl, a, ls, rfl, hS, hL, fun H1 s1 => ?_⟩
    refine ⟨_, rfl, a, ls, rfl, Same.seqT s1 hS, hL, fun H2 s2 => ?_⟩
    refine ⟨_, _, rfl, rfl, _, rfl, ?_⟩
    by_cases c : 2 ^ 60 < roomN ls
    · exact iteDT (by omega) (kR c _ _ T_NoBook.n (s1.trans s2))
    · refine iteDF (by omega) ?_
      refine ⟨_, rfl, a, ls, rfl, Same.seqT (s1.trans s2) hS, hL, fun H3 s3 => ?_⟩
      refine ⟨rfl, ?_⟩
      have e : decide (V.int (((2 ^ 60 : Nat) : Int) - ((roomN ls : Nat) : Int)) = V.int 0) = decide (roomN ls = 2 ^ 60) := by
        refine decide_eq_decide.mpr ⟨fun z => ?_, fun z => ?_⟩
        · have := V.int.inj z
          omega
        · rw [z, Int.sub_self]
      have := k (by omega) H3 (s1.trans (s2.trans s3))
      rw [← e] at this
      exact this
end

abbrev s__law_book : Stmt := topS 23
theorem sc__law_book : FnScope ["_law_kind", "_law_lengths_here", "_law_found", "error"] ["_law_kind", "_law_lengths_here"] (defScope s__law_book) := ⟨rfl, rfl, rfl, by decide +kernel, rfl, by decide +kernel, by decide +kernel⟩
def sp__law_book (K : PySem.W.Frag) : Sp := fun vs H Q _ => ∃ (a : Addr) (c : Nat) (ls : List Nat), vs = [.int (c : Nat), .ref a] ∧ SqT K H a (ls.map fun n => V.int (n : Nat)) ∧ IsLens ls ∧
  (roomN ls ≤ 2 ^ 60 → c = 0 → ∀ (T : Addr) (H' : Hp) (o : List (Nat × Nat)), IsOrd ls o → Same H H' → H' T = some (.tup ((wordsO o 0 (List.replicate ls.length [])).map fun w => V.str (tx w))) → Q (.ref T) H') ∧
  (roomN ls ≤ 2 ^ 60 → c ≠ 0 → ∀ H', Same H H' → Q (.bl (decide (roomN ls = 2 ^ 60))) H') ∧
  (2 ^ 60 < roomN ls → ∀ H', Same H H' → Q .non H')
section
variable {P : Program} {w : World} {K : PySem.W.Frag} {mg : Str → Option Value} {base : Heap}
theorem ok__law_book (A : At K mg "_law_book" s__law_book ["_law_kind", "_law_lengths_here"]) (B : Bn mg) (H_book : CalX P w K mg base "book" ["lengths"] 3 (sp_book K)) (H_is_whole : CalX P w K mg base "is_whole" ["lengths"] 3 (sp_is_whole K)) (HT_NoBook : ∃ C, ExT K mg "NoBook" C) (HT_StepError : ∃ C, ExT K mg "StepError" C) (HE_NoBook : ∀ C, ClsAt K "NoBook" C → ExcC K C) (HK_NoBook_StepError : ∀ C D, ClsAt K "NoBook" C → ClsAt K "StepError" D → PySem.W.kitOne K (.ref C) (.ref D) = some true) : CalE P w K mg base "_law_book" ["_law_kind", "_law_lengths_here"] 4 (sp__law_book K) := by
  obtain ⟨f, fd, F, gF, bF⟩ := A
  obtain ⟨f_book, fd_book, G_book⟩ := H_book
  obtain ⟨f_is_whole, fd_is_whole, G_is_whole⟩ := H_is_whole
  obtain ⟨A_NoBook, T_NoBook⟩ := HT_NoBook
  obtain ⟨A_StepError, T_StepError⟩ := HT_StepError
  have E_NoBook := HE_NoBook _ T_NoBook.n
  have KT_NoBook_StepError := HK_NoBook_StepError _ _ T_NoBook.n T_StepError.n
  refine ⟨f, fd, F.ok sc__law_book (fun vs H Q E h => ?_) (fun cdv A outer s H vs Q E hr h => ?_), gF, F.kp, bF⟩
  · repeat (first | (obtain ⟨rfl, _⟩ := h; rfl) | (obtain ⟨_, h⟩ := h))
  · obtain ⟨a, c, ls, rfl, hS, hL, k0, k1, kN⟩ := h
    refine ⟨_, (pss_cons (ps_set (i := 2) sc__law_book.nd rfl (.inl rfl) pe_non)
      (pss_cons (ps_try_as (i := 3) (Wout := fun _ _ _ _ => False) rfl rfl sc__law_book.nd rfl rfl ⟨rfl, by decide, .inl T_NoBook.g⟩ takes0 (fun W pn xe tk po => (pss_one (ps_set (i := 2) sc__law_book.nd rfl (.inl rfl) (pe_ifExp (pt_cmpR op_eq (pv 0) pe_int (nomark _)) (pe_callS G_book.ok (hr.mono (by first | decide | exact Nat.le_refl _)) (by rfl) G_book.g G_book.kp G_book.b (fun σ => passAt tk σ) (pa_cons (pv 1) pa_nil)) (pe_callS G_is_whole.ok (hr.mono (by first | decide | exact Nat.le_refl _)) (by rfl) G_is_whole.g G_is_whole.kp G_is_whole.b (fun σ => passAt tk σ) (pa_cons (pv 1) pa_nil)))))) (fun a_ oe cls d pn hz hf => (pss_one (ps_set (i := 2) sc__law_book.nd rfl (.inl rfl) (pe_ifExp (pt_val (pe_callB (call_isX E_NoBook hz hf) (by rfl) B.isinstance_ (by decide +kernel) (pa_cons (pv 3) (pa_cons (pe_glob (v := .ref A_StepError) (by rfl) T_StepError.g rfl) pa_nil)))) pe_non (pe_tup pa_nil))))))
      (pss_one (ps_ret (pv 2))))), ?_⟩
    refine ⟨_, rfl, rfl, _, rfl, ?_⟩
    by_cases c0 : c = 0
    · subst c0
      refine iteDT rfl ?_
      refine ⟨_, rfl, a, ls, rfl, hS, hL, fun hr T H1 o ho s1 eT => ⟨_, rfl, k0 hr rfl T H1 o ho s1 eT⟩, fun hr C H1 hC s1 => ?_⟩
      cases ClsAt.one T_NoBook.n hC
      refine ⟨true, T_NoBook.te, fun _ a0 na => ?_, fun q => nomatch q⟩
      refine ⟨_, rfl, rfl, rfl, _, _, true, rfl, fun u hu => hu, KT_NoBook_StepError, _, rfl, iteT ?_⟩
      exact ⟨_, rfl, kN hr H1 s1⟩
    · refine iteDF (fun z => c0 (by have := V.int.inj z; omega)) ?_
      refine ⟨_, rfl, a, ls, rfl, hS, hL, fun hr H1 s1 => ⟨_, rfl, k1 hr c0 H1 s1⟩, fun hr C H1 hC s1 => ?_⟩
      cases ClsAt.one T_NoBook.n hC
      refine ⟨true, T_NoBook.te, fun _ a0 na => ?_, fun q => nomatch q⟩
      refine ⟨_, rfl, rfl, rfl, _, _, true, rfl, fun u hu => hu, KT_NoBook_StepError, _, rfl, iteT ?_⟩
      exact ⟨_, rfl, kN hr H1 s1⟩
end

abbrev s_law : Stmt := topS 26
theorem sc_law : FnScope ["_law_script", "_law_h", "_law_turn", "_law_lengths_here", "_law_room", "_law_order", "_law_words", "_law_length", "_law_number", "_law_due", "_law_one", "_law_k"] ["_law_script"] (defScope s_law) := ⟨rfl, rfl, rfl, by decide +kernel, rfl, by decide +kernel, by decide +kernel⟩
def sp_law (K : PySem.W.Frag) : Sp := fun vs H Q _ => ∃ (a : Addr) (ns : List Int), vs = [.ref a] ∧ SqL K H a (ns.map V.int) ∧ ns.length ≤ 63 ∧ ∀ H', Q (.bl true) H'
section
variable {P : Program} {w : World} {K : PySem.W.Frag} {mg : Str → Option Value} {base : Heap}
theorem ok_law {f : Addr} {fd : FuncData} (F : Fun K "law" "law" s_law f fd) (B : Bn mg) (H__law_mix : CalE P w K mg base "_law_mix" ["_law_script", "_law_seed"] 1 (sp__law_mix K)) (H__law_lengths : CalE P w K mg base "_law_lengths" ["_law_h"] 3 (sp__law_lengths K)) (H__law_figures : CalE P w K mg base "_law_figures" ["_law_number", "_law_many"] 2 (sp__law_figures K)) (H__law_double : CalE P w K mg base "_law_double" ["_law_times"] 1 (sp__law_double K)) (H__law_alike : CalE P w K mg base "_law_alike" ["_law_found", "_law_due"] 5 (sp__law_alike K)) (H__law_book : CalE P w K mg base "_law_book" ["_law_kind", "_law_lengths_here"] 4 (sp__law_book K)) : FnOk P w K mg base CX0 6 f fd ["_law_script"] (sp_law K) := by
  obtain ⟨f__law_mix, fd__law_mix, G__law_mix⟩ := H__law_mix
  obtain ⟨f__law_lengths, fd__law_lengths, G__law_lengths⟩ := H__law_lengths
  obtain ⟨f__law_figures, fd__law_figures, G__law_figures⟩ := H__law_figures
  obtain ⟨f__law_double, fd__law_double, G__law_double⟩ := H__law_double
  obtain ⟨f__law_alike, fd__law_alike, G__law_alike⟩ := H__law_alike
  obtain ⟨f__law_book, fd__law_book, G__law_book⟩ := H__law_book
  refine F.ok sc_law (fun vs H Q E h => ?_) (fun cdv A outer s H vs Q E hr h => ?_)
  · obtain ⟨a, ns, rfl, _⟩ := h
    rfl
  obtain ⟨a, ns, rfl, hS, hlen, k⟩ := h
  have hsz := sizeLine_eq
  refine ⟨_, (pss_cons (ps_set (i := 1) sc_law.nd rfl (.inl rfl) (pe_call G__law_mix.ok (hr.mono (by first | decide | exact Nat.le_refl _)) (by rfl) G__law_mix.g G__law_mix.kp G__law_mix.b .nil pass0 (pa_cons (pv 0) (pa_cons pe_int pa_nil))))
      (pss_cons (ps_for PassesOwn.never rfl (pi_range1 (by rfl) B.range_ (pa_cons pe_int pa_nil)) (pg_name (i := 2) sc_law.nd rfl (.inl rfl))
      (pss_cons (ps_set (i := 3) sc_law.nd rfl (.inr rfl) (pe_call G__law_lengths.ok (hr.mono (by first | decide | exact Nat.le_refl _)) (by rfl) G__law_lengths.g G__law_lengths.kp G__law_lengths.b .nil pass0 (pa_cons (pv 1) pa_nil)))
      (pss_cons (ps_asg (pe_tup (pa_cons pe_int (pa_cons (pe_callB cr_sortedPO (by rfl) B.sorted_ (by decide +kernel) (pa_cons (pe_lc (own := [("_law_k", 11)]) (g := gName 11) (tt := tYes) rfl sc_law.nd (pi_range1 (by rfl) B.range_ (pa_cons (pe_callB (call_len_seq_ K) (by rfl) B.len_ (by decide +kernel) (pa_cons (pv 3) pa_nil)) pa_nil)) (blkOk_by (own := [("_law_k", 11)]) (N := ["_law_script", "_law_h", "_law_turn", "_law_lengths_here", "_law_room", "_law_order", "_law_words", "_law_length", "_law_number", "_law_due", "_law_one", "_law_k"]) (sc := defScope s_law) (by decide +kernel)) (fun _ _ _ _ _ => (pg_name (i := 11) sc_law.nd rfl (.inl rfl))) (fun _ _ _ _ _ => pts_nil) (fun _ _ _ _ _ => (pe_tup (pa_cons (pe_ix (ix_tup_ K) (pv 3) (pv 11) (fun _ _ => rfl)) (pa_cons (pv 11) pa_nil))))) pa_nil)) (pa_cons pe_dnewK pa_nil)))) (pg_tup (by rfl) (pgs_cons (pg_name (i := 4) sc_law.nd rfl (.inl rfl)) (pgs_cons (pg_name (i := 5) sc_law.nd rfl (.inl rfl)) (pgs_cons (pg_name (i := 6) sc_law.nd rfl (.inr rfl)) pgs_nil)))))
      (pss_cons (ps_for PassesOwn.never rfl (pi_list (pv 5)) (pg_tup (by rfl) (pgs_cons (pg_name (i := 7) sc_law.nd rfl (.inl rfl)) (pgs_cons (pg_name (i := 8) sc_law.nd rfl (.inl rfl)) pgs_nil)))
      (pss_cons (ps_asg (pe_call G__law_figures.ok (hr.mono (by first | decide | exact Nat.le_refl _)) (by rfl) G__law_figures.g G__law_figures.kp G__law_figures.b .nil pass0 (pa_cons (pe_op op_fdivW (pv 4) (pe_call G__law_double.ok (hr.mono (by first | decide | exact Nat.le_refl _)) (by rfl) G__law_double.g G__law_double.kp G__law_double.b .nil pass0 (pa_cons (pe_op op_sub pe_int (pv 7)) pa_nil))) (pa_cons (pv 7) pa_nil))) (pg_sub (pv 6) (pv 8) (set_dict (hu_of hr))))
      (pss_one (ps_set (i := 4) sc_law.nd rfl (.inl rfl) (pe_op op_add (pv 4) (pe_call G__law_double.ok (hr.mono (by first | decide | exact Nat.le_refl _)) (by rfl) G__law_double.g G__law_double.kp G__law_double.b .nil pass0 (pa_cons (pe_op op_sub pe_int (pv 7)) pa_nil)))))))
      (pss_cons (ps_set (i := 9) sc_law.nd rfl (.inl rfl) (pe_lst (pa_cons pe_non (pa_cons pe_non pa_nil))))
      (pss_cons (ps_if (pt_cmpR op_le (pv 4) (pe_call G__law_double.ok (hr.mono (by first | decide | exact Nat.le_refl _)) (by rfl) G__law_double.g G__law_double.kp G__law_double.b .nil pass0 (pa_cons pe_int pa_nil)) (nomark _))
      (pss_one (ps_set (i := 9) sc_law.nd rfl (.inl rfl) (pe_lst (pa_cons (pe_callTy (call_tuple_of_ K) (by rfl) B.tuple_ (by decide +kernel) (pa_cons (pe_lc (own := [("_law_k", 11)]) (g := gName 11) (tt := tYes) rfl sc_law.nd (pi_range1 (by rfl) B.range_ (pa_cons (pe_callB (call_len_seq_ K) (by rfl) B.len_ (by decide +kernel) (pa_cons (pv 3) pa_nil)) pa_nil)) (blkOk_by (own := [("_law_k", 11)]) (N := ["_law_script", "_law_h", "_law_turn", "_law_lengths_here", "_law_room", "_law_order", "_law_words", "_law_length", "_law_number", "_law_due", "_law_one", "_law_k"]) (sc := defScope s_law) (by decide +kernel)) (fun _ _ _ _ _ => (pg_name (i := 11) sc_law.nd rfl (.inl rfl))) (fun _ _ _ _ _ => pts_nil) (fun _ _ _ _ _ => (pe_dget (hu_of hr) (pv 6) (pv 11) (fun _ _ => rfl)))) pa_nil)) (pa_cons (pe_cmpR op_eq (pv 4) (pe_call G__law_double.ok (hr.mono (by first | decide | exact Nat.le_refl _)) (by rfl) G__law_double.g G__law_double.kp G__law_double.b .nil pass0 (pa_cons pe_int pa_nil)) (nomark _)) pa_nil)))))
      pss_nil)
      (pss_cons (ps_if (pt_not (pt_val (pe_call G__law_alike.ok (hr.mono (by first | decide | exact Nat.le_refl _)) (by rfl) G__law_alike.g G__law_alike.kp G__law_alike.b .nil pass0 (pa_cons (pe_lst (pa_cons (pe_call G__law_book.ok (hr.mono (by first | decide | exact Nat.le_refl _)) (by rfl) G__law_book.g G__law_book.kp G__law_book.b .nil pass0 (pa_cons pe_int (pa_cons (pv 3) pa_nil))) (pa_cons (pe_call G__law_book.ok (hr.mono (by first | decide | exact Nat.le_refl _)) (by rfl) G__law_book.g G__law_book.kp G__law_book.b .nil pass0 (pa_cons pe_int (pa_cons (pv 3) pa_nil))) pa_nil))) (pa_cons (pv 9) pa_nil)))))
      (pss_one (ps_ret pe_bl))
      pss_nil)
      (pss_one (ps_if (pt_cmp (pc_notN (pe_ix (ix_list_ K) (pv 9) pe_int (fun _ _ => rfl))))
      (pss_one (ps_for PassesOwn.never rfl (pi_range1 (by rfl) B.range_ (pa_cons (pe_callB (call_len_seq_ K) (by rfl) B.len_ (by decide +kernel) (pa_cons (pv 3) pa_nil)) pa_nil)) (pg_name (i := 10) sc_law.nd rfl (.inr rfl))
      (pss_one (ps_if (pt_cmpR (op_neD_ K hr.units) (pe_lc (own := [("_law_k", 11)]) (g := gName 11) (tt := _) rfl sc_law.nd (pi_range1 (by rfl) B.range_ (pa_cons (pe_callB (call_len_seq_ K) (by rfl) B.len_ (by decide +kernel) (pa_cons (pv 3) pa_nil)) pa_nil)) (blkOk_by (own := [("_law_k", 11)]) (N := ["_law_script", "_law_h", "_law_turn", "_law_lengths_here", "_law_room", "_law_order", "_law_words", "_law_length", "_law_number", "_law_due", "_law_one", "_law_k"]) (sc := defScope s_law) (by decide +kernel)) (fun _ _ _ _ _ => (pg_name (i := 11) sc_law.nd rfl (.inl rfl))) (fun _ _ _ _ _ => (pts_one (PW.pt (pw_and (pt_cmpR op_ne (pv 11) (pv 10) (nomark _)) (pw_and1 (pt_cmpR op_eq (pe_slice sl_str (pe_dget (hu_of hr) (pv 6) (pv 11) (fun _ _ => rfl)) po_none (po_some (pe_ix (ix_tup_ K) (pv 3) (pv 10) (fun _ _ => rfl)))) (pe_dget (hu_of hr) (pv 6) (pv 10) (fun _ _ => rfl)) (nomark _))))))) (fun _ _ _ _ _ => (pv 11))) (pe_lst pa_nil) (nomark _))
      (pss_one (ps_ret pe_bl))
      pss_nil))))
      pss_nil)))))))))
      (pss_one (ps_ret pe_bl)))), ?_⟩
  refine ⟨_, rfl, a, ns, 9, rfl, hS, hlen, fun h q H1 s1 n1 n2 L1 => ?_⟩
  refine ⟨5, rfl, by decide, by decide, for_range (lo := 0) (n := 5) (fun i σ H2 => ∃ v2 v3 v4 v5 v6 v7 v8 v9 v10 v11, σ = [some (.ref a), some (.ref h), v2, v3, v4, v5, v6, v7, v8, v9, v10, v11] ∧ LawH H2 h q) ⟨_, _, _, _, _, _, _, _, _, _, rfl, L1⟩ ?_ ?_⟩
  rotate_left
  · rintro σ H2 ⟨v2, v3, v4, v5, v6, v7, v8, v9, v10, v11, rfl, L2⟩
    exact k H2
  rintro i σ H2 hi ⟨v2, v3, v4, v5, v6, v7, v8, v9, v10, v11, rfl, L2⟩
  refine ⟨_, rfl, h, q, rfl, L2, fun T ls H3 hI L3 S3 eT => ?_⟩
  have lm : (ls.map fun n => V.int (n : Nat)).length = ls.length := List.length_map _
  have h1 := hI.l1
  have h40 := hI.l40
  have h60 := hI.l60
  have hST : SqT K H3 T (ls.map fun n => V.int (n : Nat)) := .inl (.inl eT)
  refine ⟨_, rfl, T, _, rfl, .inr hST, _, rfl, by omega, by omega, fun D nD => ?_⟩
  rw [lm, Int.toNat_natCast]
  refine lc_range (lo := 0) (n := ls.length) (fun j H4 => ∃ ts : List Addr, ts.length = j ∧ Same H3 H4 ∧ H4 D = some (.lst (ts.map V.ref)) ∧ ∀ (i : Nat) (t : Addr), ts[i]? = some t → ∃ l : Nat, ls[i]? = some l ∧ H4 t = some (.tup [.int (l : Nat), .int (i : Nat)])) ⟨[], rfl, same_new nD _, upd_same, fun i t h => by cases h⟩ ?_ ?_
  · rintro j H4 hj ⟨ts, hts, s4, eL, he⟩
    have hz : ls[j]? = some ls[j] := List.getElem?_eq_getElem hj
    generalize ls[j] = z at hz
    have at1 : (ls.map fun n => V.int (n : Nat))[j]? = some (.int (z : Nat)) := by rw [List.getElem?_map, hz]; rfl
    refine ⟨rfl, _, rfl, _, rfl, T, _, _, _, rfl, rfl, Same.seqT s4 hST, at_of (Int.zero_add _) at1, _, rfl, (by show 2 ≤ sizeLine; omega), fun U nU => ?_⟩
    rw [Int.zero_add]
    have s5 := same_new nU (.tup [.int (z : Nat), .int (j : Nat)])
    have eU : (upd H4 U (.tup [.int (z : Nat), .int (j : Nat)])) U = some (.tup [.int (z : Nat), .int (j : Nat)]) := upd_same
    generalize upd H4 U (.tup [.int (z : Nat), .int (j : Nat)]) = H5 at *
    have eL5 := s5 _ _ eL
    refine ⟨_, eL5, by rw [List.length_map]; omega, ts ++ [U], by rw [List.length_append, hts]; rfl, ?_, ?_, ?_⟩
    · intro b o ho
      rw [upd_ne (ne_of_none ho nD)]
      exact s5 _ _ (s4 _ _ ho)
    · rw [upd_same, List.map_append]
      rfl
    · intro i t ht
      have keep : ∀ {l : Nat}, H5 t = some (.tup [.int (l : Nat), .int (i : Nat)]) → (upd H5 D (.lst (ts.map V.ref ++ [V.ref U]))) t = some (.tup [.int (l : Nat), .int (i : Nat)]) := fun h => by
        rw [upd_ne (fun y => by rw [y, eL5] at h; cases h)]
        exact h
      by_cases hi : i < ts.length
      · rw [List.getElem?_append_left hi] at ht
        obtain ⟨l, h1, h2⟩ := he i t ht
        exact ⟨l, h1, keep (s5 _ _ h2)⟩
      · have hi2 := (List.getElem?_eq_some_iff.mp ht).1
        rw [List.length_append, List.length_singleton] at hi2
        have : i = ts.length := by omega
        subst this
        rw [List.getElem?_append_right (Nat.le_refl _), Nat.sub_self] at ht
        cases Option.some.inj ht
        rw [hts] at keep ⊢
        exact ⟨z, hz, keep eU⟩
  rintro H4 ⟨ts, hts, s4, eL, he⟩
  refine ⟨D, _, kOf H4, rfl, .inl (.inl eL), ?_, fun ys p hsd hst np => ?_⟩
  · intro x hx
    obtain ⟨t, ht, rfl⟩ := List.mem_map.mp hx
    obtain ⟨i, hi⟩ := List.getElem?_of_mem ht
    obtain ⟨l, h1, h2⟩ := he i t hi
    refine ⟨t, rfl, ?_⟩
    rw [kOf_at h2]
    exact h2
  have hord : IsOrd ls (ys.map (pairOf H4)) := by
    refine ord_of (xs := ts.map V.ref) (PrO_map (by rw [List.length_map, List.length_zipIdx, hts]) fun i p hp => ?_) ?_ hsd hst
    · rw [List.getElem?_zipIdx] at hp
      cases e : ls[i]? with
      | none => rw [e] at hp; cases hp
      | some l =>
        rw [e] at hp
        cases Option.some.inj hp
        have hi := (List.getElem?_eq_some_iff.mp e).1
        have ht : ts[i]? = some ts[i] := List.getElem?_eq_getElem (by omega)
        obtain ⟨l', h1, h2⟩ := he i _ ht
        rw [e] at h1
        cases Option.some.inj h1
        refine ⟨ts[i], by rw [List.getElem?_map, ht]; rfl, ?_⟩
        rw [Nat.zero_add]
        exact h2
    · intro x hx
      obtain ⟨t, ht, rfl⟩ := List.mem_map.mp hx
      obtain ⟨i, hi⟩ := List.getElem?_of_mem ht
      obtain ⟨l, h1, h2⟩ := he i t hi
      exact ⟨t, l, i, rfl, h2⟩
  have yl : ys.length = ls.length := by rw [hst.len, List.length_map, hts]
  have s5 := s4.trans (same_new np (.lst ys))
  have ep : (upd H4 p (.lst ys)) p = some (.lst ys) := upd_same
  have hys : ∀ x ∈ ys, ∃ (t : Addr) (l n : Nat), x = V.ref t ∧ (upd H4 p (.lst ys)) t = some (.tup [.int (l : Nat), .int (n : Nat)]) ∧ pairOf H4 x = (l, n) ∧ l ≤ 60 ∧ n < ls.length := by
    intro x hx
    obtain ⟨t, ht, rfl⟩ := List.mem_map.mp (hst.perm.mem_iff.mp hx)
    obtain ⟨i, hi⟩ := List.getElem?_of_mem ht
    obtain ⟨l, h1, h2⟩ := he i t hi
    exact ⟨t, l, i, rfl, same_new np _ _ _ h2, pairOf_at h2, hI.l60 l (List.mem_of_getElem? h1), (List.getElem?_eq_some_iff.mp h1).1⟩
  generalize pairOf H4 = pf at *
  generalize upd H4 p (.lst ys) = H5 at *
  clear he eL hsd hst
  intro E nE
  have s6 := s5.trans (same_new nE (.dK []))
  have eE : (upd H5 E (.dK [])) E = some (.dK []) := upd_same
  have ep := same_new nE (.dK []) _ _ ep
  have hys : ∀ x ∈ ys, ∃ (t : Addr) (l n : Nat), x = V.ref t ∧ (upd H5 E (.dK [])) t = some (.tup [.int (l : Nat), .int (n : Nat)]) ∧ pf x = (l, n) ∧ l ≤ 60 ∧ n < ls.length := fun x hx => by
    obtain ⟨t, l, n, h1, h2, h3⟩ := hys x hx
    exact ⟨t, l, n, h1, same_new nE (.dK []) _ _ h2, h3⟩
  refine ⟨(by show 3 ≤ sizeLine; omega), fun T2 nT2 => ?_⟩
  have s7 := s6.trans (same_new nT2 (.tup [.int 0, .ref p, .ref E]))
  have ep := same_new nT2 (.tup [.int 0, .ref p, .ref E]) _ _ ep
  have eE := same_new nT2 (.tup [.int 0, .ref p, .ref E]) _ _ eE
  have hys : ∀ x ∈ ys, ∃ (t : Addr) (l n : Nat), x = V.ref t ∧ (upd (upd H5 E (.dK [])) T2 (.tup [.int 0, .ref p, .ref E])) t = some (.tup [.int (l : Nat), .int (n : Nat)]) ∧ pf x = (l, n) ∧ l ≤ 60 ∧ n < ls.length := fun x hx => by
    obtain ⟨t, l, n, h1, h2, h3⟩ := hys x hx
    exact ⟨t, l, n, h1, same_new nT2 (.tup [.int 0, .ref p, .ref E]) _ _ h2, h3⟩
  have eT2 : (upd (upd H5 E (.dK [])) T2 (.tup [.int 0, .ref p, .ref E])) T2 = some (.tup [.int 0, .ref p, .ref E]) := upd_same
  generalize upd (upd H5 E (.dK [])) T2 (.tup [.int 0, .ref p, .ref E]) = H6 at *
  refine ⟨T2, _, rfl, .inl (.inl eT2), rfl, _, _, rfl, _, _, rfl, _, _, rfl, rfl, ?_⟩
  have nE3 : H3 E = none := s5.free nE
  have npE : p ≠ E := fun z => by rw [z, eE] at ep; cases ep
  obtain ⟨o, ho⟩ : ∃ o, ys.map pf = o := ⟨_, rfl⟩
  rw [ho] at hord
  have ol : o.length = ls.length := hord.len
  refine ⟨_, rfl, p, rfl, ⟨_, .inl (.inl ep)⟩, for_list (K := K) (a := p) (xs := ys) (fun i σ H7 => ∃ (kvs : List (Key × V)) (v2 v7 v8 v9 v10 v11 : Option V), σ = [some (.ref a), some (.ref h), v2, some (.ref T), some (.int (offs o i : Nat)), some (.ref p), some (.ref E), v7, v8, v9, v10, v11] ∧ kvs.length ≤ i ∧ H7 E = some (.dK kvs) ∧ (∀ b u, b ≠ E → H6 b = some u → H7 b = some u) ∧ ∀ j l n, j < i → o[j]? = some (l, n) → valV kvs (.inl (n : Int)) = some (.str (tx (fig (offs o j / 2 ^ (60 - l)) l)))) ⟨[], _, _, _, _, _, _, rfl, Nat.le_refl _, eE, fun b u _ h => h, fun j _ _ hj => by omega⟩ (fun i σ H7 _ ⟨_, _, _, _, _, _, _, _, _, _, s, _⟩ => .inl (.inl (s _ _ npE ep))) ?_ ?_⟩
  · rintro i x σ H7 hx ⟨kvs, v2, v7, v8, v9, v10, v11, rfl, hkl, eE7, keep, hv⟩
    obtain ⟨t, l, n, rfl, et, epf, l60, hn⟩ := hys x (List.mem_of_getElem? hx)
    have etE : t ≠ E := fun z => by rw [z, eE] at et; cases et
    have et7 := keep _ _ etE et
    have hoi : o[i]? = some (l, n) := by rw [← ho, List.getElem?_map, hx]; exact congrArg some epf
    have hi := (List.getElem?_eq_some_iff.mp hoi).1
    have el : (60 : Int) - (l : Int) = ((60 - l : Nat) : Int) := by omega
    have hp : (0 : Int) < ((2 ^ (60 - l) : Nat) : Int) := Int.ofNat_lt.mpr (Nat.pow_pos (by decide))
    have hb : (((2 ^ (60 - l) : Nat) : Int)).natAbs < 2 ^ 61 := by
      rw [Int.natAbs_natCast]
      exact Nat.pow_lt_pow_right (by decide) (by omega)
    refine ⟨t, _, rfl, .inl (.inl et7), rfl, _, _, rfl, _, _, rfl, rfl, ?_⟩
    refine ⟨_, rfl, _, rfl, _, _, rfl, rfl, 60 - l, ?_, by omega, _, _, rfl, rfl, wide_div hp hb (by decide) (by decide), _, rfl, offs o i / 2 ^ (60 - l), l, ?_, l60, ?_⟩
    · show [V.int ((60 : Int) - (l : Int))] = _
      rw [el]
    · show [V.int ((offs o i : Int) / ((2 ^ (60 - l) : Nat) : Int)), V.int (l : Int)] = _
      rw [← Int.natCast_ediv]
    refine ⟨_, rfl, _, rfl, E, _, rfl, DPut.k (k := .inl (n : Int)) eE7 (by omega), ?_⟩
    have eE8 : (upd H7 E (.dK (putK kvs (.inl (n : Int)) (.str (tx (fig (offs o i / 2 ^ (60 - l)) l)))))) E = some (.dK (putK kvs (.inl (n : Int)) (.str (tx (fig (offs o i / 2 ^ (60 - l)) l))))) := upd_same
    have keep8 : ∀ b u, b ≠ E → H6 b = some u → (upd H7 E (.dK (putK kvs (.inl (n : Int)) (.str (tx (fig (offs o i / 2 ^ (60 - l)) l)))))) b = some u := fun b u hb hu => by
      rw [upd_ne hb]
      exact keep b u hb hu
    generalize upd H7 E (.dK (putK kvs (.inl (n : Int)) (.str (tx (fig (offs o i / 2 ^ (60 - l)) l))))) = H8 at *
    refine ⟨_, rfl, _, rfl, _, _, rfl, rfl, 60 - l, ?_, by omega, _, _, rfl, rfl, putK kvs (.inl (n : Int)) (.str (tx (fig (offs o i / 2 ^ (60 - l)) l))), v2, some (.int (l : Nat)), some (.int (n : Nat)), v9, v10, v11, ?_, ?_, eE8, keep8, ?_⟩
    · show [V.int ((60 : Int) - (l : Int))] = _
      rw [el]
    · rw [offs_succ hoi, Int.natCast_add]
      rfl
    · have := length_putK kvs (.inl (n : Int)) (V.str (tx (fig (offs o i / 2 ^ (60 - l)) l)))
      omega
    · intro j l' n' hj hoj
      rw [valV_put]
      by_cases e : j = i
      · subst e
        rw [hoi] at hoj
        cases Option.some.inj hoj
        rw [if_pos rfl]
      · rw [if_neg ?_]
        · exact hv j l' n' (by omega) hoj
        · intro z
          have z' : n' = n := by
            have := Sum.inl.inj z
            omega
          have nd := hord.nd
          have h1 : (o.map (·.2))[j]? = some n' := by rw [List.getElem?_map, hoj]; rfl
          have h2 : (o.map (·.2))[i]? = some n := by rw [List.getElem?_map, hoi]; rfl
          exact e (nodup_idx nd h1 (z' ▸ h2))
  rintro σ H7 ⟨kvs, v2, v7, v8, v9, v10, v11, rfl, hkl, eE7, keep, hv⟩
  have eroom : offs o ys.length = roomN ls := by rw [yl, ← ol]; exact hord.room
  rw [eroom]
  rw [yl] at hv
  obtain ⟨b1, b2⟩ := L3.nn
  have L7 := (L3.same s7).keepBut keep (fun z => b1 (z ▸ nE3)) (fun z => b2 (z ▸ nE3))
  have eT7 : H7 T = some (.tup (ls.map fun n => V.int (n : Nat))) := keep _ _ (fun z => by rw [z, nE3] at eT; cases eT) (s7 _ _ eT)
  have hT7 : ∀ {H8 : Hp}, Same H7 H8 → SqT K H8 T (ls.map fun n => V.int (n : Nat)) := fun s => .inl (.inl (s _ _ eT7))
  obtain ⟨W, hW⟩ : ∃ W, wordsO o 0 (List.replicate ls.length []) = W := ⟨_, rfl⟩
  have hWl : W.length = ls.length := by rw [← hW, wordsO_len, List.length_replicate]
  have hword : ∀ k, k < ls.length → ∃ l w j, ls[k]? = some l ∧ W[k]? = some w ∧ o[j]? = some (l, k) ∧ w = fig (offs o j / 2 ^ (60 - l)) l ∧ valV kvs (.inl (k : Int)) = some (.str (tx w)) := fun k hk => by
    have e : ls[k]? = some ls[k] := List.getElem?_eq_getElem hk
    obtain ⟨j, hj⟩ := hord.has e
    have hjl := (List.getElem?_eq_some_iff.mp hj).1
    refine ⟨ls[k], _, j, e, ?_, hj, rfl, hv j _ k (by omega) hj⟩
    rw [← hW, wordsO_at o 0 _ j _ k hj hord.nd (by rw [List.length_replicate]; exact hk), Nat.zero_add]
  have eE8 : ∀ {H8 : Hp}, Same H7 H8 → H8 E = some (.dK kvs) := fun s => s _ _ eE7
  have hget : ∀ {H8 : Hp} {k : Nat} {v : V}, Same H7 H8 → valV kvs (.inl (k : Int)) = some v → DGet H8 E (.int (0 + (k : Int))) (some v) := fun {H8 k v} s e => by
    have := DGet.k (k := .inl (k : Int)) (eE8 s)
    rw [e] at this
    rw [Int.zero_add]
    exact this
  clear hv keep ep eE hys s7 s6 s5 s4 eT2 nT2 np hts nE npE yl ho hkl eroom
  -- due = [None, None]
  refine ⟨(by show 2 ≤ sizeLine; omega), fun D1 nD1 => ?_⟩
  have s8 := same_new nD1 (.lst [.non, .non])
  have eD1 : (upd H7 D1 (.lst [.non, .non])) D1 = some (.lst [.non, .non]) := upd_same
  generalize upd H7 D1 (.lst [.non, .non]) = H8 at *
  refine ⟨_, rfl, 60, rfl, by decide, _, _, rfl, rfl, _, rfl, ?_⟩
  by_cases hr : roomN ls ≤ 2 ^ 60
  rotate_left
  · -- no book
    refine iteDF (by omega) ?_
    refine ⟨_, rfl, T, 0, ls, rfl, hT7 s8, hI, fun z => absurd z hr, fun z => absurd z hr, fun _ H9 s9 => ?_⟩
    refine ⟨_, rfl, T, 1, ls, rfl, hT7 (s8.trans s9), hI, fun z => absurd z hr, fun z => absurd z hr, fun _ H10 s10 => ?_⟩
    refine ⟨(by show 2 ≤ sizeLine; omega), fun D2 nD2 => ?_⟩
    have s11 := same_new nD2 (.lst [.non, .non])
    have eD1' := s11 _ _ (s10 _ _ (s9 _ _ eD1))
    refine ⟨_, rfl, _, _, .list [.none, .none], 4, rfl, rfl, .lst (.inl (.inl upd_same)) (.cons .non (.cons .non .nil)), .lst (.inl (.inl eD1')) (.cons .non (.cons .non .nil)), okd_list (by show 2 ≤ 1000000; decide) (okA_cons trivial (okA_cons trivial okA_nil)), fun H12 s12 => ⟨_, rfl, iteF ?_⟩⟩
    refine ⟨_, rfl, D1, _, _, .non, rfl, rfl, .inl (.inl (s12 _ _ eD1')), rfl, _, rfl, iteNF rfl ?_⟩
    exact ⟨_, _, _, _, _, _, _, _, _, _, rfl, L7.same (s8.trans (s9.trans (s10.trans (s11.trans s12))))⟩
  refine iteDT (by omega) ?_
  refine ⟨_, rfl, T, _, rfl, .inr (hT7 s8), _, rfl, by omega, by omega, fun L nL => ?_⟩
  rw [lm, Int.toNat_natCast]
  refine lc_range (lo := 0) (n := ls.length) (fun j H9 => Same H8 H9 ∧ H9 L = some (.lst ((W.take j).map fun w => V.str (tx w)))) ⟨same_new nL _, upd_same⟩ ?_ ?_
  · rintro j H9 hj ⟨s9, eL⟩
    obtain ⟨l, w, jj, h1, h2, h3, h4, h5⟩ := hword j hj
    refine ⟨rfl, _, rfl, _, rfl, E, _, rfl, hget (s8.trans s9) h5, _, eL, by rw [List.length_map, List.length_take]; omega, ?_, ?_⟩
    · intro b u hb
      rw [upd_ne (ne_of_none hb nL)]
      exact s9 _ _ hb
    · rw [upd_same, take_more h2, List.map_append]
      rfl
  rintro H9 ⟨s9, eL⟩
  rw [← hWl, List.take_length] at eL
  refine ⟨L, _, rfl, .inl ⟨.inl (.inl eL), fun T3 nT3 => ?_⟩⟩
  have s10 := s9.trans (same_new nT3 (.tup (W.map fun w => V.str (tx w))))
  have eT3 : (upd H9 T3 (.tup (W.map fun w => V.str (tx w)))) T3 = some (.tup (W.map fun w => V.str (tx w))) := upd_same
  generalize upd H9 T3 (.tup (W.map fun w => V.str (tx w))) = H10 at *
  refine ⟨_, rfl, 60, rfl, by decide, rfl, (by show 2 ≤ sizeLine; omega), fun D2 nD2 => ?_⟩
  have ed : decide (V.int ((roomN ls : Nat) : Int) = V.int ((2 ^ 60 : Nat) : Int)) = decide (roomN ls = 2 ^ 60) := by
    refine decide_eq_decide.mpr ⟨fun z => ?_, fun z => by rw [z]⟩
    have := V.int.inj z
    omega
  rw [ed]
  have s11 := same_new nD2 (.lst [.ref T3, .bl (decide (roomN ls = 2 ^ 60))])
  have eD2 : (upd H10 D2 (.lst [.ref T3, .bl (decide (roomN ls = 2 ^ 60))])) D2 = some (.lst [.ref T3, .bl (decide (roomN ls = 2 ^ 60))]) := upd_same
  have eT3 := s11 _ _ eT3
  have S11 := s8.trans (s10.trans s11)
  generalize upd H10 D2 (.lst [.ref T3, .bl (decide (roomN ls = 2 ^ 60))]) = H11 at *
  clear nL eL s9 s10 nT3 s11 nD2 eD1 s8 nD1
  refine ⟨_, rfl, T, 0, ls, rfl, hT7 S11, hI, fun _ _ T4 H12 o' ho' s12 eT4 => ?_, fun _ z => absurd rfl z, fun z => absurd hr (by omega)⟩
  cases ho'.one hord
  rw [hW] at eT4
  refine ⟨_, rfl, T, 1, ls, rfl, hT7 (S11.trans s12), hI, fun _ z => absurd z (by decide), fun _ _ H13 s13 => ?_, fun z => absurd hr (by omega)⟩
  refine ⟨(by show 2 ≤ sizeLine; omega), fun D5 nD5 => ?_⟩
  have s14 := s13.trans (same_new nD5 (.lst [.ref T4, .bl (decide (roomN ls = 2 ^ 60))]))
  have S14 := s12.trans s14
  have eD5 : (upd H13 D5 (.lst [.ref T4, .bl (decide (roomN ls = 2 ^ 60))])) D5 = some (.lst [.ref T4, .bl (decide (roomN ls = 2 ^ 60))]) := upd_same
  have eT4 := s14 _ _ eT4
  have eT3 := S14 _ _ eT3
  have eD2 := S14 _ _ eD2
  have em : (W.map fun w => V.str (tx w)) = (W.map tx).map V.str := by rw [List.map_map]; rfl
  have hW40 : (W.map tx).length ≤ 1000000 := by rw [List.length_map]; omega
  refine ⟨_, rfl, _, _, .list [.tuple ((W.map tx).map .str), .bool (decide (roomN ls = 2 ^ 60))], 4, rfl, rfl, .lst (.inl (.inl eD5)) (.cons (.tup (.inl (.inl eT4)) (em ▸ dp_strs (W.map tx))) (.cons (.bl _) .nil)), .lst (.inl (.inl eD2)) (.cons (.tup (.inl (.inl eT3)) (em ▸ dp_strs (W.map tx))) (.cons (.bl _) .nil)), okd_list (by show 2 ≤ 1000000; decide) (okA_cons (okd_tuple (by rw [List.length_map]; exact hW40) (okA_strs _)) (okA_cons trivial okA_nil)), fun H15 s15 => ⟨_, rfl, iteF ?_⟩⟩
  have S15 := S11.trans (S14.trans s15)
  refine ⟨_, rfl, D2, _, _, .ref T3, rfl, rfl, .inl (.inl (s15 _ _ eD2)), rfl, _, rfl, iteND (fun z => by cases z) ?_⟩
  clear eT4 eT3 eD2 eD5 s12 s13 s14 S14 nD5 S11 s15
  refine ⟨_, rfl, T, _, rfl, .inr (hT7 S15), _, rfl, by omega, by omega, ?_⟩
  rw [lm, Int.toNat_natCast]
  refine for_range (lo := 0) (n := ls.length) (fun j σ H16 => ∃ v2 v7 v8 v9 v10 v11 : Option V, σ = [some (.ref a), some (.ref h), v2, some (.ref T), some (.int (roomN ls : Nat)), some (.ref p), some (.ref E), v7, v8, v9, v10, v11] ∧ Same H7 H16) ⟨_, _, _, _, _, _, rfl, S15⟩ ?_ ?_
  rotate_left
  · rintro σ H16 ⟨v2, v7, v8, v9, v10, v11, rfl, s16⟩
    exact ⟨_, _, _, _, _, _, _, _, _, _, rfl, L7.same s16⟩
  rintro one σ H16 hone ⟨v2, v7, v8, v9, v10, v11, rfl, s16⟩
  obtain ⟨l1, w1, j1, g1, g2, g3, g4, g5⟩ := hword one hone
  refine ⟨_, rfl, T, _, rfl, .inr (hT7 s16), _, rfl, by omega, by omega, fun L nL => ?_⟩
  rw [lm, Int.toNat_natCast]
  refine lc_range (lo := 0) (n := ls.length) (fun j H17 => Same H16 H17 ∧ H17 L = some (.lst [])) ⟨same_new nL _, upd_same⟩ ?_ ?_
  · rintro j H17 hj ⟨s17, eL⟩
    obtain ⟨l, w, jj, h1, h2, h3, h4, h5⟩ := hword j hj
    refine ⟨rfl, _, rfl, _, rfl, rfl, _, rfl, ?_⟩
    by_cases ej : j = one
    · exact iteNF (by rw [ej]) ⟨s17, eL⟩
    refine iteND (fun z => ej (by have := V.int.inj z; omega)) ?_
    have at1 : (ls.map fun n => V.int (n : Nat))[one]? = some (.int (l1 : Nat)) := by rw [List.getElem?_map, g1]; rfl
    have l60 := h60 l (List.mem_of_getElem? h1)
    refine ⟨_, rfl, _, rfl, E, _, rfl, hget (s16.trans s17) h5, _, rfl, _, rfl, T, _, _, _, rfl, rfl, hT7 (s16.trans s17), at_of (Int.zero_add _) at1, _, rfl, _, rfl, by rw [tx_len, h4, fig_len]; omega, _, rfl, _, rfl, E, _, rfl, hget (s16.trans s17) g5, rfl, _, rfl, ?_⟩
    refine iteDF (fun z => ?_) ⟨s17, eL⟩
    have z' := V.str.inj z
    rw [cut_to] at z'
    have z2 := tx_inj z'
    rw [h4, g4] at z2
    exact book_free hord h60 hr g3 h3 (Ne.symm ej) z2
  rintro H17 ⟨s17, eL⟩
  refine ⟨(by show 0 ≤ sizeLine; omega), fun E0 nE0 => ?_⟩
  have s18 := same_new nE0 (.lst [])
  refine ⟨.list [], .list [], .lst (.inl (.inl (s18 _ _ eL))) .nil, .lst (.inl (.inl upd_same)) .nil, by decide +kernel, by decide +kernel, _, rfl, ?_⟩
  have e : (!PyData.eqv (.list []) (.list [])) = false := by decide +kernel
  rw [e]
  exact iteF ⟨_, _, _, _, _, _, rfl, s16.trans (s17.trans s18)⟩
end
end St
namespace St
open PySem PySem.Spec PyProof.Rows L2
theorem all_mk {l : PySem.W.OpenLaw} {w : World} {K : PySem.W.Frag} {h : Heap} {mg : Str → Option Value} {fa : Addr} (X : K.In h) (G : h.Ns mainGlobals mg) (hfa : mg "law" = some (.ref fa))
    {f0 : Addr} {od0 an0 : Option Addr} {sl0 : Array (Option Value)} {oc0 kV0 dc0 pm0 cd0 ct0 : Value}
    (a0 : PySem.W.nsIn K mainGlobals "_law_mix" = some (some (.ref f0))) (l0 : K.lookup f0 = some ⟨oc0, od0, .func (PySem.W.fnOf "_law_mix" "_law_mix" (defArgs s__law_mix) (defBody s__law_mix) (defScope s__law_mix) .none kV0 dc0 pm0 an0 cd0 ct0), sl0⟩) (c0 : PySem.W.codeIn K cd0 "_law_mix" = true) (k0 : PySem.W.keepIn K (.ref f0) = true)
    {f1 : Addr} {od1 an1 : Option Addr} {sl1 : Array (Option Value)} {oc1 kV1 dc1 pm1 cd1 ct1 : Value}
    (a1 : PySem.W.nsIn K mainGlobals "_law_next" = some (some (.ref f1))) (l1 : K.lookup f1 = some ⟨oc1, od1, .func (PySem.W.fnOf "_law_next" "_law_next" (defArgs s__law_next) (defBody s__law_next) (defScope s__law_next) .none kV1 dc1 pm1 an1 cd1 ct1), sl1⟩) (c1 : PySem.W.codeIn K cd1 "_law_next" = true) (k1 : PySem.W.keepIn K (.ref f1) = true)
    {f2 : Addr} {od2 an2 : Option Addr} {sl2 : Array (Option Value)} {oc2 kV2 dc2 pm2 cd2 ct2 : Value}
    (a2 : PySem.W.nsIn K mainGlobals "_law_pick" = some (some (.ref f2))) (l2 : K.lookup f2 = some ⟨oc2, od2, .func (PySem.W.fnOf "_law_pick" "_law_pick" (defArgs s__law_pick) (defBody s__law_pick) (defScope s__law_pick) .none kV2 dc2 pm2 an2 cd2 ct2), sl2⟩) (c2 : PySem.W.codeIn K cd2 "_law_pick" = true) (k2 : PySem.W.keepIn K (.ref f2) = true)
    {f3 : Addr} {od3 an3 : Option Addr} {sl3 : Array (Option Value)} {oc3 kV3 dc3 pm3 cd3 ct3 : Value}
    (a3 : PySem.W.nsIn K mainGlobals "_law_lengths" = some (some (.ref f3))) (l3 : K.lookup f3 = some ⟨oc3, od3, .func (PySem.W.fnOf "_law_lengths" "_law_lengths" (defArgs s__law_lengths) (defBody s__law_lengths) (defScope s__law_lengths) .none kV3 dc3 pm3 an3 cd3 ct3), sl3⟩) (c3 : PySem.W.codeIn K cd3 "_law_lengths" = true) (k3 : PySem.W.keepIn K (.ref f3) = true)
    {f4 : Addr} {od4 an4 : Option Addr} {sl4 : Array (Option Value)} {oc4 kV4 dc4 pm4 cd4 ct4 : Value}
    (a4 : PySem.W.nsIn K mainGlobals "_law_double" = some (some (.ref f4))) (l4 : K.lookup f4 = some ⟨oc4, od4, .func (PySem.W.fnOf "_law_double" "_law_double" (defArgs s__law_double) (defBody s__law_double) (defScope s__law_double) .none kV4 dc4 pm4 an4 cd4 ct4), sl4⟩) (c4 : PySem.W.codeIn K cd4 "_law_double" = true) (k4 : PySem.W.keepIn K (.ref f4) = true)
    {f5 : Addr} {od5 an5 : Option Addr} {sl5 : Array (Option Value)} {oc5 kV5 dc5 pm5 cd5 ct5 : Value}
    (a5 : PySem.W.nsIn K mainGlobals "_law_figures" = some (some (.ref f5))) (l5 : K.lookup f5 = some ⟨oc5, od5, .func (PySem.W.fnOf "_law_figures" "_law_figures" (defArgs s__law_figures) (defBody s__law_figures) (defScope s__law_figures) .none kV5 dc5 pm5 an5 cd5 ct5), sl5⟩) (c5 : PySem.W.codeIn K cd5 "_law_figures" = true) (k5 : PySem.W.keepIn K (.ref f5) = true)
    {f6 : Addr} {od6 an6 : Option Addr} {sl6 : Array (Option Value)} {oc6 kV6 dc6 pm6 cd6 ct6 : Value}
    (a6 : PySem.W.nsIn K mainGlobals "_law_alike" = some (some (.ref f6))) (l6 : K.lookup f6 = some ⟨oc6, od6, .func (PySem.W.fnOf "_law_alike" "_law_alike" (defArgs s__law_alike) (defBody s__law_alike) (defScope s__law_alike) .none kV6 dc6 pm6 an6 cd6 ct6), sl6⟩) (c6 : PySem.W.codeIn K cd6 "_law_alike" = true) (k6 : PySem.W.keepIn K (.ref f6) = true)
    {f7 : Addr} {od7 an7 : Option Addr} {sl7 : Array (Option Value)} {oc7 kV7 dc7 pm7 cd7 ct7 : Value}
    (a7 : PySem.W.nsIn K mainGlobals "is_integer" = some (some (.ref f7))) (l7 : K.lookup f7 = some ⟨oc7, od7, .func (PySem.W.fnOf "is_integer" "is_integer" (defArgs s_is_integer) (defBody s_is_integer) (defScope s_is_integer) .none kV7 dc7 pm7 an7 cd7 ct7), sl7⟩) (c7 : PySem.W.codeIn K cd7 "is_integer" = true) (k7 : PySem.W.keepIn K (.ref f7) = true)
    {f8 : Addr} {od8 an8 : Option Addr} {sl8 : Array (Option Value)} {oc8 kV8 dc8 pm8 cd8 ct8 : Value}
    (a8 : PySem.W.nsIn K mainGlobals "check_lengths" = some (some (.ref f8))) (l8 : K.lookup f8 = some ⟨oc8, od8, .func (PySem.W.fnOf "check_lengths" "check_lengths" (defArgs s_check_lengths) (defBody s_check_lengths) (defScope s_check_lengths) .none kV8 dc8 pm8 an8 cd8 ct8), sl8⟩) (c8 : PySem.W.codeIn K cd8 "check_lengths" = true) (k8 : PySem.W.keepIn K (.ref f8) = true)
    {f9 : Addr} {od9 an9 : Option Addr} {sl9 : Array (Option Value)} {oc9 kV9 dc9 pm9 cd9 ct9 : Value}
    (a9 : PySem.W.nsIn K mainGlobals "power_of_two" = some (some (.ref f9))) (l9 : K.lookup f9 = some ⟨oc9, od9, .func (PySem.W.fnOf "power_of_two" "power_of_two" (defArgs s_power_of_two) (defBody s_power_of_two) (defScope s_power_of_two) .none kV9 dc9 pm9 an9 cd9 ct9), sl9⟩) (c9 : PySem.W.codeIn K cd9 "power_of_two" = true) (k9 : PySem.W.keepIn K (.ref f9) = true)
    {f10 : Addr} {od10 an10 : Option Addr} {sl10 : Array (Option Value)} {oc10 kV10 dc10 pm10 cd10 ct10 : Value}
    (a10 : PySem.W.nsIn K mainGlobals "room_left" = some (some (.ref f10))) (l10 : K.lookup f10 = some ⟨oc10, od10, .func (PySem.W.fnOf "room_left" "room_left" (defArgs s_room_left) (defBody s_room_left) (defScope s_room_left) .none kV10 dc10 pm10 an10 cd10 ct10), sl10⟩) (c10 : PySem.W.codeIn K cd10 "room_left" = true) (k10 : PySem.W.keepIn K (.ref f10) = true)
    {f11 : Addr} {od11 an11 : Option Addr} {sl11 : Array (Option Value)} {oc11 kV11 dc11 pm11 cd11 ct11 : Value}
    (a11 : PySem.W.nsIn K mainGlobals "figures" = some (some (.ref f11))) (l11 : K.lookup f11 = some ⟨oc11, od11, .func (PySem.W.fnOf "figures" "figures" (defArgs s_figures) (defBody s_figures) (defScope s_figures) .none kV11 dc11 pm11 an11 cd11 ct11), sl11⟩) (c11 : PySem.W.codeIn K cd11 "figures" = true) (k11 : PySem.W.keepIn K (.ref f11) = true)
    {f12 : Addr} {od12 an12 : Option Addr} {sl12 : Array (Option Value)} {oc12 kV12 dc12 pm12 cd12 ct12 : Value}
    (a12 : PySem.W.nsIn K mainGlobals "book" = some (some (.ref f12))) (l12 : K.lookup f12 = some ⟨oc12, od12, .func (PySem.W.fnOf "book" "book" (defArgs s_book) (defBody s_book) (defScope s_book) .none kV12 dc12 pm12 an12 cd12 ct12), sl12⟩) (c12 : PySem.W.codeIn K cd12 "book" = true) (k12 : PySem.W.keepIn K (.ref f12) = true)
    {f13 : Addr} {od13 an13 : Option Addr} {sl13 : Array (Option Value)} {oc13 kV13 dc13 pm13 cd13 ct13 : Value}
    (a13 : PySem.W.nsIn K mainGlobals "is_whole" = some (some (.ref f13))) (l13 : K.lookup f13 = some ⟨oc13, od13, .func (PySem.W.fnOf "is_whole" "is_whole" (defArgs s_is_whole) (defBody s_is_whole) (defScope s_is_whole) .none kV13 dc13 pm13 an13 cd13 ct13), sl13⟩) (c13 : PySem.W.codeIn K cd13 "is_whole" = true) (k13 : PySem.W.keepIn K (.ref f13) = true)
    {f14 : Addr} {od14 an14 : Option Addr} {sl14 : Array (Option Value)} {oc14 kV14 dc14 pm14 cd14 ct14 : Value}
    (a14 : PySem.W.nsIn K mainGlobals "_law_book" = some (some (.ref f14))) (l14 : K.lookup f14 = some ⟨oc14, od14, .func (PySem.W.fnOf "_law_book" "_law_book" (defArgs s__law_book) (defBody s__law_book) (defScope s__law_book) .none kV14 dc14 pm14 an14 cd14 ct14), sl14⟩) (c14 : PySem.W.codeIn K cd14 "_law_book" = true) (k14 : PySem.W.keepIn K (.ref f14) = true)
    {f15 : Addr} {od15 an15 : Option Addr} {sl15 : Array (Option Value)} {oc15 kV15 dc15 pm15 cd15 ct15 : Value}
    (a15 : PySem.W.nsIn K mainGlobals "law" = some (some (.ref f15))) (l15 : K.lookup f15 = some ⟨oc15, od15, .func (PySem.W.fnOf "law" "law" (defArgs s_law) (defBody s_law) (defScope s_law) .none kV15 dc15 pm15 an15 cd15 ct15), sl15⟩) (c15 : PySem.W.codeIn K cd15 "law" = true) (k15 : PySem.W.keepIn K (.ref f15) = true)
    {tk0 : Tok} (n0 : PySem.W.nsIn K mainGlobals "MOST_COUNT" = some (some (.int 40 tk0)))
    {tk1 : Tok} (n1 : PySem.W.nsIn K mainGlobals "MOST_LENGTH" = some (some (.int 60 tk1)))
    {U0 : Addr} (un0 : PySem.W.nsIn K mainGlobals "NoBook" = some (some (.ref U0))) (uq0 : PySem.W.excIn K U0 [.type "ValueError", .type "Exception", .type "BaseException", .type "object"] "ValueError.__new__" = true) (uk0 : PySem.W.keepIn K (.ref U0) = true) (ub0 : PySem.W.subIn K (.ref U0) (.type "BaseException") = some true) (ut0 : PySem.W.typeIn K (.ref U0) = some (.type "type")) (ud0 : PySem.W.hasDictIn K U0 = true) (us0 : PySem.W.subIn K (.ref U0) (.ref U0) = some true)
    {U1 : Addr} (un1 : PySem.W.nsIn K mainGlobals "StepError" = some (some (.ref U1))) (uq1 : PySem.W.excIn K U1 [.type "ValueError", .type "Exception", .type "BaseException", .type "object"] "ValueError.__new__" = true) (uk1 : PySem.W.keepIn K (.ref U1) = true) (ub1 : PySem.W.subIn K (.ref U1) (.type "BaseException") = some true) (ut1 : PySem.W.typeIn K (.ref U1) = some (.type "type")) (ud1 : PySem.W.hasDictIn K U1 = true) (us1 : PySem.W.subIn K (.ref U1) (.ref U1) = some true)
    (eg0 : PySem.W.findIn K (.ref U0) "__getattribute__" = some (some (.builtin "BaseException.__getattribute__"))) (ek0 : PySem.W.findIn K (.ref U0) "__getattr__" = some none) (ea0 : PySem.W.findIn K (.ref U0) "__class__" = some (some (.builtin "object.__class__"))) (en0 : PySem.W.specialIn K (.builtin "object.__class__") "__get__" = some (some (.builtin "getset_descriptor.__get__"))) (et0 : PySem.W.takesIn K (.builtin "object.__class__") = some true) (em0 : PySem.W.mroIn K U0 (.type "object") = some true)
    (kt0_1 : PySem.W.subIn K (.ref U0) (.ref U1) = some true)
    (z_isinstance : PySem.W.nsIn K mainGlobals "isinstance" = some none)
    (z_int : PySem.W.nsIn K mainGlobals "int" = some none)
    (z_bool : PySem.W.nsIn K mainGlobals "bool" = some none)
    (z_str : PySem.W.nsIn K mainGlobals "str" = some none)
    (z_tuple : PySem.W.nsIn K mainGlobals "tuple" = some none)
    (z_list : PySem.W.nsIn K mainGlobals "list" = some none)
    (z_len : PySem.W.nsIn K mainGlobals "len" = some none)
    (z_range : PySem.W.nsIn K mainGlobals "range" = some none)
    (z_abs : PySem.W.nsIn K mainGlobals "abs" = some none)
    (z_min : PySem.W.nsIn K mainGlobals "min" = some none)
    (z_max : PySem.W.nsIn K mainGlobals "max" = some none)
    (z_sum : PySem.W.nsIn K mainGlobals "sum" = some none)
    (z_sorted : PySem.W.nsIn K mainGlobals "sorted" = some none)
    (z_enumerate : PySem.W.nsIn K mainGlobals "enumerate" = some none)
    (z_zip : PySem.W.nsIn K mainGlobals "zip" = some none)
    (z_set : PySem.W.nsIn K mainGlobals "set" = some none)
    (z_any : PySem.W.nsIn K mainGlobals "any" = some none)
    (z_all : PySem.W.nsIn K mainGlobals "all" = some none)
    : ∃ fd : FuncData, (∀ (s : Shared) (v : Value), BindsTo s fd ⟨[v], []⟩ [("_law_script", v)]) ∧ ∀ base : Heap, K.In base → base.Ns mainGlobals mg → FnOk l.prog w K mg base CX0 6 fa fd ["_law_script"] (sp_law K) := by
  have e := hfa.symm.trans (PySem.W.mg_of X G a15)
  cases e
  have F0 := fun_mk (st := s__law_mix) l0 c0 k0
  have b0 := F0.binds (ps := ["_law_script", "_law_seed"]) fun _ _ _ _ _ _ us hl => match us, hl with | [_, _], _ => rfl
  have A0 : At K mg "_law_mix" s__law_mix ["_law_script", "_law_seed"] := ⟨_, _, F0, PySem.W.mg_of X G a0, b0⟩
  have F1 := fun_mk (st := s__law_next) l1 c1 k1
  have b1 := F1.binds (ps := ["_law_h", "_law_cap"]) fun _ _ _ _ _ _ us hl => match us, hl with | [_, _], _ => rfl
  have A1 : At K mg "_law_next" s__law_next ["_law_h", "_law_cap"] := ⟨_, _, F1, PySem.W.mg_of X G a1, b1⟩
  have F2 := fun_mk (st := s__law_pick) l2 c2 k2
  have b2 := F2.binds (ps := ["_law_h", "_law_things"]) fun _ _ _ _ _ _ us hl => match us, hl with | [_, _], _ => rfl
  have A2 : At K mg "_law_pick" s__law_pick ["_law_h", "_law_things"] := ⟨_, _, F2, PySem.W.mg_of X G a2, b2⟩
  have F3 := fun_mk (st := s__law_lengths) l3 c3 k3
  have b3 := F3.binds (ps := ["_law_h"]) fun _ _ _ _ _ _ us hl => match us, hl with | [_], _ => rfl
  have A3 : At K mg "_law_lengths" s__law_lengths ["_law_h"] := ⟨_, _, F3, PySem.W.mg_of X G a3, b3⟩
  have F4 := fun_mk (st := s__law_double) l4 c4 k4
  have b4 := F4.binds (ps := ["_law_times"]) fun _ _ _ _ _ _ us hl => match us, hl with | [_], _ => rfl
  have A4 : At K mg "_law_double" s__law_double ["_law_times"] := ⟨_, _, F4, PySem.W.mg_of X G a4, b4⟩
  have F5 := fun_mk (st := s__law_figures) l5 c5 k5
  have b5 := F5.binds (ps := ["_law_number", "_law_many"]) fun _ _ _ _ _ _ us hl => match us, hl with | [_, _], _ => rfl
  have A5 : At K mg "_law_figures" s__law_figures ["_law_number", "_law_many"] := ⟨_, _, F5, PySem.W.mg_of X G a5, b5⟩
  have F6 := fun_mk (st := s__law_alike) l6 c6 k6
  have b6 := F6.binds (ps := ["_law_found", "_law_due"]) fun _ _ _ _ _ _ us hl => match us, hl with | [_, _], _ => rfl
  have A6 : At K mg "_law_alike" s__law_alike ["_law_found", "_law_due"] := ⟨_, _, F6, PySem.W.mg_of X G a6, b6⟩
  have F7 := fun_mk (st := s_is_integer) l7 c7 k7
  have b7 := F7.binds (ps := ["thing", "low", "high"]) fun _ _ _ _ _ _ us hl => match us, hl with | [_, _, _], _ => rfl
  have A7 : At K mg "is_integer" s_is_integer ["thing", "low", "high"] := ⟨_, _, F7, PySem.W.mg_of X G a7, b7⟩
  have F8 := fun_mk (st := s_check_lengths) l8 c8 k8
  have b8 := F8.binds (ps := ["thing"]) fun _ _ _ _ _ _ us hl => match us, hl with | [_], _ => rfl
  have A8 : At K mg "check_lengths" s_check_lengths ["thing"] := ⟨_, _, F8, PySem.W.mg_of X G a8, b8⟩
  have F9 := fun_mk (st := s_power_of_two) l9 c9 k9
  have b9 := F9.binds (ps := ["times"]) fun _ _ _ _ _ _ us hl => match us, hl with | [_], _ => rfl
  have A9 : At K mg "power_of_two" s_power_of_two ["times"] := ⟨_, _, F9, PySem.W.mg_of X G a9, b9⟩
  have F10 := fun_mk (st := s_room_left) l10 c10 k10
  have b10 := F10.binds (ps := ["lengths"]) fun _ _ _ _ _ _ us hl => match us, hl with | [_], _ => rfl
  have A10 : At K mg "room_left" s_room_left ["lengths"] := ⟨_, _, F10, PySem.W.mg_of X G a10, b10⟩
  have F11 := fun_mk (st := s_figures) l11 c11 k11
  have b11 := F11.binds (ps := ["number", "many"]) fun _ _ _ _ _ _ us hl => match us, hl with | [_, _], _ => rfl
  have A11 : At K mg "figures" s_figures ["number", "many"] := ⟨_, _, F11, PySem.W.mg_of X G a11, b11⟩
  have F12 := fun_mk (st := s_book) l12 c12 k12
  have b12 := F12.binds (ps := ["lengths"]) fun _ _ _ _ _ _ us hl => match us, hl with | [_], _ => rfl
  have A12 : At K mg "book" s_book ["lengths"] := ⟨_, _, F12, PySem.W.mg_of X G a12, b12⟩
  have F13 := fun_mk (st := s_is_whole) l13 c13 k13
  have b13 := F13.binds (ps := ["lengths"]) fun _ _ _ _ _ _ us hl => match us, hl with | [_], _ => rfl
  have A13 : At K mg "is_whole" s_is_whole ["lengths"] := ⟨_, _, F13, PySem.W.mg_of X G a13, b13⟩
  have F14 := fun_mk (st := s__law_book) l14 c14 k14
  have b14 := F14.binds (ps := ["_law_kind", "_law_lengths_here"]) fun _ _ _ _ _ _ us hl => match us, hl with | [_, _], _ => rfl
  have A14 : At K mg "_law_book" s__law_book ["_law_kind", "_law_lengths_here"] := ⟨_, _, F14, PySem.W.mg_of X G a14, b14⟩
  have F15 := fun_mk (st := s_law) l15 c15 k15
  have b15 := F15.binds (ps := ["_law_script"]) fun _ _ _ _ _ _ us hl => match us, hl with | [_], _ => rfl
  have A15 : At K mg "law" s_law ["_law_script"] := ⟨_, _, F15, PySem.W.mg_of X G a15, b15⟩
  have B : Bn mg := ⟨PySem.W.mg_none_of X G z_isinstance, PySem.W.mg_none_of X G z_int, PySem.W.mg_none_of X G z_bool, PySem.W.mg_none_of X G z_str, PySem.W.mg_none_of X G z_tuple, PySem.W.mg_none_of X G z_list, PySem.W.mg_none_of X G z_len, PySem.W.mg_none_of X G z_range, PySem.W.mg_none_of X G z_abs, PySem.W.mg_none_of X G z_min, PySem.W.mg_none_of X G z_max, PySem.W.mg_none_of X G z_sum, PySem.W.mg_none_of X G z_sorted, PySem.W.mg_none_of X G z_enumerate, PySem.W.mg_none_of X G z_zip, PySem.W.mg_none_of X G z_set, PySem.W.mg_none_of X G z_any, PySem.W.mg_none_of X G z_all⟩
  have N0 := PySem.W.mg_of X G n0
  have N1 := PySem.W.mg_of X G n1
  have T0 : ∃ C, ExT K mg "NoBook" C := ⟨_, un0, PySem.W.mg_of X G un0, uq0, uk0, ub0, ut0, ud0, us0⟩
  have T1 : ∃ C, ExT K mg "StepError" C := ⟨_, un1, PySem.W.mg_of X G un1, uq1, uk1, ub1, ut1, ud1, us1⟩
  have E0 : ∀ C, ClsAt K "NoBook" C → ExcC K C := fun C hC => ClsAt.one un0 hC ▸ ⟨eg0, ek0, ub0, ud0, ea0, en0, et0, em0⟩
  have KT0_1 : ∀ C D, ClsAt K "NoBook" C → ClsAt K "StepError" D → PySem.W.kitOne K (.ref C) (.ref D) = some true := fun C D hC hD => ClsAt.one un0 hC ▸ ClsAt.one un1 hD ▸ kit_sub ud1 ut1 kt0_1
  refine ⟨PySem.W.fnOf "law" "law" (defArgs s_law) (defBody s_law) (defScope s_law) .none kV15 dc15 pm15 an15 cd15 ct15, fun s v => .of_eq rfl, fun base _ _ => ?_⟩
  have C0 : CalE l.prog w K mg base "_law_mix" ["_law_script", "_law_seed"] 1 (sp__law_mix K) := ok__law_mix A0 B
  have C1 : CalE l.prog w K mg base "_law_next" ["_law_h", "_law_cap"] 1 (sp__law_next K) := ok__law_next A1 B
  have C2 : CalE l.prog w K mg base "_law_pick" ["_law_h", "_law_things"] 2 (sp__law_pick K) := ok__law_pick A2 B C1
  have C3 : CalE l.prog w K mg base "_law_lengths" ["_law_h"] 3 (sp__law_lengths K) := ok__law_lengths A3 B C2 C1
  have C4 : CalE l.prog w K mg base "_law_double" ["_law_times"] 1 (sp__law_double K) := ok__law_double A4 B
  have C5 : CalE l.prog w K mg base "_law_figures" ["_law_number", "_law_many"] 2 (sp__law_figures K) := ok__law_figures A5 B C4
  have C6 : CalE l.prog w K mg base "_law_alike" ["_law_found", "_law_due"] 5 (sp__law_alike K) := ok__law_alike A6 B
  have C7 : CalE l.prog w K mg base "is_integer" ["thing", "low", "high"] 1 (sp_is_integer K) := ok_is_integer A7 B
  have C8 : CalE l.prog w K mg base "check_lengths" ["thing"] 2 (sp_check_lengths K) := ok_check_lengths A8 B C7 ⟨_, N0, _, rfl⟩ ⟨_, N1, _, rfl⟩
  have C9 : CalE l.prog w K mg base "power_of_two" ["times"] 1 (sp_power_of_two K) := ok_power_of_two A9 B
  have C10 : CalE l.prog w K mg base "room_left" ["lengths"] 2 (sp_room_left K) := ok_room_left A10 B C9 ⟨_, N1, _, rfl⟩
  have C11 : CalE l.prog w K mg base "figures" ["number", "many"] 1 (sp_figures K) := ok_figures A11 B
  have C12 : CalX l.prog w K mg base "book" ["lengths"] 3 (sp_book K) := ok_book A12 B C8 C10 C11 C9 ⟨_, N1, _, rfl⟩ T0
  have C13 : CalX l.prog w K mg base "is_whole" ["lengths"] 3 (sp_is_whole K) := ok_is_whole A13 B C8 C10 T0
  have C14 : CalE l.prog w K mg base "_law_book" ["_law_kind", "_law_lengths_here"] 4 (sp__law_book K) := ok__law_book A14 B C12 C13 T0 T1 E0 KT0_1
  exact ok_law F15 B C0 C3 C5 C4 C6 C14
end St
open PySem PySem.W PyProof.Rows
set_option maxRecDepth 100000 in
set_option maxHeartbeats 0 in
theorem PySem.Challenge.cw_stepruns_k09_whole_books_of_lengths_holds : PySem.Challenge.rw_stepruns_k09_whole_books_of_lengths.Holds := by
  w_on; o_law; k_head; (case hw => w_witness2)
  k_fill
  refine L2.walk_of (l := PySem.Challenge.rw_stepruns_k09_whole_books_of_lengths) (n := 63) (k := 6) (x := "_law_script") (CX := fun _ => L2.CX0) (sp := fun w => St.sp_law _) rfl (by decide) rfl ⟨rfl, by decide, by decide⟩ (fun w h Y => PySem.W.kIn_of Y) ?F (fun _ _ a ns hl _ hS => ⟨a, ns, rfl, hS, hl, fun _ => rfl⟩) (fun _ _ _ _ _ h => h)
  case F =>
    intro w mg fa h KX G hmg
    refine' St.all_mk KX G hmg ?a0 ?l0 ?c0 ?k0 ?a1 ?l1 ?c1 ?k1 ?a2 ?l2 ?c2 ?k2 ?a3 ?l3 ?c3 ?k3 ?a4 ?l4 ?c4 ?k4 ?a5 ?l5 ?c5 ?k5 ?a6 ?l6 ?c6 ?k6 ?a7 ?l7 ?c7 ?k7 ?a8 ?l8 ?c8 ?k8 ?a9 ?l9 ?c9 ?k9 ?a10 ?l10 ?c10 ?k10 ?a11 ?l11 ?c11 ?k11 ?a12 ?l12 ?c12 ?k12 ?a13 ?l13 ?c13 ?k13 ?a14 ?l14 ?c14 ?k14 ?a15 ?l15 ?c15 ?k15 ?n0 ?n1 ?un0 ?uq0 ?uk0 ?ub0 ?ut0 ?ud0 ?us0 ?un1 ?uq1 ?uk1 ?ub1 ?ut1 ?ud1 ?us1 ?eg0 ?ek0 ?ea0 ?en0 ?et0 ?em0 ?kt0_1 ?z_isinstance ?z_int ?z_bool ?z_str ?z_tuple ?z_list ?z_len ?z_range ?z_abs ?z_min ?z_max ?z_sum ?z_sorted ?z_enumerate ?z_zip ?z_set ?z_any ?z_all
    (case a0 => k_is)
    (case l0 => k_is)
    (case c0 => k_is)
    (case k0 => k_is)
    (case a1 => k_is)
    (case l1 => k_is)
    (case c1 => k_is)
    (case k1 => k_is)
    (case a2 => k_is)
    (case l2 => k_is)
    (case c2 => k_is)
    (case k2 => k_is)
    (case a3 => k_is)
    (case l3 => k_is)
    (case c3 => k_is)
    (case k3 => k_is)
    (case a4 => k_is)
    (case l4 => k_is)
    (case c4 => k_is)
    (case k4 => k_is)
    (case a5 => k_is)
    (case l5 => k_is)
    (case c5 => k_is)
    (case k5 => k_is)
    (case a6 => k_is)
    (case l6 => k_is)
    (case c6 => k_is)
    (case k6 => k_is)
    (case a7 => k_is)
    (case l7 => k_is)
    (case c7 => k_is)
    (case k7 => k_is)
    (case a8 => k_is)
    (case l8 => k_is)
    (case c8 => k_is)
    (case k8 => k_is)
    (case a9 => k_is)
    (case l9 => k_is)
    (case c9 => k_is)
    (case k9 => k_is)
    (case a10 => k_is)
    (case l10 => k_is)
    (case c10 => k_is)
    (case k10 => k_is)
    (case a11 => k_is)
    (case l11 => k_is)
    (case c11 => k_is)
    (case k11 => k_is)
    (case a12 => k_is)
    (case l12 => k_is)
    (case c12 => k_is)
    (case k12 => k_is)
    (case a13 => k_is)
    (case l13 => k_is)
    (case c13 => k_is)
    (case k13 => k_is)
    (case a14 => k_is)
    (case l14 => k_is)
    (case c14 => k_is)
    (case k14 => k_is)
    (case a15 => k_is)
    (case l15 => k_is)
    (case c15 => k_is)
    (case k15 => k_is)
    (case n0 => k_is)
    (case n1 => k_is)
    (case un0 => k_is)
    (case uq0 => k_exc)
    (case uk0 => k_is)
    (case ub0 => k_is)
    (case ut0 => k_is)
    (case ud0 => k_is)
    (case us0 => k_is)
    (case un1 => k_is)
    (case uq1 => k_exc)
    (case uk1 => k_is)
    (case ub1 => k_is)
    (case ut1 => k_is)
    (case ud1 => k_is)
    (case us1 => k_is)
    (case eg0 => k_is)
    (case ek0 => k_is)
    (case ea0 => k_is)
    (case en0 => k_is)
    (case et0 => k_is)
    (case em0 => k_is)
    (case kt0_1 => k_is)
    (case z_isinstance => k_is)
    (case z_int => k_is)
    (case z_bool => k_is)
    (case z_str => k_is)
    (case z_tuple => k_is)
    (case z_list => k_is)
    (case z_len => k_is)
    (case z_range => k_is)
    (case z_abs => k_is)
    (case z_min => k_is)
    (case z_max => k_is)
    (case z_sum => k_is)
    (case z_sorted => k_is)
    (case z_enumerate => k_is)
    (case z_zip => k_is)
    (case z_set => k_is)
    (case z_any => k_is)
    (case z_all => k_is)
#print axioms PySem.Challenge.cw_stepruns_k09_whole_books_of_lengths_holds
