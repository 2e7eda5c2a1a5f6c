import PyProof.Rows.All
import Wide.All
import OpenK.AllK
import Wide.FinOn
import HandS.ForMost
import HandS.ForExc
import HandS.Wide
import HandS.WideBits
import HandS.IsInst
import HandS.Codes
import HandS.TupAny
import HandS.TupLen
import HandS.Style
import HandS.Zip
import HandS.Small
import HandS.ExcIs
import HandS.SortRule
import PyProof.Draws
import PyProof.EnumMake
import KE.SortData
import KE.DataMinMax
import KE.GoesMore
import KE.GoesEnum
import PySem.Challenge.RW_stepruns_k07_whole_finite_books
set_option Elab.async false
set_option linter.all false
set_option maxRecDepth 100000
set_option maxHeartbeats 4000000
namespace St
open PySem PySem.Spec PyProof.Rows L2
/-! ### names that are still the built-ins -/
structure Bn (mg : Str → Option Value) : Prop where
  isinstance_ : mg "isinstance" = none
  int_ : mg "int" = none
  bool_ : mg "bool" = none
  str_ : mg "str" = none
  tuple_ : mg "tuple" = none
  list_ : mg "list" = none
  len_ : mg "len" = none
  range_ : mg "range" = none
  abs_ : mg "abs" = none
  min_ : mg "min" = none
  max_ : mg "max" = none
  sum_ : mg "sum" = none
  sorted_ : mg "sorted" = none
  enumerate_ : mg "enumerate" = none
  zip_ : mg "zip" = none
  set_ : mg "set" = none
  any_ : mg "any" = none
  all_ : mg "all" = none
/-- the def st stands as x -/
def At (K : PySem.W.Frag) (mg : Str → Option Value) (x : Str) (st : Stmt) (ps : List Str) : Prop :=
  ∃ f fd, Fun K x x st f fd ∧ mg x = some (.ref f) ∧ Binds K fd ps []
/-- a def that keeps its promise, ready to be called by its name -/
structure Cal (P : Program) (w : World) (K : PySem.W.Frag) (mg : Str → Option Value) (base : Heap) (x : Str) (ps : List Str) (k : Nat) (sp : Sp) (f : Addr) (fd : FuncData) : Prop where
  ok : FnOk P w K mg base CX0 k f fd ps sp
  g : mg x = some (.ref f)
  kp : PySem.W.keepIn K (.ref f) = true
  b : Binds K fd ps []
def CalE (P : Program) (w : World) (K : PySem.W.Frag) (mg : Str → Option Value) (base : Heap) (x : Str) (ps : List Str) (k : Nat) (sp : Sp) : Prop := ∃ f fd, Cal P w K mg base x ps k sp f fd
/-! ### heaps -/
theorem same_new {H : Hp} {p : Addr} (h : H p = none) (o : HO) : Same H (upd H p o) := fun b u q => by rw [upd_ne (ne_of_none q h)]; exact q
theorem Same.seqT {K : PySem.W.Frag} {H H' : Hp} {a : Addr} {xs : List V} (e : Same H H') (h : SqT K H a xs) : SqT K H' a xs := by
  rcases h with (h | ⟨o, h⟩) | h
  · exact .inl (.inl (e _ _ h))
  · exact .inl (.inr ⟨o, e _ _ h⟩)
  · exact .inr h
theorem tyL {K : PySem.W.Frag} {H : Hp} {a : Addr} {xs : List V} (h : SqL K H a xs) : TyX K H (.ref a) (.type "list") := by
  rcases h with (h | ⟨o, h⟩) | ⟨o, its, n, h, c, _⟩
  · exact .base (.lst h)
  · exact .base (.frz h)
  · exact .kList h c
theorem tyT {K : PySem.W.Frag} {H : Hp} {a : Addr} {xs : List V} (h : SqT K H a xs) : TyX K H (.ref a) (.type "tuple") := by
  rcases h with (h | ⟨o, h⟩) | ⟨o, its, n, h, c, _⟩
  · exact .base (.tup h)
  · exact .fTuple h
  · exact .kTuple h c
theorem SqL.new {K : PySem.W.Frag} {H : Hp} {p : Addr} {xs : List V} : SqL K (upd H p (.lst xs)) p xs := .inl (.inl upd_same)
theorem SqT.new {K : PySem.W.Frag} {H : Hp} {p : Addr} {xs : List V} : SqT K (upd H p (.tup xs)) p xs := .inl (.inl upd_same)
theorem ne_new {H : Hp} {a p : Addr} {o : HO} (h : H a = some o) (hp : H p = none) : p ≠ a := fun e => by rw [e, h] at hp; cases hp
theorem iteDT {p : Prop} [Decidable p] {A B : Prop} (h : p) (a : A) : if decide p = true then A else B := by
  rw [decide_eq_true h]
  exact iteT a
theorem iteDF {p : Prop} [Decidable p] {A B : Prop} (h : ¬ p) (b : B) : if decide p = true then A else B := by
  rw [decide_eq_false h]
  exact iteF b
theorem iteND {p : Prop} [Decidable p] {A B : Prop} (h : ¬ p) (a : A) : if (!decide p) = true then A else B := by
  rw [decide_eq_false h]
  exact iteT a
theorem iteNF {p : Prop} [Decidable p] {A B : Prop} (h : p) (b : B) : if (!decide p) = true then A else B := by
  rw [decide_eq_true h]
  exact iteF b
/-! ### ways that meet: what is left is shown once, for all that the ways may bring (G is read off the first way) -/
theorem joinT {R G : Prop} (main : G → R) (k : G) : R := main k
theorem joinG1 {α : Type} {R : Prop} {G : α → Prop} (C : α → Prop) (main : (∀ x, C x → G x) → R) (k : ∀ x, C x → G x) : R := main k
theorem joinG2 {α β : Type} {R : Prop} {G : α → β → Prop} (C : α → β → Prop) (main : (∀ x y, C x y → G x y) → R) (k : ∀ x y, C x y → G x y) : R := main k
theorem joinG3 {α β γ : Type} {R : Prop} {G : α → β → γ → Prop} (C : α → β → γ → Prop) (main : (∀ x y z, C x y z → G x y z) → R) (k : ∀ x y z, C x y z → G x y z) : R := main k
theorem joinG4 {α β γ δ : Type} {R : Prop} {G : α → β → γ → δ → Prop} (C : α → β → γ → δ → Prop) (main : (∀ x y z u, C x y z u → G x y z u) → R) (k : ∀ x y z u, C x y z u → G x y z u) : R := main k
theorem to_nx {i : Nat} {v : V} {σ σ' : List (Option V)} {H : Hp} {Q : List (Option V) → Hp → Prop} (e : σ.set i (some v) = σ') (h : Q σ' H) : gName i v σ H Q := by
  show Q (σ.set i (some v)) H
  rw [e]
  exact h
/-- the value written otherwise -/
theorem to_v {Q : VK} {v v' : V} {H : Hp} (e : v = v') (h : Q v' H) : Q v H := e ▸ h
/-- the heap written otherwise -/
theorem to_H {Q : VK} {v : V} {H H' : Hp} (e : H = H') (h : Q v H') : Q v H := e ▸ h
theorem to_next {D : Ends} {σ σ' : List (Option V)} {H : Hp} (e : σ = σ') (h : D.nx σ' H) : tNext D σ H := by
  show D.nx σ H
  rw [e]
  exact h
/-! ### data of lists, tuples, numbers, texts -/
/-- data no deeper than n, no list of it too long -/
def OkD : Nat → PyData → Prop
  | _, .none => True | _, .bool _ => True | _, .int _ => True | _, .str _ => True
  | n + 1, .list ds => ds.length ≤ 1000000 ∧ ∀ d ∈ ds, OkD n d
  | n + 1, .tuple ds => ds.length ≤ 1000000 ∧ ∀ d ∈ ds, OkD n d
  | _, _ => False
theorem okA_nil {n : Nat} : ∀ d ∈ ([] : List PyData), OkD n d := fun d h => by cases h
theorem okA_cons {n : Nat} {a : PyData} {l : List PyData} (h : OkD n a) (t : ∀ d ∈ l, OkD n d) : ∀ d ∈ a :: l, OkD n d := fun d hd => by
  rcases List.mem_cons.mp hd with e | hd
  · exact e ▸ h
  · exact t d hd
theorem okd_list {n : Nat} {ds : List PyData} (h : ds.length ≤ 1000000) (t : ∀ d ∈ ds, OkD n d) : OkD (n + 1) (.list ds) := ⟨h, t⟩
theorem okd_tuple {n : Nat} {ds : List PyData} (h : ds.length ≤ 1000000) (t : ∀ d ∈ ds, OkD n d) : OkD (n + 1) (.tuple ds) := ⟨h, t⟩
theorem okA_strs {n : Nat} (ws : List Str) : ∀ d ∈ ws.map PyData.str, OkD n d := fun d hd => by
  obtain ⟨x, _, rfl⟩ := List.mem_map.mp hd
  cases n <;> trivial
theorem okA_ints {n : Nat} (ws : List Int) : ∀ d ∈ ws.map PyData.int, OkD n d := fun d hd => by
  obtain ⟨x, _, rfl⟩ := List.mem_map.mp hd
  cases n <;> trivial
theorem DpAll.length {K : PySem.W.Frag} {H : Hp} : ∀ {xs : List V} {ds : List PyData}, DpAll K H xs ds → xs.length = ds.length
  | _, _, .nil => rfl
  | _, _, .cons _ t => congrArg (· + 1) (DpAll.length t)
theorem DpAll.of {K : PySem.W.Frag} {H : Hp} : ∀ {xs : List V} {ds : List PyData}, xs.length = ds.length → (∀ (i : Nat) x d, xs[i]? = some x → ds[i]? = some d → Dp K H x d) → DpAll K H xs ds
  | [], [], _, _ => .nil
  | [], _ :: _, h, _ => by cases h
  | _ :: _, [], h, _ => by cases h
  | x :: xs, d :: ds, h, k => .cons (k 0 x d rfl rfl) (DpAll.of (by simpa using h) fun i y e h1 h2 => k (i + 1) y e (by simpa using h1) (by simpa using h2))
theorem DpAll.get {K : PySem.W.Frag} {H : Hp} : ∀ {xs : List V} {ds : List PyData} {i : Nat} {d : PyData}, DpAll K H xs ds → ds[i]? = some d → ∃ x, xs[i]? = some x ∧ Dp K H x d
  | _, _, _, _, .nil, e => by simp at e
  | _, _, 0, _, .cons h _, e => by
    cases Option.some.inj (by simpa using e)
    exact ⟨_, rfl, h⟩
  | _, _, i + 1, _, .cons _ t, e => by
    obtain ⟨x, h1, h2⟩ := DpAll.get (i := i) t (by simpa using e)
    exact ⟨x, by simpa using h1, h2⟩
mutual
theorem Dp.same {K : PySem.W.Frag} {H H' : Hp} (s : Same H H') : ∀ {v : V} {d : PyData}, Dp K H v d → Dp K H' v d
  | _, _, .non => .non
  | _, _, .bl b => .bl b
  | _, _, .int i => .int i
  | _, _, .str x => .str x
  | _, _, .lst h t => .lst (s.seq h) (DpAll.same s t)
  | _, _, .tup h t => .tup (St.Same.seqT s h) (DpAll.same s t)
theorem DpAll.same {K : PySem.W.Frag} {H H' : Hp} (s : Same H H') : ∀ {v : List V} {d : List PyData}, DpAll K H v d → DpAll K H' v d
  | _, _, .nil => .nil
  | _, _, .cons h t => .cons (Dp.same s h) (DpAll.same s t)
end
def isTL : PyData → Bool
  | .list _ => true | .tuple _ => true | _ => false
/-- a list or tuple of data, opened -/
theorem Dp.seq {K : PySem.W.Frag} {H : Hp} {v : V} {d : PyData} (h : Dp K H v d) (hd : isTL d = true) : ∃ (a : Addr) (xs : List V) (ds : List PyData), v = .ref a ∧ (d = .list ds ∧ SqL K H a xs ∨ d = .tuple ds ∧ SqT K H a xs) ∧ DpAll K H xs ds := by
  cases h with
  | lst h t => exact ⟨_, _, _, rfl, .inl ⟨rfl, h⟩, t⟩
  | tup h t => exact ⟨_, _, _, rfl, .inr ⟨rfl, h⟩, t⟩
  | non => cases hd
  | bl => cases hd
  | int => cases hd
  | str => cases hd
theorem canAll {n : Nat} : ∀ ds : List PyData, (∀ d ∈ ds, d.canLay0 = true ∧ d.depth ≤ n) → PyData.canLayAll0 ds = true ∧ PyData.depthAll ds ≤ n
  | [], _ => ⟨by simp only [PyData.canLayAll0], by simp only [PyData.depthAll]; omega⟩
  | d :: ds, h => by
    obtain ⟨a, b⟩ := h d List.mem_cons_self
    obtain ⟨c, e⟩ := canAll ds fun x hx => h x (List.mem_cons_of_mem _ hx)
    refine ⟨?_, ?_⟩
    · simp only [PyData.canLayAll0]
      rw [a, c]
      rfl
    · simp only [PyData.depthAll]
      omega
/-- as OkD, the texts of plain signs -/
def OkN : Nat → PyData → Prop
  | _, .none => True | _, .bool _ => True | _, .int _ => True | _, .str x => PyData.strOk x = true
  | n + 1, .list ds => ∀ d ∈ ds, OkN n d
  | n + 1, .tuple ds => ∀ d ∈ ds, OkN n d
  | _, _ => False
theorem ok_can : ∀ (n : Nat) (d : PyData), OkN n d → d.canLay0 = true ∧ d.depth ≤ n
  | _, .none, _ => ⟨by simp only [PyData.canLay0], by simp only [PyData.depth]; omega⟩
  | _, .bool _, _ => ⟨by simp only [PyData.canLay0], by simp only [PyData.depth]; omega⟩
  | _, .int _, _ => ⟨by simp only [PyData.canLay0], by simp only [PyData.depth]; omega⟩
  | n, .str x, h => by
    have h' : PyData.strOk x = true := by cases n <;> exact h
    exact ⟨by simp only [PyData.canLay0]; exact h', by simp only [PyData.depth]; omega⟩
  | n + 1, .list ds, h => by
    obtain ⟨a, b⟩ := canAll ds fun d hd => ok_can n d (h d hd)
    exact ⟨by simp only [PyData.canLay0]; exact a, by simp only [PyData.depth]; omega⟩
  | n + 1, .tuple ds, h => by
    obtain ⟨a, b⟩ := canAll ds fun d hd => ok_can n d (h d hd)
    exact ⟨by simp only [PyData.canLay0]; exact a, by simp only [PyData.depth]; omega⟩
  | 0, .list _, h => h.elim
  | 0, .tuple _, h => h.elim
  | 0, .dict _, h => h.elim
  | _ + 1, .dict _, h => h.elim
theorem ok_shaped {n : Nat} {d : PyData} (h : OkN n d) (hn : n ≤ 60) : SeqAt.shaped d = true := by
  obtain ⟨a, b⟩ := ok_can n d h
  unfold SeqAt.shaped
  rw [a, decide_eq_true (by omega)]
  rfl
theorem eqv_nil (ds : List PyData) : PyData.eqv (.list ds) (.list []) = ds.isEmpty := by
  cases ds <;> rfl
/-! ### a text times a number -/
def repS (x : Str) (n : Nat) : Str := ⟨((List.replicate n x.cps.toList).flatten).toArray⟩
theorem repS_one (x : Str) : repS x 1 = x := by
  unfold repS
  simp
theorem fold_app (l : List (Array Nat)) (a : Array Nat) : (l.foldl (· ++ ·) a).toList = a.toList ++ (l.map Array.toList).flatten := by
  induction l generalizing a with
  | nil => simp
  | cons x r ih => simp [List.foldl_cons, ih, List.append_assoc]
section
variable {X : Cx}
theorem op_mul_str : OpR X (binaryOp .Mult) (fun x y H Q => ∃ z n, x = .str z ∧ y = .int n ∧ n < 2 ^ 62 ∧ -(2 ^ 62) < n ∧ z.length * n.toNat ≤ 1000000 ∧ Q (.str (repS z n.toNat)) H) := by
  intro pins s σ H x y v u Q I rx ry h
  obtain ⟨z, n, rfl, rfl, h1, h2, h3, q⟩ := h
  obtain ⟨t, rfl⟩ := rx
  obtain ⟨t', rfl⟩ := ry
  refine P.mul_str (by
    have a : ¬ n < -(2 ^ 63) := by omega
    have b : ¬ n ≥ 2 ^ 63 := by omega
    rw [decide_eq_false a, decide_eq_false b]; rfl) (fun hn _ hb => ?_) (fun hn _ => ?_) ?_
  · have hp : 0 < n := by omega
    have e1 : (z.length : Int) * n ≤ 1000000 := by
      have e0 : ((n.toNat : Nat) : Int) = n := Int.toNat_of_nonneg (by omega)
      have e4 : ((z.length * n.toNat : Nat) : Int) ≤ 1000000 := Int.ofNat_le.mpr h3
      rw [Int.natCast_mul, e0] at e4
      exact e4
    have e2 : (2 ^ 63 - 1) / n < (z.length : Int) := hb
    have e3 : (2 ^ 63 - 1 : Int) < z.length * n := (Int.ediv_lt_iff_lt_mul hp).mp e2
    generalize (z.length : Int) * n = w at e1 e3
    omega
  · refine decide_eq_false ?_
    have z : sizeLine = 16777216 := sizeLine_eq
    omega
  · by_cases hn : n < 1
    · rw [if_pos hn]
      refine ⟨by decide, ?_⟩
      have e : n.toNat = 0 := by omega
      rw [e] at q
      exact ⟨.str _, H, I.tok _, ⟨_, rfl⟩, q⟩
    · rw [if_neg hn]
      by_cases hm : (n == 1 || z.length == 0) = true
      · rw [if_pos hm]
        have e : repS z n.toNat = z := by
          rw [Bool.or_eq_true] at hm
          rcases hm with hm | hm
          · have : n = 1 := by simpa using hm
            subst this
            exact repS_one z
          · have hz : z.cps.size = 0 := by simpa [Str.length] using hm
            obtain ⟨c⟩ := z
            have : c = #[] := Array.eq_empty_of_size_eq_zero hz
            subst this
            unfold repS
            simp
        rw [e] at q
        exact ⟨.str _, H, I, ⟨_, rfl⟩, q⟩
      · rw [if_neg hm]
        have e : (⟨(List.replicate n.toNat z.cps).foldl (· ++ ·) #[]⟩ : Str) = repS z n.toNat := by
          unfold repS
          congr 1
          apply Array.toList_inj.mp
          rw [fold_app]
          simp [List.map_replicate]
        rw [e]
        refine ⟨?_, ⟨.str _, H, I.tok _, ⟨_, rfl⟩, q⟩⟩
        rw [← e]
        refine fits_reps (decide_eq_false ?_)
        have z : sizeLine = 16777216 := sizeLine_eq
        omega
theorem ip_add_str : PIp X .Add (fun x y H Q => ∃ i j, x = .str i ∧ y = .str j ∧ i.length + j.length ≤ sizeLine ∧ Q (.str (i ++ j)) H) := iop_add_str
end
/-! ### walks over a text -/
theorem lc_str {x : Str} {g : TG} {tt : TT} {te : TE} {vs : List Nat} {σ : List (Option V)} {H1 : Hp} {D : Addr} {Qd : Hp → Prop} (Pv : Nat → Hp → Prop) (h0 : Pv 0 (upd H1 D (.lst [])))
    (hs : ∀ i c H, x.cps.toList[i]? = some c → Pv i H → g (.str ⟨#[c]⟩) (wipe σ vs) H fun σ2 H2 => wipe σ2 vs = wipe σ vs ∧ tt σ2 H2 fun b H3 =>
      if b = true then te σ2 H3 fun y H4 => ∃ acc, H4 D = some (.lst acc) ∧ acc.length < sizeLine ∧ Pv (i + 1) (upd H4 D (.lst (acc ++ [y]))) else Pv (i + 1) H3) (hd : ∀ H, Pv x.cps.size H → Qd H) :
    ∃ W : Nat → Nat → Hp → Prop, (∃ m, W 0 m (upd H1 D (.lst []))) ∧ ∀ i m H, W i m H →
      ((Its x).stop i H ∧ Qd H) ∨ ((Its x).go i H ∧ ∃ Nx : Hp → Prop, (∀ H', Nx H' → ∃ m', m' < m ∧ W (i + 1) m' H') ∧ ∀ v H', (Its x).yld i H v H' → g v (wipe σ vs) H' fun σ2 H2 => wipe σ2 vs = wipe σ vs ∧ tt σ2 H2 fun b H3 =>
        if b = true then te σ2 H3 fun y H4 => ∃ acc, H4 D = some (.lst acc) ∧ acc.length < sizeLine ∧ Nx (upd H4 D (.lst (acc ++ [y]))) else Nx H3) := by
  refine ⟨fun i m H => m = x.cps.size - i ∧ i ≤ x.cps.size ∧ Pv i H, ⟨x.cps.size, by simp, Nat.zero_le _, h0⟩, ?_⟩
  rintro i m H ⟨rfl, hi, p⟩
  by_cases hlt : i < x.cps.size
  · refine .inr ⟨hlt, Pv (i + 1), fun H' p' => ⟨x.cps.size - (i + 1), by omega, rfl, hlt, p'⟩, fun v H' y => ?_⟩
    obtain ⟨e, c, ec, ev⟩ := y
    subst e ev
    exact hs i c _ (by rw [Array.getElem?_toList]; exact ec) p
  · have e : i = x.cps.size := by omega
    subst e
    exact .inl ⟨Nat.le_refl _, hd H p⟩
theorem for_str {x : Str} {g : TG} {tb : TS} {D : Ends} {σ : List (Option V)} {H : Hp} (Pv : Nat → List (Option V) → Hp → Prop) (h0 : Pv 0 σ H)
    (hs : ∀ i c σ H, x.cps.toList[i]? = some c → Pv i σ H → g (.str ⟨#[c]⟩) σ H fun σ2 H2 => tb { D with nx := Pv (i + 1), ct := Pv (i + 1), bk := D.nx } σ2 H2) (hd : ∀ σ H, Pv x.cps.size σ H → D.nx σ H) :
    ∃ W : Nat → Nat → List (Option V) → Hp → Prop, (∃ m, W 0 m σ H) ∧ ∀ i m σ H, W i m σ H →
      ((Its x).stop i H ∧ D.nx σ H) ∨ ((Its x).go i H ∧ ∃ N : List (Option V) → Hp → Prop, (∀ σ' H', N σ' H' → ∃ m', m' < m ∧ W (i + 1) m' σ' H') ∧ ∀ v H', (Its x).yld i H v H' → g v σ H' fun σ2 H2 => tb { D with nx := N, ct := N, bk := D.nx } σ2 H2) := by
  refine ⟨fun i m σ H => m = x.cps.size - i ∧ i ≤ x.cps.size ∧ Pv i σ H, ⟨x.cps.size, by simp, Nat.zero_le _, h0⟩, ?_⟩
  rintro i m σ H ⟨rfl, hi, p⟩
  by_cases hlt : i < x.cps.size
  · refine .inr ⟨hlt, Pv (i + 1), fun σ' H' p' => ⟨x.cps.size - (i + 1), by omega, rfl, hlt, p'⟩, fun v H' y => ?_⟩
    obtain ⟨e, c, ec, ev⟩ := y
    subst e ev
    exact hs i c σ _ (by rw [Array.getElem?_toList]; exact ec) p
  · have e : i = x.cps.size := by omega
    subst e
    exact .inl ⟨Nat.le_refl _, hd σ H p⟩
theorem cutV_from (xs : List V) (k : Nat) : cutV xs (some (k : Int)) none = xs.drop k := by
  unfold cutV
  rw [HT.sIx_nat, HT.sIx_none]
  by_cases h : k ≤ xs.length
  · rw [Nat.min_eq_left h, List.take_of_length_le (by rw [List.length_drop]; exact Nat.le_refl _)]
  · rw [Nat.min_eq_right (by omega), List.drop_eq_nil_of_le (Nat.le_refl _), List.drop_eq_nil_of_le (by omega), List.take_nil]
/-! ### the rules with the written part K by name (within a comprehension X.K is not read off) -/
section
variable {X : Cx} (K : PySem.W.Frag)
theorem ix_list_ (h : X.K = K := by rfl) : IxR X (rIxL K) := h ▸ ix_list
theorem ix_tup_ (h : X.K = K := by rfl) : IxR X (rIxT K) := h ▸ ix_tup
theorem ix_seq_ (h : X.K = K := by rfl) : IxR X (rIx K) := h ▸ ix_seq
theorem sl_list_ (h : X.K = K := by rfl) : SlR X (rSlL K) := h ▸ sl_list
theorem sl_tupA_ (h : X.K = K := by rfl) : SlR X (rSlA K) := h ▸ sl_tupA
def rLenV (K : PySem.W.Frag) : List V → Hp → VK → Prop := fun xs H Q => ∃ x n, xs = [x] ∧ LenV K x H n ∧ Q (.int (n : Nat)) H
theorem call_len_ (h : X.K = K := by rfl) : CallR X (.builtin "len") (rLenV K) := h ▸ call_len
def rLenQ (K : PySem.W.Frag) : List V → Hp → VK → Prop := fun xs H Q => ∃ p ys, xs = [.ref p] ∧ (SqL K H p ys ∨ SqT K H p ys) ∧ Q (.int ys.length) H
theorem call_len_seq_ (h : X.K = K := by rfl) : CallR X (.builtin "len") (rLenQ K) := h ▸ call_len_seq
def rLenS : List V → Hp → VK → Prop := fun xs H Q => ∃ z, xs = [.str z] ∧ z.length ≤ sizeLine ∧ Q (.int z.length) H
theorem call_len_str_ : CallR X (.builtin "len") rLenS := call_len_str
theorem call_isi_ (h : X.K = K := by rfl) : CallR X (.builtin "isinstance") (rIsi K) := h ▸ call_isi
theorem call_isiT_ (h : X.K = K := by rfl) : CallR X (.builtin "isinstance") (rIsiT K) := h ▸ call_isiT
theorem cr_sum_ (hc : X.calm = true) (h : X.K = K := by rfl) : CallR X (.builtin "sum") (rSum K) := h ▸ cr_sum hc
theorem cr_max_ (hc : X.calm = true) (h : X.K = K := by rfl) : CallR X (.builtin "max") (rMax K) := h ▸ cr_max hc
theorem cr_min_ (hc : X.calm = true) (h : X.K = K := by rfl) : CallR X (.builtin "min") (rMin K) := h ▸ cr_min hc
theorem cr_all_ (hc : X.calm = true) (h : X.K = K := by rfl) : CallR X (.builtin "all") (rAll K) := h ▸ cr_all hc
theorem cr_any_ (hc : X.calm = true) (h : X.K = K := by rfl) : CallR X (.builtin "any") (rAny K) := h ▸ cr_any hc
def rTupOf (K : PySem.W.Frag) : List V → Hp → VK → Prop := fun xs H Q => ∃ p ys, xs = [.ref p] ∧ ((SqL K H p ys ∧ ∀ l, H l = none → Q (.ref l) (upd H l (.tup ys))) ∨ (SqT K H p ys ∧ Q (.ref p) H))
theorem call_tuple_of_ (h : X.K = K := by rfl) : CallR X (.type "tuple") (rTupOf K) := h ▸ call_tuple_of
def rListOf (K : PySem.W.Frag) : List V → Hp → VK → Prop := fun xs H Q => ∃ p ys, xs = [.ref p] ∧ (SqL K H p ys ∨ SqT K H p ys) ∧ ∀ l, H l = none → Q (.ref l) (upd H l (.lst ys))
theorem call_list_of_ (h : X.K = K := by rfl) : CallR X (.type "list") (rListOf K) := h ▸ call_list_of
theorem op_eqD_ (hu : X.A.units + 64 < cLine) (h : X.K = K := by rfl) : OpR X (compareOp .Eq) (rEqD K) := h ▸ op_eqD hu
theorem op_neD_ (hu : X.A.units + 64 < cLine) (h : X.K = K := by rfl) : OpR X (compareOp .NotEq) (rNeD K) := h ▸ op_neD hu
theorem op_in_seq_ (h : X.K = K := by rfl) : OpR X (compareOp .In) (rIn K false) := h ▸ op_in_seq
theorem op_notIn_seq_ (h : X.K = K := by rfl) : OpR X (compareOp .NotIn) (rIn K true) := h ▸ op_notIn_seq
def rJoinK (K : PySem.W.Frag) : V → List V → Hp → VK → Prop := fun x xs H Q => ∃ a p, ∃ ys : List Str, x = .str a ∧ xs = [.ref p] ∧ (SqL K H p (ys.map V.str) ∨ SqT K H p (ys.map V.str)) ∧ (ys.map (·.length)).sum + ys.length * a.length ≤ 16777216 ∧ Q (.str (Txt.join a ys)) H
theorem pe_join_ {o e : Expr} {to te : TE} {apos pos : Pos} (ho : PE X o to) (he : PE X e te) (hK : X.K = K := by rfl) (hs : starEach [e] X.env = [(false, eval e X.env)] := by rfl) (hbase : attributeBase o "join" X.env (eval o X.env) = eval o X.env := by rfl) (hline : (apos.endLine == pos.line) = true := by rfl) :
    PE X (.Call (.Attribute o "join" apos) [e] [] pos) (tM1 (rJoinK K) to te) := hK ▸ pe_join ho he hs hbase hline
theorem pi_tup_ {tg l : Expr} {tl : TE} (hl : PE X l tl) (h : X.K = K := by rfl) : PI X tg l (iTup K tl) := h ▸ pi_tup hl
theorem pi_list_ {tg l : Expr} {tl : TE} (hl : PE X l tl) (h : X.K = K := by rfl) : PI X tg l (iList K tl) := h ▸ pi_list hl
theorem op_catA_ (h : X.K = K := by rfl) : OpR X (binaryOp .Add) (rCatA K) := h ▸ op_catA
end
/-! ### what the law's own draws keep -/
/-- a source of draws: at h a list of a number, a list of numbers at q, a number -/
structure LawH (H : Hp) (h q : Addr) : Prop where
  ne : h ≠ q
  src : ∃ (st ix : Int) (cells : List Int), H h = some (.lst [.int st, .ref q, .int ix]) ∧ H q = some (.lst (cells.map V.int)) ∧ cells.length ≤ 1000
/-- all but the source stands as it was -/
def Sm (h q : Addr) (H H' : Hp) : Prop := ∀ b o, H b = some o → b ≠ h → b ≠ q → H' b = some o
theorem Sm.refl (h q : Addr) (H : Hp) : Sm h q H H := fun _ _ e _ _ => e
theorem Sm.trans {h q : Addr} {H H1 H2 : Hp} (a : Sm h q H H1) (b : Sm h q H1 H2) : Sm h q H H2 := fun c o e n m => b c o (a c o e n m) n m
theorem Sm.of {h q : Addr} {H H' : Hp} (a : Same H H') : Sm h q H H' := fun c o e _ _ => a c o e
theorem Sm.seq {K : PySem.W.Frag} {h q : Addr} {H H' : Hp} {a : Addr} {xs : List V} (e : Sm h q H H') (n1 : a ≠ h) (n2 : a ≠ q) (z : SqL K H a xs) : SqL K H' a xs := by
  rcases z with (z | ⟨o, z⟩) | z
  · exact .inl (.inl (e _ _ z n1 n2))
  · exact .inl (.inr ⟨o, e _ _ z n1 n2⟩)
  · exact .inr z
theorem Sm.seqT {K : PySem.W.Frag} {h q : Addr} {H H' : Hp} {a : Addr} {xs : List V} (e : Sm h q H H') (n1 : a ≠ h) (n2 : a ≠ q) (z : SqT K H a xs) : SqT K H' a xs := by
  rcases z with (z | ⟨o, z⟩) | z
  · exact .inl (.inl (e _ _ z n1 n2))
  · exact .inl (.inr ⟨o, e _ _ z n1 n2⟩)
  · exact .inr z
theorem LawH.same {H H' : Hp} {h q : Addr} (L : LawH H h q) (a : Same H H') : LawH H' h q := by
  obtain ⟨n, st, ix, cells, e1, e2, e3⟩ := L
  exact ⟨n, st, ix, cells, a _ _ e1, a _ _ e2, e3⟩
theorem LawH.nn {H : Hp} {h q : Addr} (L : LawH H h q) : H h ≠ Option.none ∧ H q ≠ Option.none := by
  obtain ⟨n, st, ix, cells, e1, e2, e3⟩ := L
  exact ⟨fun z => by (rw [e1] at z; cases z), fun z => by (rw [e2] at z; cases z)⟩
theorem LawH.tup_ne {H : Hp} {h q t : Addr} {xs : List V} (L : LawH H h q) (e : H t = some (.tup xs)) : t ≠ h ∧ t ≠ q := by
  obtain ⟨n, st, ix, cells, e1, e2, e3⟩ := L
  exact ⟨fun z => by (rw [z, e1] at e; cases e), fun z => by (rw [z, e2] at e; cases e)⟩
theorem LawH.updL {H : Hp} {h q D : Addr} {l : List V} (L : LawH H h q) (n1 : D ≠ h) (n2 : D ≠ q) : LawH (upd H D (.lst l)) h q := by
  obtain ⟨ne, st, ix, cells, a, b, d⟩ := L
  exact ⟨ne, st, ix, cells, by rw [upd_ne (Ne.symm n1)]; exact a, by rw [upd_ne (Ne.symm n2)]; exact b, d⟩
theorem SqT.updL {K : PySem.W.Frag} {H : Hp} {a D : Addr} {xs l l' : List V} (e : H D = some (.lst l)) (z : SqT K H a xs) : SqT K (upd H D (.lst l')) a xs := by
  rcases z with (z | ⟨o, z⟩) | z
  · exact .inl (.inl (by rw [upd_ne (fun y => by rw [y, e] at z; cases z)]; exact z))
  · exact .inl (.inr ⟨o, by rw [upd_ne (fun y => by rw [y, e] at z; cases z)]; exact z⟩)
  · exact .inr z
end St
namespace St
open PySem PySem.Spec PyProof.Rows L2
/-! ### texts of the signs 0 and 1, words by a step -/
def sg (b : Bool) : Nat := if b then 49 else 48
theorem sg_inj {a b : Bool} (h : sg a = sg b) : a = b := by
  cases a <;> cases b <;> first | rfl | (exact absurd h (by decide))
/-- the text of some signs -/
def tx (l : List Bool) : Str := ⟨(l.map sg).toArray⟩
theorem tx_list (l : List Bool) : (tx l).cps.toList = l.map sg := by simp [tx]
theorem tx_len (l : List Bool) : (tx l).length = l.length := by simp [tx, Str.length]
theorem str_ext {a b : Str} (h : a.cps.toList = b.cps.toList) : a = b := by
  obtain ⟨a⟩ := a
  obtain ⟨b⟩ := b
  exact congrArg Str.mk (Array.toList_inj.mp h)
theorem app_list (a b : Str) : (a ++ b).cps.toList = a.cps.toList ++ b.cps.toList := by
  show (Str.append a b).cps.toList = _
  unfold Str.append
  simp
theorem tx_app (a b : List Bool) : tx a ++ tx b = tx (a ++ b) := by
  apply str_ext
  rw [app_list, tx_list, tx_list, tx_list, List.map_append]
theorem tx_inj {a b : List Bool} (h : tx a = tx b) : a = b := by
  have e : a.map sg = b.map sg := by rw [← tx_list, ← tx_list, h]
  exact (List.map_inj_right (fun _ _ h => sg_inj h)).mp e
theorem tx_one : ("1" : Str) = tx [true] := by decide +kernel
theorem tx_zero : ("0" : Str) = tx [false] := by decide +kernel
theorem tx_nil : ("" : Str) = tx [] := by decide +kernel
theorem tx_rep (b : Bool) (n : Nat) : repS (tx [b]) n = tx (List.replicate n b) := by
  apply str_ext
  unfold repS
  rw [tx_list]
  simp only [tx_list, List.map_replicate]
  induction n with
  | zero => rfl
  | succ n ih =>
    rw [List.replicate_succ, List.flatten_cons, ih, List.replicate_succ]
    rfl
/-- so many figures of a number by twos, the highest first -/
def fig (n : Nat) : Nat → List Bool
  | 0 => []
  | k + 1 => (n / 2 ^ k % 2 == 1) :: fig n k
theorem fig_len (n k : Nat) : (fig n k).length = k := by
  induction k with
  | zero => rfl
  | succ k ih => rw [fig, List.length_cons, ih]
/-- what figures are worth -/
def worth : List Bool → Nat
  | [] => 0
  | b :: r => (if b then 2 ^ r.length else 0) + worth r
theorem worth_fig (n k : Nat) : worth (fig n k) = n % 2 ^ k := by
  induction k with
  | zero => simp [fig, worth, Nat.mod_one]
  | succ k ih =>
    rw [fig, worth, ih, fig_len, Nat.pow_succ, Nat.mod_mul]
    have := Nat.mod_two_eq_zero_or_one (n / 2 ^ k)
    rcases this with h | h <;> rw [h] <;> simp <;> omega
theorem worth_lt (l : List Bool) : worth l < 2 ^ l.length := by
  induction l with
  | nil => simp [worth]
  | cons b r ih =>
    rw [worth, List.length_cons, Nat.pow_succ]
    split <;> omega
/-- the least number of figures for all rests -/
def wideN (m : Nat) : Nat := if m ≤ 1 then 0 else Nat.log2 (m - 1) + 1
theorem wide_le (m : Nat) : m ≤ 2 ^ wideN m := by
  unfold wideN
  split
  · omega
  · have := Nat.lt_log2_self (n := m - 1)
    omega
theorem wideN_lt (m d : Nat) (h : d < wideN m) : 2 ^ d < m := by
  unfold wideN at h
  split at h
  · omega
  · have h1 := Nat.log2_self_le (n := m - 1) (by omega)
    have h2 : 2 ^ d ≤ 2 ^ (m - 1).log2 := Nat.pow_le_pow_right (by decide) (by omega)
    omega
theorem wide_eq {m c : Nat} (h1 : m ≤ 2 ^ c) (h2 : ∀ d, d < c → 2 ^ d < m) : wideN m = c := by
  rcases Nat.lt_trichotomy (wideN m) c with h | h | h
  · have a := h2 _ h
    have b := wide_le m
    omega
  · exact h
  · have a := wideN_lt m c h
    omega
theorem wide_64 {m : Nat} (h : m ≤ 64) : wideN m ≤ 6 := by
  refine Nat.not_lt.mp fun c => ?_
  have := wideN_lt m 6 c
  omega
def shortN (m : Nat) : Nat := 2 ^ wideN m - m
theorem short_lt {m : Nat} (h : 1 ≤ m) : shortN m < m := by
  unfold shortN
  have h1 := wide_le m
  cases e : wideN m with
  | zero =>
    rw [e] at h1
    simp at h1
    simp
    omega
  | succ c =>
    have h2 := wideN_lt m c (by omega)
    rw [Nat.pow_succ]
    omega
theorem short_zero {m : Nat} (h : wideN m = 0) (h1 : 1 ≤ m) : m = 1 := by
  have := wide_le m
  rw [h] at this
  simp at this
  omega
/-- the word for a rest -/
def restB (m r : Nat) : List Bool := if r < shortN m then fig r (wideN m - 1) else fig (r + shortN m) (wideN m)
/-- the word for a number -/
def wordB (m n : Nat) : List Bool := List.replicate (n / m) true ++ false :: restB m (n % m)
theorem rest_len (m r : Nat) : (restB m r).length = if r < shortN m then wideN m - 1 else wideN m := by
  unfold restB
  split <;> rw [fig_len]
theorem rest_len_le (m r : Nat) : (restB m r).length ≤ wideN m := by
  rw [rest_len]
  split <;> omega
theorem word_len (m n : Nat) : (wordB m n).length = n / m + 1 + (restB m (n % m)).length := by
  unfold wordB
  simp
  omega
/-- a place of a text -/
theorem cut_tx (l : List Bool) (i j : Nat) : cutS (tx l) (some (i : Int)) (some (j : Int)) = tx ((l.drop i).take (j - i)) := by
  apply str_ext
  unfold cutS
  rw [tx_list, tx_len, HT.sIx_nat, HT.sIx_nat, tx_list]
  simp only [List.map_take, List.map_drop]
  by_cases h : i ≤ l.length
  · rw [Nat.min_eq_left h]
    by_cases h2 : j ≤ l.length
    · rw [Nat.min_eq_left h2]
    · rw [Nat.min_eq_right (show l.length ≤ j by omega)]
      rw [List.take_of_length_le (by simp), List.take_of_length_le (by simp; omega)]
  · rw [Nat.min_eq_right (show l.length ≤ i by omega)]
    have e1 : List.drop l.length (l.map sg) = [] := List.drop_eq_nil_of_le (by simp)
    have e2 : List.drop i (l.map sg) = [] := List.drop_eq_nil_of_le (by simp; omega)
    rw [e1, e2]
    simp
theorem cut_to (l : List Bool) (j : Nat) : cutS (tx l) none (some (j : Int)) = tx (l.take j) := by
  have := cut_tx l 0 j
  have e : cutS (tx l) none (some (j : Int)) = cutS (tx l) (some ((0 : Nat) : Int)) (some (j : Int)) := by
    unfold cutS
    have e0 : HT.sIx (tx l).length 0 (some ((0 : Nat) : Int)) = 0 := by rw [HT.sIx_nat, Nat.min_eq_left (Nat.zero_le _)]
    rw [e0, HT.sIx_none]
  rw [e, this, List.drop_zero, Nat.sub_zero]
theorem cut_from (l : List Bool) (i : Nat) : cutS (tx l) (some (i : Int)) none = tx (l.drop i) := by
  apply str_ext
  unfold cutS
  rw [tx_list, tx_len, HT.sIx_nat, HT.sIx_none, tx_list]
  simp only [List.map_drop]
  by_cases h : i ≤ l.length
  · rw [Nat.min_eq_left h, List.take_of_length_le (by simp)]
  · rw [Nat.min_eq_right (show l.length ≤ i by omega)]
    have e1 : List.drop l.length (l.map sg) = [] := List.drop_eq_nil_of_le (by simp)
    have e2 : List.drop i (l.map sg) = [] := List.drop_eq_nil_of_le (by simp; omega)
    rw [e1, e2]
    simp
/-- the sign at a place, as it is asked: text[at:at + 1] == "1" -/
theorem cut_at (l : List Bool) (i : Nat) : cutS (tx l) (some (i : Int)) (some ((i : Int) + 1)) = tx (l[i]?.toList) := by
  have := cut_tx l i (i + 1)
  rw [show ((i + 1 : Nat) : Int) = (i : Int) + 1 by omega] at this
  rw [this, Nat.add_sub_cancel_left]
  congr 1
  cases h : l[i]? with
  | none =>
    rw [List.drop_eq_nil_of_le (List.getElem?_eq_none_iff.mp h)]
    rfl
  | some b =>
    obtain ⟨hi, e⟩ := List.getElem?_eq_some_iff.mp h
    rw [List.drop_eq_getElem_cons hi, e]
    rfl
theorem at_is (o : Option Bool) : (tx o.toList = tx [true]) ↔ o = some true := by
  constructor
  · intro h
    have := tx_inj h
    cases o with
    | none => cases this
    | some b => exact congrArg some (List.cons.inj this).1
  · rintro rfl
    rfl
theorem fig_get (n k i : Nat) (h : i < k) : (fig n k)[i]? = some (n / 2 ^ (k - 1 - i) % 2 == 1) := by
  induction k generalizing i with
  | zero => omega
  | succ k ih =>
    cases i with
    | zero => simp [fig]
    | succ i =>
      rw [fig, List.getElem?_cons_succ, ih i (by omega)]
      rw [show k + 1 - 1 - (i + 1) = k - 1 - i by omega]
theorem take_more {α : Type} {l : List α} {i : Nat} {x : α} (h : l[i]? = some x) : l.take (i + 1) = l.take i ++ [x] := by
  rw [List.take_add_one, h]
  rfl
theorem fig_take (n k i : Nat) (h : i < k) : (fig n k).take (i + 1) = (fig n k).take i ++ [n / 2 ^ (k - 1 - i) % 2 == 1] := take_more (fig_get n k i h)
theorem bit_int (n d : Nat) : (((n : Int) / ((2 ^ d : Nat) : Int) % 2 = 1)) ↔ (n / 2 ^ d % 2 == 1) = true := by
  rw [beq_iff_eq, ← Int.natCast_ediv]
  omega
end St
namespace St
open PySem PySem.Spec PyProof.Rows L2
/-! ### books of lengths -/
def roomN (ls : List Nat) : Nat := (ls.map fun l => 2 ^ (60 - l)).sum
/-- lengths as the document wants them -/
structure IsLens (ls : List Nat) : Prop where
  l1 : 1 ≤ ls.length
  l40 : ls.length ≤ 40
  l60 : ∀ l ∈ ls, l ≤ 60
theorem geti_nat {ns : List Nat} {i : Nat} {x : V} (hx : (ns.map fun n => V.int (n : Nat))[i]? = some x) : ∃ z, ns[i]? = some z ∧ x = V.int (z : Nat) := by
  rw [List.getElem?_map] at hx
  cases e : ns[i]? with
  | none => rw [e] at hx; cases hx
  | some z => rw [e] at hx; exact ⟨z, rfl, (Option.some.inj hx).symm⟩
theorem sum_natInt (f : Nat → Nat) (ns : List Nat) : (ns.map fun n => ((f n : Nat) : Int)).sum = (((ns.map f).sum : Nat) : Int) := by
  induction ns with
  | nil => rfl
  | cons a r ih =>
    rw [List.map_cons, List.sum_cons, List.map_cons, List.sum_cons, ih, Int.natCast_add]
/-! the order by lengths, then by numbers; the words -/
def lexL (a b : Nat × Nat) : Prop := a.1 < b.1 ∨ (a.1 = b.1 ∧ a.2 < b.2)
structure IsOrd (ls : List Nat) (o : List (Nat × Nat)) : Prop where
  perm : o.Perm ls.zipIdx
  pw : o.Pairwise lexL
theorem pwl_ext : ∀ a b : List (Nat × Nat), a.Pairwise lexL → b.Pairwise lexL → (∀ x, x ∈ a ↔ x ∈ b) → a = b
  | [], [], _, _, _ => rfl
  | [], y :: b, _, _, h => absurd ((h y).mpr (List.mem_cons_self ..)) (by simp)
  | x :: a, [], _, _, h => absurd ((h x).mp (List.mem_cons_self ..)) (by simp)
  | x :: a, y :: b, ha, hb, h => by
    obtain ⟨h1, h2⟩ := List.pairwise_cons.mp ha
    obtain ⟨h3, h4⟩ := List.pairwise_cons.mp hb
    have asym : ∀ p q : Nat × Nat, lexL p q → lexL q p → False := fun p q u v => by
      unfold lexL at u v
      omega
    have exy : x = y := by
      rcases List.mem_cons.mp ((h x).mp (List.mem_cons_self ..)) with e | e
      · exact e
      rcases List.mem_cons.mp ((h y).mpr (List.mem_cons_self ..)) with e' | e'
      · exact e'.symm
      exact (asym _ _ (h3 x e) (h1 y e')).elim
    subst exy
    rw [pwl_ext a b h2 h4 fun z => ?_]
    constructor
    · intro hz
      rcases List.mem_cons.mp ((h z).mp (List.mem_cons_of_mem _ hz)) with e | e
      · exact (asym x x (e ▸ h1 z hz) (e ▸ h1 z hz)).elim
      · exact e
    · intro hz
      rcases List.mem_cons.mp ((h z).mpr (List.mem_cons_of_mem _ hz)) with e | e
      · exact (asym x x (e ▸ h3 z hz) (e ▸ h3 z hz)).elim
      · exact e
theorem IsOrd.one {ls : List Nat} {o p : List (Nat × Nat)} (h : IsOrd ls o) (h' : IsOrd ls p) : o = p :=
  pwl_ext o p h.pw h'.pw fun x => (h.perm.mem_iff).trans (h'.perm.mem_iff).symm
/-- the words, each at its number -/
def wordsO : List (Nat × Nat) → Nat → List (List Bool) → List (List Bool)
  | [], _, f => f
  | (l, n) :: r, c, f => wordsO r (c + 2 ^ (60 - l)) (f.set n (fig (c / 2 ^ (60 - l)) l))
theorem fig_pre (n : Nat) : ∀ (k l : Nat), l ≤ k → (fig n k).take l = fig (n / 2 ^ (k - l)) l := by
  intro k l h
  apply List.ext_getElem?
  intro i
  by_cases hi : i < l
  · rw [List.getElem?_take_of_lt hi, fig_get n k i (by omega), fig_get _ l i hi, Nat.div_div_eq_div_mul, ← Nat.pow_add, show k - l + (l - 1 - i) = k - 1 - i by omega]
  · rw [List.getElem?_eq_none (by rw [List.length_take, fig_len]; omega), List.getElem?_eq_none (by rw [fig_len]; omega)]
/-- two words of one book, the earlier one shorter or as long -/
theorem book_pre {c d l m : Nat} (hl : l ≤ m) (hm : m ≤ 60) (h : c + 2 ^ (60 - l) ≤ d) (hd : d < 2 ^ 60) : (fig (d / 2 ^ (60 - m)) m).take l ≠ fig (c / 2 ^ (60 - l)) l := by
  intro e
  rw [fig_pre _ m l hl, Nat.div_div_eq_div_mul, ← Nat.pow_add, show 60 - m + (m - l) = 60 - l by omega] at e
  have e2 := congrArg worth e
  rw [worth_fig, worth_fig] at e2
  have hp : 0 < 2 ^ (60 - l) := Nat.pow_pos (by decide)
  have h60 : 2 ^ 60 = 2 ^ l * 2 ^ (60 - l) := by rw [← Nat.pow_add]; congr 1; omega
  have b1 : d / 2 ^ (60 - l) < 2 ^ l := (Nat.div_lt_iff_lt_mul hp).mpr (by rw [← h60]; exact hd)
  have b2 : c / 2 ^ (60 - l) + 1 ≤ d / 2 ^ (60 - l) := by
    rw [← Nat.add_div_right _ hp]
    exact Nat.div_le_div_right h
  rw [Nat.mod_eq_of_lt b1, Nat.mod_eq_of_lt (by omega)] at e2
  omega
/-! sorting pairs on the heap -/
def kOf (H : Hp) : V → Int × Int
  | .ref t => match H t with
    | some (.tup [.int i, .int j]) => (i, j)
    | _ => (0, 0)
  | _ => (0, 0)
theorem kOf_at {H : Hp} {t : Addr} {i j : Int} (h : H t = some (.tup [.int i, .int j])) : kOf H (.ref t) = (i, j) := by
  simp only [kOf, h]
def pairOf (H : Hp) (x : V) : Nat × Nat := ((kOf H x).1.toNat, (kOf H x).2.toNat)
theorem pairOf_at {H : Hp} {t : Addr} {i j : Nat} (h : H t = some (.tup [.int (i : Nat), .int (j : Nat)])) : pairOf H (.ref t) = (i, j) := by
  unfold pairOf
  rw [kOf_at h]
  rfl
/-- vs are tuples of these pairs of numbers -/
theorem PrO_map {H : Hp} {xs : List V} {ps : List (Nat × Nat)} (hl : xs.length = ps.length) (h : ∀ (i : Nat) (p : Nat × Nat), ps[i]? = some p → ∃ t, xs[i]? = some (V.ref t) ∧ H t = some (.tup [.int (p.1 : Nat), .int (p.2 : Nat)])) : xs.map (pairOf H) = ps := by
  apply List.ext_getElem?
  intro i
  rw [List.getElem?_map]
  cases e : ps[i]? with
  | none =>
    have := List.getElem?_eq_none_iff.mp e
    rw [List.getElem?_eq_none (by omega)]
    rfl
  | some p =>
    obtain ⟨t, h1, h2⟩ := h i p e
    rw [h1]
    show some (pairOf H (.ref t)) = _
    rw [pairOf_at h2]
theorem ord_of {H : Hp} {xs ys : List V} {ls : List Nat} (hm : xs.map (pairOf H) = ls.zipIdx) (hx : ∀ x ∈ xs, ∃ t, ∃ i j : Nat, x = V.ref t ∧ H t = some (.tup [.int (i : Nat), .int (j : Nat)])) (hs : SrtO.Srtd (ltP (kOf H)) ys) (hp : SrtO.Stb (ltP (kOf H)) ys xs) : IsOrd ls (ys.map (pairOf H)) := by
  have pm : (ys.map (pairOf H)).Perm ls.zipIdx := by
    rw [← hm]
    exact hp.perm.map _
  refine ⟨pm, ?_⟩
  have p0 : ls.zipIdx.Pairwise (fun p q => p.2 ≠ q.2) := List.pairwise_map.mp (by rw [List.zipIdx_map_snd]; exact List.nodup_range')
  have p1 : (ys.map (pairOf H)).Pairwise (fun p q => p.2 ≠ q.2) := (pm.pairwise_iff (fun h => Ne.symm h)).mpr p0
  refine List.pairwise_map.mpr ?_
  refine List.Pairwise.imp_of_mem ?_ (hs.and (List.pairwise_map.mp p1))
  rintro x y hxm hym ⟨h1, h2⟩
  obtain ⟨t, i, j, rfl, e1⟩ := hx x (hp.perm.mem_iff.mp hxm)
  obtain ⟨u, i', j', rfl, e2⟩ := hx y (hp.perm.mem_iff.mp hym)
  have h3 := SrtO.lexB_no.mp h1
  rw [kOf_at e1, kOf_at e2] at h3
  rw [pairOf_at e1, pairOf_at e2] at h2 ⊢
  unfold lexL
  dsimp only at *
  omega
theorem set_map_tx (f : List (List Bool)) (n : Nat) (w : List Bool) : ((f.map fun w => V.str (tx w)).set n (V.str (tx w))) = (f.set n w).map fun w => V.str (tx w) := by
  rw [List.map_set]
theorem rep_empty (n : Nat) : (List.replicate n [V.str ("" : Str)]).flatten = (List.replicate n ([] : List Bool)).map fun w => V.str (tx w) := by
  rw [tx_nil]
  induction n with
  | zero => rfl
  | succ n ih =>
    rw [List.replicate_succ, List.flatten_cons, ih, List.replicate_succ, List.map_cons]
    rfl
theorem Sm.fresh {h q F : Addr} {H H' : Hp} (S : Sm h q H H') (L : LawH H' h q) (n : H' F = none) : H F = none ∧ F ≠ h ∧ F ≠ q := by
  obtain ⟨a, b⟩ := L.nn
  have n1 : F ≠ h := fun z => a (z ▸ n)
  have n2 : F ≠ q := fun z => b (z ▸ n)
  refine ⟨?_, n1, n2⟩
  cases e : H F with
  | none => rfl
  | some o => rw [S _ _ e n1 n2] at n; cases n
theorem Sm.updL {h q F : Addr} {H H' : Hp} {o : HO} (S : Sm h q H H') (n : H F = none) : Sm h q H (upd H' F o) := fun b u hb n1 n2 => by
  rw [upd_ne (fun z => by rw [z, n] at hb; cases hb)]
  exact S b u hb n1 n2
end St
namespace St
open PySem PySem.Spec PyProof.Rows L2
/-! ### enumerate over a tuple, over a text -/
theorem meets_enumT (l : Addr) (items : Array Value) (n : Nat) (dct : Option Addr) (sl : Array (Option Value)) :
    Meets (Builtin.«enumerate.__new__» ⟨[.type "enumerate", .ref l], []⟩) (fun _ R s => s.heap.get? l = some { cls := .type "tuple", dict := dct, data := .seq items n, slots := sl } ∧
      R (.ok (.ret (.ref (s.heap.push { cls := .type "tuple_iterator", data := .fields #[.ref l, .int 0 0] }).objs.size)))
        { s with heap := (s.heap.push { cls := .type "tuple_iterator", data := .fields #[.ref l, .int 0 0] }).push { cls := .type "enumerate", data := .fields #[.none, .bool false, .ref s.heap.objs.size, rawInt 0, .none, .none] } }) :=
  .of_wp fun prog w A R s h => by
    obtain ⟨hp, g, d, tk, os⟩ := s; obtain ⟨hl, h⟩ := h
    have hsub := sub_enumerate
    have hL : Heap.IsTuple (Shared.heap ⟨hp, g, d, tk, os⟩) l items := ⟨_, hl, rfl, n, rfl⟩
    wp_walk using AutoSeq1.wpAny_loadPart' hl
    refine wpAny_stack_any fun st => wpAny_pure ?_
    split
    · rename_i c _ _ _ _ _
      cases (c == Value.type "enumerate")
      · wp_walk using AutoSeq1.wpAny_loadPart' hl, wpAny_pyIter_tuple hL
        exact ⟨_, rfl, h⟩
      · wp_walk using AutoSeq1.wpAny_loadPart' hl, wpAny_pyIter_tuple hL
        exact ⟨_, rfl, h⟩
    · wp_walk using AutoSeq1.wpAny_loadPart' hl, wpAny_pyIter_tuple hL
      exact ⟨_, rfl, h⟩
section
variable {prog : Program} {w : World} {A : Around} {E : Value → Shared → Prop} {s : Shared}
theorem call_enumT {l : Addr} {items : Array Value} {Q : Value → Shared → Prop} (hL : s.heap.IsTuple l items)
    (h : ∀ h', IsEnum h' (s.heap.objs.size + 1) s.heap.objs.size 0 .none → h'.IsTupleIter s.heap.objs.size l 0 → h'.objs.size = s.heap.objs.size + 2 →
      (∀ b o, s.heap.get? b = some o → h'.get? b = some o) → Q (.ref (s.heap.objs.size + 1)) { s with heap := h' }) :
    wpAny (model prog w) A (call (.type "enumerate") [.ref l]) Q E s := by
  obtain ⟨⟨c, dct, dt, sl⟩, hl, hc, n, hd⟩ := hL
  replace hc : c = .type "tuple" := hc
  replace hd : dt = .seq items n := hd
  subst hc hd
  refine callType_new F.called_enumerate (by decide) (F.typeCall_enumerate_1 _) (F.newCall_enumerate_1 _) (fun obj => F.args_object_init_2 obj _) F.entry_enumerate_new
    (meets_enumT l items n dct sl) ⟨hl, ?_⟩
  have hz : (s.heap.push { cls := .type "tuple_iterator", data := .fields #[.ref l, .int 0 0] }).objs.size = s.heap.objs.size + 1 := Heap.size_push ..
  show _ ∧ _
  rw [hz]
  have he : IsEnum ((s.heap.push { cls := .type "tuple_iterator", data := .fields #[.ref l, .int 0 0] }).push
      { cls := .type "enumerate", data := .fields #[.none, .bool false, .ref s.heap.objs.size, rawInt 0, .none, .none] }) (s.heap.objs.size + 1) s.heap.objs.size 0 .none := by
    have := Heap.get?_push_size (s.heap.push { cls := .type "tuple_iterator", data := .fields #[.ref l, .int 0 0] })
      (o := { cls := .type "enumerate", data := .fields #[.none, .bool false, .ref s.heap.objs.size, rawInt 0, .none, .none] }) rfl
    rw [hz] at this; exact this
  refine ⟨⟨_, he, rfl⟩, h _ he ⟨_, Heap.get?_push_of_some _ (Heap.get?_push_size _ rfl), rfl, rfl⟩ (by rw [Heap.size_push, hz]) fun b o x => Heap.get?_push_of_some _ (Heap.get?_push_of_some _ x)⟩
end
theorem drawsT {prog : Program} {w : World} {A : Around} (hh : A.handled = none) (it l : Addr) (hne : l ≠ it) (items : Array Value) :
    Draws prog w A it [it, l] items.size (fun i v => items[i]? = some v) (fun i h => h.IsTupleIter it l i ∧ h.IsTuple l items) where
  live := fun _ _ st => let ⟨o, ho, _⟩ := st.1; ⟨o, ho⟩
  frame := fun _ _ _ st hk => ⟨st.1.at fun o e => hk it (by simp) o e, let ⟨o, ho, r⟩ := st.2; ⟨o, hk l (by simp) o ho, r⟩⟩
  item := fun i s Q E hi st hQ => by
    refine RZ.nextOf_tuple_item st.1 st.2 (x := items[i]) (by simp [hi]) fun h' hit' hs' => ?_
    obtain ⟨o, ho, r⟩ := st.2
    exact hQ _ h' s.toks (by simp [hi]) ⟨hit', o, hs'.extBut l o hne ho, r⟩ hs'
  done := fun s Q E st hE => RZ.nextOf_tuple_end hh st.1 st.2 (by simp) hE
theorem enumT_end {prog : Program} {w : World} {A : Around} {E : Value → Shared → Prop} {s : Shared} {e it a : Addr} {i : Nat} {items : Array Value} {z : Int} {old : Value} {Q : Option Value → Shared → Prop} (hh : A.in1.handled = none)
    (he : IsEnum s.heap e it z old) (hit : s.heap.IsTupleIter it a i) (ht : s.heap.IsTuple a items) (hx : items[i]? = none)
    (hQ : ∀ h', Heap.ExtBut it s.heap h' → Q none { s with heap := h' }) : wpAny (model prog w) A (pyNext (.ref e)) Q E s := by
  have hT : s.TypeIs (.ref e) "enumerate" := ⟨_, he, rfl⟩
  unfold pyNext
  refine wpAny_bind (wpAny_attempt (wpAny_callSpecial?_slot (name := Str.ofString "__next__") hT F.slot_enumerate_next
    (wpAny_call_entry F.slot_enumerate_next hT F.entry_enumerate_next ?_ (F.args_enumerate_next_1 _))))
  show wpAny _ _ (field (.ref e) 2 >>= _) _ _ _
  refine wpAny_bind (wpAny_field he rfl (x := .ref it) rfl ?_)
  refine wpAny_bind (RZ.nextOf_tuple_end hh hit ht hx fun h' x he' hx' => ?_)
  obtain ⟨o, ho, hc⟩ := hx'
  refine wpAny_bind (wpAny_isInstance (T := "StopIteration") (b := true) ⟨o, ho, hc⟩ isSubtype_stop ?_)
  exact wpAny_pure (hQ _ he')
/-- the tuple at a, each item in a new pair -/
def IteT (K : PySem.W.Frag) (a : Addr) : It :=
  ⟨fun i H => ∃ (xs : List V) (x : V), SqT K H a xs ∧ xs[i]? = some x, fun i H v H' => ∃ T x, v = .ref T ∧ H T = none ∧ H' = upd H T (.tup [.int (i : Nat), x]) ∧ ∀ xs, SqT K H a xs → xs[i]? = some x, fun i H => ∃ xs : List V, SqT K H a xs ∧ xs.length ≤ i⟩
theorem turn_enumT {P : Program} {w : World} {K : PySem.W.Frag} {elts : List Expr} {kk : Nat} {tpos : Pos} (a e it : Addr) :
    Turn P w K (.Tuple elts kk tpos) (IteT K a) [e, it] e (fun i h => (∃ old, IsEnum h e it ((i : Nat) : Int) old) ∧ h.IsTupleIter it a i ∧ e ≠ it) where
  mem := by simp
  obj := fun i h st b hb => by
    obtain ⟨⟨old, he⟩, ⟨o, ho, hc, hd⟩, _⟩ := st
    have e' : b = e ∨ b = it := by simpa using hb
    rcases e' with z | z
    · rw [z]; exact ⟨_, he, fun v q => nomatch q⟩
    · rw [z]; exact ⟨o, ho, fun v q => by rw [hd] at q; cases q⟩
  keep := fun i h h' st k => let ⟨⟨old, he⟩, hi, hne⟩ := st; ⟨⟨old, k e (by simp) _ he⟩, hi.at fun o q => k it (by simp) o q, hne⟩
  item := by
    intro X hP hw hK hc i pins s σ H E I hf st hg
    subst hP hw hK
    obtain ⟨⟨old, he⟩, hit, hne⟩ := st
    obtain ⟨xs, x, hq, hx⟩ := hg
    obtain ⟨its, rv, p, hz⟩ := I.tuple hq
    obtain ⟨u, hu, ru⟩ := rv.get hx
    have hel : e < s.heap.objs.size := Heap.lt_size he
    have hil : it < s.heap.objs.size := by obtain ⟨_, q, _⟩ := hit; exact Heap.lt_size q
    have nai : a ≠ it := fun z => by
      obtain ⟨o1, q1, c1, _⟩ := p
      obtain ⟨o2, q2, c2, _⟩ := hit
      rw [z, q2] at q1
      rw [Option.some.inj q1, c1] at c2
      exact absurd (Value.type.inj c2) (by decide)
    have nae : a ≠ e := fun z => by
      obtain ⟨o1, q1, c1, _⟩ := p
      have q2 : s.heap.get? e = _ := he
      rw [z, q2] at q1
      rw [← Option.some.inj q1] at c1
      exact absurd (Value.type.inj c1) (by decide)
    have hlt : i < its.toArray.size := by
      have := (List.getElem?_eq_some_iff.mp hu).1
      simpa using this
    refine wpAny_pyNext_enum_itemD (drawsT (show X.A.in1.handled = none from I.ok.hd hc) it a nai its.toArray) he ⟨hit, p⟩ hlt hne (by simp; exact ⟨hne, Ne.symm nae⟩) fun x' h' tk hPx ho hst hT hsz hk => ?_
    have exu : x' = u := by
      have : its[i]? = some x' := by simpa using hPx
      rw [hu] at this
      exact (Option.some.inj this).symm
    subst exu
    refine ⟨_, rfl, wpAny_letOwnedTupleGo_enum (s := { s with heap := h', toks := tk + 1 }) ho fun h'' he' sb => ?_⟩
    have hT2 : h''.get? s.heap.objs.size = some { cls := .type "tuple", data := .seq #[.int i tk, x'] } := (sb.2 _ (Nat.ne_of_gt hel)).trans hT
    have new : ObjOk X.prog X.w (upd H s.heap.objs.size (.tup [.int (i : Nat), x])) h'' s.heap.objs.size (.tup [.int (i : Nat), x]) :=
      ⟨by show 2 ≤ sizeLine; decide, [.int i tk, x'], .cons ⟨_, rfl⟩ (.cons ru .nil), ⟨_, hT2, rfl, _, rfl⟩⟩
    have I1 : Inv X pins σ (upd H s.heap.objs.size (.tup [.int (i : Nat), x])) { s with heap := h'', toks := tk + 1 } :=
      I.turnedNew (ch := [e, it]) (fun b ob hb q => (sb.2 b (fun z => hb (by simp [z]))).trans (hk b ob (fun z => hb (by simp [z])) (fun z => hb (by simp [z])) q)) hf (Nat.le_refl _) new
    refine ⟨.ref s.heap.objs.size, _, I1, rfl, ⟨_, x, rfl, I.hok.fresh (Nat.le_refl _), rfl, fun ys hy => by rw [I.tuple_inj hy hq]; exact hx⟩, ⟨⟨x', ?_⟩, hst.1.at fun o q => (sb.2 it (Ne.symm hne)).trans q, hne⟩, fun b hb => ?_⟩
    · have e1 : ((i + 1 : Nat) : Int) = (i : Int) + 1 := by omega
      rw [e1]; exact he'
    · have hb' : b < s.heap.objs.size := by
        have e' : b = e ∨ b = it := by simpa using hb
        rcases e' with z | z
        · rw [z]; exact hel
        · rw [z]; exact hil
      rw [upd_ne (Nat.ne_of_lt hb')]
      exact (hf b hb).1
  done := by
    intro X hP hw hK hc i pins s σ H E I hf st hg
    subst hP hw hK
    obtain ⟨⟨old, he⟩, hit, hne⟩ := st
    obtain ⟨xs, hq, hx⟩ := hg
    obtain ⟨its, rv, p, hz⟩ := I.tuple hq
    obtain ⟨f0, f1, f2, f3, f4, f5⟩ := hf it (by simp)
    have hl := rv.length
    exact enumT_end (show X.A.in1.handled = none from I.ok.hd hc) he hit p (by simp; omega) fun h' eb => ⟨rfl, I.turned (t' := s.toks) (fun b o hb q => eb b o hb q) f0 f1 f3 f4 f5⟩
  self := fun A i s Q E st h => let ⟨⟨_, he⟩, _⟩ := st; wpAny_pyIter_enum he h
def iEnumT (K : PySem.W.Frag) (ta : TA) : TI := fun σ H R => ta σ H fun vs H1 => ∃ a xs, vs = [.ref a] ∧ SqT K H1 a xs ∧ R (IteT K a) H1
theorem pi_enumT {X : Cx} {e : Expr} {ta : TA} {p pos tpos : Pos} {elts : List Expr} {kk : Nat} (hg : Gl X "enumerate") (hm : X.mg "enumerate" = none) (ha : PA X [e] ta) (hs : starEach [e] X.env = [(false, eval e X.env)] := by rfl) :
    PI X (.Tuple elts kk tpos) (.Call (.Name "enumerate" p) [e] [] pos) (iEnumT X.K ta) := by
  refine ⟨fun pins s σ H R I h => ?_⟩
  refine Call_ (ld_blt I hg hm boot_enumerate (PyProof.Rows.callWith_type1 (thn (ha.run pos pins s σ H _ I h) fun us s1 ⟨vs, H1, I1, r1, q1⟩ => ?_) hs rfl))
  obtain ⟨a, xs, ex, hq, q⟩ := q1
  subst ex
  cases r1 with
  | cons r rr =>
    cases rr
    cases r
    obtain ⟨its, rv, p', hz⟩ := I1.tuple hq
    refine call_enumT p' fun h' he hit hsz hk => wpAny_pyIter_enum he ?_
    have I2 : Inv X pins σ H1 { s1 with heap := h' } := I1.kept (t' := s1.toks) hk
    refine ⟨s1.heap.objs.size + 1, [s1.heap.objs.size + 1, s1.heap.objs.size], _, _, H1, rfl, I2, turn_enumT a (s1.heap.objs.size + 1) s1.heap.objs.size, ⟨⟨.none, he⟩, hit, Nat.succ_ne_self _⟩, fun b hb => ?_, q⟩
    have e' : b = s1.heap.objs.size + 1 ∨ b = s1.heap.objs.size := by simpa using hb
    have hle : s1.heap.objs.size ≤ b := by
      rcases e' with z | z
      · rw [z]; exact Nat.le_add_right _ _
      · rw [z]; exact Nat.le_refl _
    exact I1.fpOk hle (I1.hok.fresh hle)
/-- a walk over an enumerated tuple that stands still -/
theorem for_enumT {K : PySem.W.Frag} {a : Addr} {xs : List V} {g : TG} {tb : TS} {D : Ends} {σ : List (Option V)} {H : Hp} (Pv : Nat → List (Option V) → Hp → Prop) (h0 : Pv 0 σ H) (hl : ∀ i σ H, i ≤ xs.length → Pv i σ H → SqT K H a xs)
    (hs : ∀ i x σ H T, xs[i]? = some x → Pv i σ H → H T = none → g (.ref T) σ (upd H T (.tup [.int (i : Nat), x])) fun σ2 H2 => tb { D with nx := Pv (i + 1), ct := Pv (i + 1), bk := D.nx } σ2 H2) (hd : ∀ σ H, Pv xs.length σ H → D.nx σ H) :
    ∃ W : Nat → Nat → List (Option V) → Hp → Prop, (∃ m, W 0 m σ H) ∧ ∀ i m σ H, W i m σ H →
      ((IteT K a).stop i H ∧ D.nx σ H) ∨ ((IteT K a).go i H ∧ ∃ N : List (Option V) → Hp → Prop, (∀ σ' H', N σ' H' → ∃ m', m' < m ∧ W (i + 1) m' σ' H') ∧ ∀ x H', (IteT K a).yld i H x H' → g x σ H' fun σ2 H2 => tb { D with nx := N, ct := N, bk := D.nx } σ2 H2) := by
  refine ⟨fun i m σ H => m = xs.length - i ∧ i ≤ xs.length ∧ Pv i σ H, ⟨xs.length, by simp, Nat.zero_le _, h0⟩, ?_⟩
  rintro i m σ H ⟨rfl, hi, p⟩
  have q := hl i σ H hi p
  by_cases hlt : i < xs.length
  · refine .inr ⟨⟨xs, xs[i], q, by simp [hlt]⟩, Pv (i + 1), fun σ' H' p' => ⟨xs.length - (i + 1), by omega, rfl, hlt, p'⟩, fun x H' y => ?_⟩
    obtain ⟨T, z, rfl, nT, rfl, y⟩ := y
    exact hs i z σ H T (y xs q) p nT
  · have e : i = xs.length := by omega
    subst e
    exact .inl ⟨⟨xs, q, Nat.le_refl _⟩, hd σ H p⟩
/-- a comprehension over an enumerated tuple -/
theorem lc_enumT {K : PySem.W.Frag} {a : Addr} {xs : List V} {g : TG} {tt : TT} {te : TE} {vs : List Nat} {σ : List (Option V)} {H1 : Hp} {D : Addr} {Qd : Hp → Prop} (Pv : Nat → Hp → Prop) (h0 : Pv 0 (upd H1 D (.lst []))) (hl : ∀ i H, i ≤ xs.length → Pv i H → SqT K H a xs)
    (hs : ∀ i x H T, xs[i]? = some x → Pv i H → H T = none → g (.ref T) (wipe σ vs) (upd H T (.tup [.int (i : Nat), x])) fun σ2 H2 => wipe σ2 vs = wipe σ vs ∧ tt σ2 H2 fun b H3 =>
      if b = true then te σ2 H3 fun y H4 => ∃ acc, H4 D = some (.lst acc) ∧ acc.length < sizeLine ∧ Pv (i + 1) (upd H4 D (.lst (acc ++ [y]))) else Pv (i + 1) H3) (hd : ∀ H, Pv xs.length H → Qd H) :
    ∃ W : Nat → Nat → Hp → Prop, (∃ m, W 0 m (upd H1 D (.lst []))) ∧ ∀ i m H, W i m H →
      ((IteT K a).stop i H ∧ Qd H) ∨ ((IteT K a).go i H ∧ ∃ Nx : Hp → Prop, (∀ H', Nx H' → ∃ m', m' < m ∧ W (i + 1) m' H') ∧ ∀ x H', (IteT K a).yld i H x H' → g x (wipe σ vs) H' fun σ2 H2 => wipe σ2 vs = wipe σ vs ∧ tt σ2 H2 fun b H3 =>
        if b = true then te σ2 H3 fun y H4 => ∃ acc, H4 D = some (.lst acc) ∧ acc.length < sizeLine ∧ Nx (upd H4 D (.lst (acc ++ [y]))) else Nx H3) := by
  refine ⟨fun i m H => m = xs.length - i ∧ i ≤ xs.length ∧ Pv i H, ⟨xs.length, by simp, Nat.zero_le _, h0⟩, ?_⟩
  rintro i m H ⟨rfl, hi, p⟩
  have q := hl i H hi p
  by_cases hlt : i < xs.length
  · refine .inr ⟨⟨xs, xs[i], q, by simp [hlt]⟩, Pv (i + 1), fun H' p' => ⟨xs.length - (i + 1), by omega, rfl, hlt, p'⟩, fun x H' y => ?_⟩
    obtain ⟨T, z, rfl, nT, rfl, y⟩ := y
    exact hs i z H T (y xs q) p nT
  · have e : i = xs.length := by omega
    subst e
    exact .inl ⟨⟨xs, q, Nat.le_refl _⟩, hd H p⟩
end St
namespace St
open PySem PySem.Spec PyProof.Rows L2
/-! ### fractions: a tuple (number, parts) in lowest terms stands for a Rat -/
def RatAt (K : PySem.W.Frag) (H : Hp) (a : Addr) (r : Rat) : Prop := SqT K H a [.int r.num, .int (r.den : Int)]
theorem RatAt.same {K : PySem.W.Frag} {H H' : Hp} {a : Addr} {r : Rat} (s : Same H H') (h : RatAt K H a r) : RatAt K H' a r := Same.seqT s h
theorem frac_num {n d : Int} (hd : 0 < d) : (Rat.divInt n d).num = n / (Int.gcd n d : Int) := by
  rw [Rat.num_divInt, Int.sign_eq_one_of_pos hd, Int.one_mul, Int.gcd_comm]
theorem frac_den {n d : Int} (hd : 0 < d) : ((Rat.divInt n d).den : Int) = d / (Int.gcd n d : Int) := by
  have h0 : d ≠ 0 := Int.ne_of_gt hd
  rw [Rat.den_divInt, if_neg h0, Int.natCast_ediv, Int.gcd_comm]
  congr 1
  omega
theorem rat_eq (r : Rat) : r = (r.num : Rat) / ((r.den : Int) : Rat) := by
  rw [← Rat.divInt_eq_div, Rat.num_divInt_den]
theorem den_pos (r : Rat) : (0 : Int) < (r.den : Int) := Int.ofNat_lt.mpr r.den_pos
theorem den_ne (r : Rat) : (r.den : Int) ≠ 0 := Int.ne_of_gt (den_pos r)
theorem rat_add (r s : Rat) : Rat.divInt (r.num * s.den + s.num * r.den) (r.den * s.den) = r + s := by
  rw [← Rat.divInt_add_divInt _ _ (den_ne r) (den_ne s), Rat.num_divInt_den, Rat.num_divInt_den]
theorem rat_sub (r s : Rat) : Rat.divInt (r.num * s.den - s.num * r.den) (r.den * s.den) = r - s := by
  rw [← Rat.divInt_sub_divInt _ _ (den_ne r) (den_ne s), Rat.num_divInt_den, Rat.num_divInt_den]
theorem rat_mul (r s : Rat) : Rat.divInt (r.num * s.num) (r.den * s.den) = r * s := by
  rw [← Rat.divInt_mul_divInt, Rat.num_divInt_den, Rat.num_divInt_den]
theorem cast_ne {z : Int} (h : z ≠ 0) : (z : Rat) ≠ 0 := fun e => h (Rat.intCast_inj.mp (by rw [e]; rfl))
theorem rat_quot (r s : Rat) (h : s.num ≠ 0) : Rat.divInt (r.num * s.den) (r.den * s.num) = r / s := by
  have h1 := cast_ne (den_ne r)
  have h2 := cast_ne (den_ne s)
  have h3 := cast_ne h
  have e1 := rat_eq r
  have e2 := rat_eq s
  rw [Rat.divInt_eq_div, Rat.intCast_mul, Rat.intCast_mul]
  generalize (r.num : Rat) = a at *
  generalize ((r.den : Int) : Rat) = b at *
  generalize (s.num : Rat) = c at *
  generalize ((s.den : Int) : Rat) = d at *
  rw [e1, e2]
  grind
theorem rat_sum_le (r s : Rat) : (r.num * s.den + s.num * r.den ≤ r.den * s.den) ↔ r + s ≤ 1 := by
  have hp : (0 : Int) < r.den * s.den := Int.mul_pos (den_pos r) (den_pos s)
  have h1 : (0 : Rat) < ((r.den * s.den : Int) : Rat) := by
    have := Rat.intCast_lt_intCast.mpr hp
    simpa using this
  have e : 1 < r + s ↔ r.den * s.den < r.num * s.den + s.num * r.den := by
    rw [← rat_add r s, Rat.divInt_eq_div, Rat.lt_div_iff h1, Rat.one_mul, Rat.intCast_lt_intCast]
  constructor
  · intro h
    refine Rat.not_lt.mp fun z => ?_
    have := e.mp z
    omega
  · intro h
    refine Int.not_lt.mp fun z => ?_
    exact Rat.not_lt.mpr h (e.mpr z)
/-- how many figures of twos a fraction has at most -/
def Bd (r : Rat) (b : Nat) : Prop := r.num.natAbs < 2 ^ b ∧ r.den < 2 ^ b
theorem Bd.mono {r : Rat} {b c : Nat} (h : Bd r b) (hbc : b ≤ c) : Bd r c :=
  ⟨Nat.lt_of_lt_of_le h.1 (Nat.pow_le_pow_right (by decide) hbc), Nat.lt_of_lt_of_le h.2 (Nat.pow_le_pow_right (by decide) hbc)⟩
theorem Bd.frac {n d : Int} {b : Nat} (hd : 0 < d) (hn : n.natAbs < 2 ^ b) (h : d.natAbs < 2 ^ b) : Bd (Rat.divInt n d) b := by
  have e1 := frac_num (n := n) hd
  have e2 := frac_den (n := n) hd
  constructor
  · rw [e1]
    refine Nat.lt_of_le_of_lt ?_ hn
    rw [Int.natAbs_ediv_of_dvd (Int.gcd_dvd_left ..)]
    exact Nat.div_le_self _ _
  · have e3 : (Rat.divInt n d).den = (d / (Int.gcd n d : Int)).natAbs := by
      have := congrArg Int.natAbs e2
      simpa using this
    rw [e3, Int.natAbs_ediv_of_dvd (Int.gcd_dvd_right ..)]
    exact Nat.lt_of_le_of_lt (Nat.div_le_self _ _) h
theorem bd_mul {x y : Int} {b c : Nat} (h : x.natAbs < 2 ^ b) (h' : y.natAbs < 2 ^ c) : (x * y).natAbs < 2 ^ (b + c) := wide_lt h h'
theorem bd_add {x y : Int} {b : Nat} (h : x.natAbs < 2 ^ b) (h' : y.natAbs < 2 ^ b) : (x + y).natAbs < 2 ^ (b + 1) := by
  rw [Nat.pow_succ]
  omega
theorem bd_sub {x y : Int} {b : Nat} (h : x.natAbs < 2 ^ b) (h' : y.natAbs < 2 ^ b) : (x - y).natAbs < 2 ^ (b + 1) := by
  rw [Nat.pow_succ]
  omega
theorem bd_up {x : Int} {b c : Nat} (h : x.natAbs < 2 ^ b) (hbc : b ≤ c) : x.natAbs < 2 ^ c := Nat.lt_of_lt_of_le h (Nat.pow_le_pow_right (by decide) hbc)
theorem bd_den {r : Rat} {b : Nat} (h : Bd r b) : ((r.den : Int)).natAbs < 2 ^ b := by
  rw [Int.natAbs_natCast]
  exact h.2
theorem bd_w {x y : Int} {b c : Nat} (h : x.natAbs < 2 ^ b) (h' : y.natAbs < 2 ^ c) (h2 : b + c ≤ 900000) : CMulW x y :=
  wide_mul (a := b + 1) (b := c + 1) (bd_up h (by omega)) (bd_up h' (by omega)) (by omega) (by omega) (by omega)
theorem Bd.add {r s : Rat} {b c : Nat} (h : Bd r b) (h' : Bd s c) : Bd (r + s) (b + c + 1) := by
  rw [← rat_add r s]
  refine Bd.frac (Int.mul_pos (den_pos r) (den_pos s)) (bd_add (bd_mul h.1 (bd_den h')) (bd_up (bd_mul h'.1 (bd_den h)) (by omega))) (bd_up (bd_mul (bd_den h) (bd_den h')) (by omega))
theorem Bd.sub {r s : Rat} {b c : Nat} (h : Bd r b) (h' : Bd s c) : Bd (r - s) (b + c + 1) := by
  rw [← rat_sub r s]
  refine Bd.frac (Int.mul_pos (den_pos r) (den_pos s)) (bd_sub (bd_mul h.1 (bd_den h')) (bd_up (bd_mul h'.1 (bd_den h)) (by omega))) (bd_up (bd_mul (bd_den h) (bd_den h')) (by omega))
theorem Bd.mul {r s : Rat} {b c : Nat} (h : Bd r b) (h' : Bd s c) : Bd (r * s) (b + c) := by
  rw [← rat_mul r s]
  exact Bd.frac (Int.mul_pos (den_pos r) (den_pos s)) (bd_mul h.1 h'.1) (bd_mul (bd_den h) (bd_den h'))
theorem num_pos {r : Rat} (h : 0 < r) : 0 < r.num := by
  have := (Rat.lt_iff 0 r).mp h
  simpa using this
theorem Bd.quot {r s : Rat} {b c : Nat} (h : Bd r b) (h' : Bd s c) (hs : 0 < s) : Bd (r / s) (b + c) := by
  rw [← rat_quot r s (Int.ne_of_gt (num_pos hs))]
  exact Bd.frac (Int.mul_pos (den_pos r) (num_pos hs)) (bd_mul h.1 (bd_den h')) (bd_mul (bd_den h) h'.1)
/-- a ratio p / q of the document -/
structure IsRat (p q : Nat) : Prop where
  p1 : 1 ≤ p
  pq : p < q
  q30 : q ≤ 30
def rat (p q : Nat) : Rat := (p : Int) / (q : Int)
theorem rat_pow (p q : Nat) (h : 0 < q) (t : Nat) : Rat.divInt ((p : Int) ^ t) ((q : Int) ^ t) = rat p q ^ t := by
  have hq : (0 : Rat) < ((q : Int) : Rat) := Rat.intCast_pos.mpr (by omega)
  rw [Rat.divInt_eq_div, Rat.intCast_pow, Rat.intCast_pow]
  unfold rat
  generalize ((p : Int) : Rat) = a at *
  generalize ((q : Int) : Rat) = b at *
  have hb0 : b ≠ 0 := Rat.ne_of_gt hq
  induction t with
  | zero =>
    simp only [Rat.pow_zero]
    grind
  | succ t ih =>
    have hb : b ^ t ≠ 0 := Rat.ne_of_gt (Rat.pow_pos hq)
    rw [Rat.pow_succ, Rat.pow_succ, Rat.pow_succ, ← ih]
    grind
theorem pow_small {p t : Nat} (h : p ≤ 30) : ((p : Int) ^ t).natAbs < 2 ^ (5 * t + 1) := by
  rw [Int.natAbs_pow, Int.natAbs_natCast]
  refine Nat.lt_of_le_of_lt (Nat.pow_le_pow_left (show p ≤ 2 ^ 5 by omega) t) ?_
  rw [← Nat.pow_mul]
  exact Nat.pow_lt_pow_right (by decide) (by omega)
theorem Bd.pow {p q : Nat} (hp : p ≤ 30) (hq : q ≤ 30) (h : 0 < q) (t : Nat) : Bd (rat p q ^ t) (5 * t + 1) := by
  rw [← rat_pow p q h t]
  exact Bd.frac (Int.pow_pos (by omega)) (pow_small hp) (pow_small hq)
def FitsR (x : Rat) (s : Nat) : Prop := x ^ s + x ^ (s + 1) ≤ 1
instance (x : Rat) (s : Nat) : Decidable (FitsR x s) := by unfold FitsR; infer_instance
end St
namespace St
open PySem PySem.Spec PyProof.Rows L2
/-! ### the mean length of the words by a step -/
def meanR (m : Nat) (x : Rat) : Rat :=
  (((if (wideN m : Int) > 1 then (wideN m : Int) else 1 : Int) : Rat) + x ^ m / (1 - x ^ m)) + (if 0 < wideN m then (x ^ shortN m - x ^ m) / (1 - x ^ m) else 0)
theorem rat_pos {p q : Nat} (h : IsRat p q) : 0 < rat p q := by
  have h1 := h.p1
  have h2 := h.pq
  have a : (0 : Rat) < ((p : Int) : Rat) := Rat.intCast_pos.mpr (by omega)
  have b : (0 : Rat) < ((q : Int) : Rat) := Rat.intCast_pos.mpr (by omega)
  unfold rat
  exact (Rat.lt_div_iff b).mpr (by rw [Rat.zero_mul]; exact a)
theorem rat_lt_one {p q : Nat} (h : IsRat p q) : rat p q < 1 := by
  have h1 := h.p1
  have h2 := h.pq
  have b : (0 : Rat) < ((q : Int) : Rat) := Rat.intCast_pos.mpr (by omega)
  unfold rat
  exact (Rat.div_lt_iff b).mpr (by rw [Rat.one_mul]; exact Rat.intCast_lt_intCast.mpr (by omega))
theorem pow_lt_one {x : Rat} (h0 : 0 < x) (h1 : x < 1) : ∀ {m : Nat}, 1 ≤ m → x ^ m < 1
  | 1, _ => by rw [Rat.pow_one]; exact h1
  | m + 2, _ => by
    have ih := pow_lt_one h0 h1 (m := m + 1) (by omega)
    rw [Rat.pow_succ]
    have a := Rat.pow_pos (n := m + 1) h0
    have b := Rat.mul_lt_mul_of_pos_left h1 a
    rw [Rat.mul_one] at b
    exact Std.lt_trans b ih
theorem left_pos {p q : Nat} (h : IsRat p q) {m : Nat} (hm : 1 ≤ m) : 0 < 1 - rat p q ^ m := by
  have := pow_lt_one (rat_pos h) (rat_lt_one h) hm
  exact (Rat.lt_iff_sub_pos _ _).mp this
/-- what the law adds up -/
def ovI (p q : Int) (len : Nat → Int) : Nat → Int
  | 0 => 0
  | k + 1 => ovI p q len k * q + (q - p) * p ^ k * len k
def lenI (m r : Nat) : Int := (((wordB m r).length : Nat) : Int)
theorem lenI_eq {m r : Nat} (hm : 1 ≤ m) (h : r < m) : lenI m r = if r < shortN m then (wideN m : Int) else (wideN m : Int) + 1 := by
  unfold lenI
  rw [word_len, Nat.div_eq_of_lt h, Nat.mod_eq_of_lt h, rest_len]
  split
  · rename_i c
    have : 1 ≤ wideN m := by
      refine Nat.not_lt.mp fun z => ?_
      have e := short_zero (show wideN m = 0 by omega) hm
      subst e
      unfold shortN at c
      rw [show wideN 1 = 0 from rfl] at c
      omega
    omega
  · omega
theorem ovI_eq (p q : Int) {m : Nat} (hm : 1 ≤ m) : ∀ k, k ≤ m → ovI p q (lenI m) k = ((wideN m : Int) + 1) * (q ^ k - p ^ k) - (q ^ k - p ^ (min k (shortN m)) * q ^ (k - min k (shortN m)))
  | 0, _ => by
    simp [ovI]
  | k + 1, hk => by
    have ih := ovI_eq p q hm k (by omega)
    rw [ovI, ih, lenI_eq hm (by omega)]
    by_cases c : k < shortN m
    · rw [if_pos c, Nat.min_eq_left (by omega), Nat.min_eq_left (show k + 1 ≤ shortN m by omega), Nat.sub_self, Nat.sub_self, Int.pow_zero, Int.pow_succ, Int.pow_succ]
      generalize q ^ k = Q
      generalize p ^ k = P
      generalize (wideN m : Int) = c
      grind
    · rw [if_neg c, Nat.min_eq_right (by omega), Nat.min_eq_right (show shortN m ≤ k + 1 by omega), show k + 1 - shortN m = (k - shortN m) + 1 by omega, Int.pow_succ, Int.pow_succ, Int.pow_succ]
      generalize q ^ k = Q
      generalize p ^ k = P
      generalize p ^ shortN m = R
      generalize q ^ (k - shortN m) = S
      generalize (wideN m : Int) = c
      grind
theorem pow_gt {p q : Nat} (h : p < q) {m : Nat} (hm : 1 ≤ m) : (p : Int) ^ m < (q : Int) ^ m := by
  have := Nat.pow_lt_pow_left h (show m ≠ 0 by omega)
  rw [← Int.natCast_pow, ← Int.natCast_pow]
  exact Int.ofNat_lt.mpr this
theorem law_mean {p q : Nat} (h : IsRat p q) {m : Nat} (hm : 1 ≤ m) :
    Rat.divInt (ovI p q (lenI m) m + (p : Int) ^ m) ((q : Int) ^ m - (p : Int) ^ m) = meanR m (rat p q) := by
  have h1 := h.p1
  have h2 := h.pq
  have hs := short_lt hm
  rw [ovI_eq p q hm m (Nat.le_refl _), Nat.min_eq_right (by omega), Rat.divInt_eq_div]
  have hq : (0 : Rat) < ((q : Int) : Rat) := Rat.intCast_pos.mpr (by omega)
  have ex : ∀ t : Nat, rat p q ^ t = (((p : Int) ^ t : Int) : Rat) / (((q : Int) ^ t : Int) : Rat) := fun t => by
    rw [← rat_pow p q (by omega) t, Rat.divInt_eq_div]
  have eq0 : (((q : Int) ^ m : Int) : Rat) = (((q : Int) ^ shortN m : Int) : Rat) * (((q : Int) ^ (m - shortN m) : Int) : Rat) := by
    rw [← Rat.intCast_mul, ← Int.pow_add, show shortN m + (m - shortN m) = m by omega]
  have n1 : (((q : Int) ^ m : Int) : Rat) ≠ 0 := cast_ne (Int.ne_of_gt (Int.pow_pos (by omega)))
  have n2 : (((q : Int) ^ shortN m : Int) : Rat) ≠ 0 := cast_ne (Int.ne_of_gt (Int.pow_pos (by omega)))
  have n4 : (((q : Int) ^ m : Int) : Rat) - (((p : Int) ^ m : Int) : Rat) ≠ 0 := by
    rw [← Rat.intCast_sub]
    exact cast_ne (by have := pow_gt h2 hm; omega)
  unfold meanR
  rw [ex m, ex (shortN m)]
  simp only [Rat.intCast_sub, Rat.intCast_add, Rat.intCast_mul]
  by_cases c : 0 < wideN m
  · rw [if_pos c]
    have e1 : (((if (wideN m : Int) > 1 then (wideN m : Int) else 1 : Int)) : Rat) = ((wideN m : Int) : Rat) := by
      split
      · rfl
      · rw [show wideN m = 1 by omega]
        rfl
    rw [e1]
    generalize (((q : Int) ^ m : Int) : Rat) = Q at *
    generalize (((p : Int) ^ m : Int) : Rat) = P at *
    generalize (((q : Int) ^ shortN m : Int) : Rat) = T at *
    generalize (((p : Int) ^ shortN m : Int) : Rat) = S at *
    generalize (((q : Int) ^ (m - shortN m) : Int) : Rat) = U at *
    generalize ((wideN m : Int) : Rat) = c at *
    have n5 : 1 - P / Q ≠ 0 := by
      intro e
      apply n4
      grind
    have e1 : ((1 : Int) : Rat) = 1 := rfl
    grind
  · rw [if_neg c]
    have w0 : wideN m = 0 := by omega
    have m1 := short_zero w0 hm
    subst m1
    rw [show wideN 1 = 0 from rfl, show shortN 1 = 0 from rfl, if_neg (by decide)]
    rw [show shortN 1 = 0 from rfl] at eq0 n2
    simp only [Int.pow_zero, Nat.sub_zero] at *
    generalize (((q : Int) ^ 1 : Int) : Rat) = Q at *
    generalize (((p : Int) ^ 1 : Int) : Rat) = P at *
    have n5 : 1 - P / Q ≠ 0 := by
      intro e
      apply n4
      grind
    have e1 : ((1 : Int) : Rat) = 1 := rfl
    have e0 : ((0 : Int) : Rat) = 0 := rfl
    simp only [e1, e0, show (((0 : Nat) : Int) : Rat) = 0 from rfl]
    grind
end St
namespace St
open PySem PySem.Spec PyProof.Rows L2
/-! ### merging the two least, again and again -/
def oins (x : Rat) : List Rat → List Rat
  | [] => [x]
  | y :: r => if x ≤ y then x :: y :: r else y :: oins x r
theorem oins_perm (x : Rat) : ∀ l, (oins x l).Perm (x :: l)
  | [] => .refl _
  | y :: r => by
    rw [oins]
    split
    · exact .refl _
    · exact ((oins_perm x r).cons y).trans (.swap x y r)
theorem oins_srt (x : Rat) : ∀ l : List Rat, l.Pairwise (· ≤ ·) → (oins x l).Pairwise (· ≤ ·)
  | [], _ => List.pairwise_singleton _ _
  | y :: r, h => by
    obtain ⟨h1, h2⟩ := List.pairwise_cons.mp h
    rw [oins]
    split
    · rename_i c
      refine List.pairwise_cons.mpr ⟨fun z hz => ?_, h⟩
      rcases List.mem_cons.mp hz with e | hz
      · rw [e]
        exact c
      · exact Rat.le_trans c (h1 z hz)
    · rename_i c
      refine List.pairwise_cons.mpr ⟨fun z hz => ?_, oins_srt x r h2⟩
      rcases List.mem_cons.mp ((oins_perm x r).mem_iff.mp hz) with e | hz
      · rw [e]
        exact Rat.le_of_lt (Rat.not_le.mp c)
      · exact h1 z hz
def sortR : List Rat → List Rat
  | [] => []
  | x :: r => oins x (sortR r)
theorem sortR_perm : ∀ l, (sortR l).Perm l
  | [] => .refl _
  | x :: r => (oins_perm x (sortR r)).trans ((sortR_perm r).cons x)
theorem sortR_srt : ∀ l, (sortR l).Pairwise (· ≤ ·)
  | [] => List.Pairwise.nil
  | x :: r => oins_srt x _ (sortR_srt r)
theorem srt_uniq : ∀ {a b : List Rat}, a.Pairwise (· ≤ ·) → b.Pairwise (· ≤ ·) → a.Perm b → a = b
  | [], b, _, _, h => (List.Perm.eq_nil h.symm).symm
  | x :: a, [], _, _, h => absurd h.length_eq (by simp)
  | x :: a, y :: b, ha, hb, h => by
    obtain ⟨a1, a2⟩ := List.pairwise_cons.mp ha
    obtain ⟨b1, b2⟩ := List.pairwise_cons.mp hb
    have e : x = y := by
      refine Rat.le_antisymm ?_ ?_
      · rcases List.mem_cons.mp (h.mem_iff.mpr List.mem_cons_self) with e | hy
        · rw [e]
          exact Rat.le_refl
        · exact a1 y hy
      · rcases List.mem_cons.mp (h.mem_iff.mp List.mem_cons_self) with e | hx
        · rw [e]
          exact Rat.le_refl
        · exact b1 x hx
    subst e
    rw [srt_uniq a2 b2 h.cons_inv]
theorem sortR_of {l m : List Rat} (hm : m.Pairwise (· ≤ ·)) (h : m.Perm l) : sortR l = m := srt_uniq (sortR_srt l) hm ((sortR_perm l).trans h.symm)
def mergeR : Nat → List Rat → Rat
  | n + 1, a :: b :: r => (a + b) + mergeR n (oins (a + b) r)
  | _, _ => 0
/-- what merging costs -/
def mgR (l : List Rat) : Rat := mergeR l.length (sortR l)
theorem mg_perm {l m : List Rat} (h : l.Perm m) : mgR l = mgR m := by
  unfold mgR
  rw [h.length_eq, sortR_of (sortR_srt m) ((sortR_perm m).trans h.symm)]
theorem mg_nil : mgR [] = 0 := rfl
theorem mg_one (x : Rat) : mgR [x] = 0 := rfl
theorem mg_step {l : List Rat} {a b : Rat} {r : List Rat} (h : l.Perm (a :: b :: r)) (ha : ∀ y ∈ r, a ≤ y) (hb : ∀ y ∈ r, b ≤ y) : mgR l = (a + b) + mgR ((a + b) :: r) := by
  rw [mg_perm h]
  have key : ∀ a b : Rat, a ≤ b → (∀ y ∈ r, a ≤ y) → (∀ y ∈ r, b ≤ y) → mgR (a :: b :: r) = (a + b) + mgR ((a + b) :: r) := fun a b hab ha hb => by
    have e : sortR (a :: b :: r) = a :: b :: sortR r := by
      refine sortR_of (List.pairwise_cons.mpr ⟨fun z hz => ?_, List.pairwise_cons.mpr ⟨fun z hz => hb z ((sortR_perm r).mem_iff.mp hz), sortR_srt r⟩⟩) (((sortR_perm r).cons b).cons a)
      rcases List.mem_cons.mp hz with e | hz
      · rw [e]
        exact hab
      · exact ha z ((sortR_perm r).mem_iff.mp hz)
    unfold mgR
    rw [e]
    rfl
  rcases Rat.le_total (a := a) (b := b) with c | c
  · exact key a b c ha hb
  · rw [mg_perm (.swap b a r), key b a c hb ha, Rat.add_comm b a]
theorem oins_scale {k : Rat} (hk : 0 < k) (x : Rat) : ∀ l : List Rat, oins (k * x) (l.map (k * ·)) = (oins x l).map (k * ·)
  | [] => rfl
  | y :: r => by
    rw [List.map_cons, oins, oins]
    by_cases c : x ≤ y
    · rw [if_pos c, if_pos (Rat.mul_le_mul_of_nonneg_left c (Rat.le_of_lt hk))]
      rfl
    · rw [if_neg c, if_neg (fun z => c (Rat.le_of_mul_le_mul_left z hk)), oins_scale hk x r]
      rfl
theorem sortR_scale {k : Rat} (hk : 0 < k) : ∀ l : List Rat, sortR (l.map (k * ·)) = (sortR l).map (k * ·)
  | [] => rfl
  | x :: r => by
    rw [List.map_cons, sortR, sortR, sortR_scale hk r, oins_scale hk]
theorem mergeR_scale {k : Rat} (hk : 0 < k) : ∀ (n : Nat) (l : List Rat), mergeR n (l.map (k * ·)) = k * mergeR n l
  | 0, l => by
    rw [show mergeR 0 (l.map (k * ·)) = 0 from rfl, show mergeR 0 l = 0 from rfl, Rat.mul_zero]
  | n + 1, [] => (Rat.mul_zero k).symm
  | n + 1, [x] => (Rat.mul_zero k).symm
  | n + 1, a :: b :: r => by
    show (k * a + k * b) + mergeR n (oins (k * a + k * b) (r.map (k * ·))) = k * ((a + b) + mergeR n (oins (a + b) r))
    rw [← Rat.mul_add, oins_scale hk, mergeR_scale hk n, ← Rat.mul_add]
theorem mg_scale {k : Rat} (hk : 0 < k) (l : List Rat) : mgR (l.map (k * ·)) = k * mgR l := by
  unfold mgR
  rw [sortR_scale hk, List.length_map, mergeR_scale hk]
/-! almost equal weights -/
def lenB (n i : Nat) : Nat := if i < 2 * n - 2 ^ wideN n then wideN n else wideN n - 1
theorem lenB_step {m : Nat} (hm : 1 ≤ m) : lenB (m + 1) 0 = lenB m (m - 1) + 1 ∧ lenB (m + 1) 1 = lenB m (m - 1) + 1 ∧ ∀ i, i < m - 1 → lenB (m + 1) (i + 2) = lenB m i := by
  have h1 := wide_le m
  have h2 := wideN_lt m
  obtain ⟨k, hk⟩ : ∃ k, wideN m = k := ⟨_, rfl⟩
  rw [hk] at h1 h2
  by_cases c : m = 2 ^ k
  · have e : wideN (m + 1) = k + 1 := wide_eq (by rw [Nat.pow_succ]; omega) (fun d hd => by
      have := Nat.pow_le_pow_right (n := 2) (by decide) (show d ≤ k by omega)
      omega)
    unfold lenB
    rw [e, hk, Nat.pow_succ, ← c]
    refine ⟨?_, ?_, fun i hi => ?_⟩
    · rw [if_pos (by omega), if_pos (by omega)]
    · rw [if_pos (by omega), if_pos (by omega)]
    · rw [if_neg (by omega), if_pos (by omega)]
      omega
  · have k1 : 1 ≤ k := by
      refine Nat.not_lt.mp fun z => ?_
      have : k = 0 := by omega
      subst this
      rw [Nat.pow_zero] at h1 c
      omega
    have e : wideN (m + 1) = k := wide_eq (by omega) (fun d hd => by have := h2 d hd; omega)
    have h3 := h2 (k - 1) (by omega)
    have h4 : 2 ^ k = 2 * 2 ^ (k - 1) := by
      conv => lhs; rw [show k = (k - 1) + 1 by omega, Nat.pow_succ']
    unfold lenB
    rw [e, hk]
    refine ⟨?_, ?_, fun i hi => ?_⟩
    · rw [if_pos (by omega), if_neg (by omega)]
      omega
    · rw [if_pos (by omega), if_neg (by omega)]
      omega
    · by_cases d : i < 2 * m - 2 ^ k
      · rw [if_pos d, if_pos (by omega)]
      · rw [if_neg d, if_neg (by omega)]
def wsum (f : Nat → Nat) : Nat → List Rat → Rat
  | _, [] => 0
  | j, x :: r => x * (f j : Nat) + wsum f (j + 1) r
theorem wsum_app (f : Nat → Nat) : ∀ (l m : List Rat) (j : Nat), wsum f j (l ++ m) = wsum f j l + wsum f (j + l.length) m
  | [], m, j => by
    rw [List.nil_append, wsum, Rat.zero_add, List.length_nil, Nat.add_zero]
  | x :: r, m, j => by
    rw [List.cons_append, wsum, wsum_app f r m, wsum, List.length_cons, Rat.add_assoc, show j + 1 + r.length = j + (r.length + 1) by omega]
theorem wsum_congr {f g : Nat → Nat} : ∀ (l : List Rat) (i j : Nat), (∀ t, t < l.length → f (i + t) = g (j + t)) → wsum f i l = wsum g j l
  | [], _, _, _ => rfl
  | x :: r, i, j, h => by
    have h0 := h 0 (by simp)
    rw [Nat.add_zero, Nat.add_zero] at h0
    rw [wsum, wsum, h0, wsum_congr r (i + 1) (j + 1) fun t ht => ?_]
    have := h (t + 1) (by rw [List.length_cons]; omega)
    rw [show i + 1 + t = i + (t + 1) by omega, show j + 1 + t = j + (t + 1) by omega]
    exact this
theorem mg_even : ∀ (n : Nat) (l : List Rat), l.length = n → 1 ≤ n → l.Pairwise (· ≤ ·) → (∀ y ∈ l, 0 < y) → (∀ a b r, l = a :: b :: r → ∀ y ∈ r, y ≤ a + b) → mgR l = wsum (lenB n) 0 l := by
  intro n
  induction n with
  | zero => intro l _ h; omega
  | succ m ih =>
    intro l hl _ hs hp hm
    match l, hl, hs, hp, hm with
    | [], hl, _, _, _ => cases hl
    | [x], hl, _, _, _ =>
      have : m = 0 := by simpa using hl.symm
      subst this
      rw [mg_one]
      show (0 : Rat) = x * ((lenB 1 0 : Nat) : Rat) + 0
      rw [show lenB 1 0 = 0 by decide, show ((0 : Nat) : Rat) = 0 from rfl, Rat.mul_zero, Rat.add_zero]
    | a :: b :: r, hl, hs, hp, hm =>
      obtain ⟨h1, h2⟩ := List.pairwise_cons.mp hs
      obtain ⟨h3, h4⟩ := List.pairwise_cons.mp h2
      have hm := hm a b r rfl
      have hr : r.length + 1 = m := by simpa using hl
      have ha : 0 < a := hp a List.mem_cons_self
      have hb : 0 < b := hp b (List.mem_cons_of_mem _ List.mem_cons_self)
      rw [mg_step (.refl _) (fun y hy => h1 y (List.mem_cons_of_mem _ hy)) h3]
      have e : mgR ((a + b) :: r) = mgR (r ++ [a + b]) := mg_perm (by
        have := (List.perm_append_comm (l₁ := [a + b]) (l₂ := r))
        exact this)
      rw [e, ih (r ++ [a + b]) (by rw [List.length_append]; exact hr) (by omega) ?_ ?_ ?_]
      · obtain ⟨l0, l1, l2⟩ := lenB_step (m := m) (by omega)
        rw [wsum_app, wsum, wsum, wsum, wsum, Nat.zero_add, Nat.zero_add, show r.length = m - 1 by omega, l0, l1]
        rw [wsum_congr (f := lenB (m + 1)) (g := lenB m) r (1 + 1) 0 fun t ht => by rw [Nat.zero_add, show 1 + 1 + t = t + 2 by omega]; exact l2 t (by omega)]
        have e1 : ((lenB m (m - 1) + 1 : Nat) : Rat) = ((lenB m (m - 1) : Nat) : Rat) + 1 := Rat.natCast_add _ _
        rw [e1]
        grind
      · refine List.pairwise_append.mpr ⟨h4, List.pairwise_singleton _ _, fun y hy z hz => ?_⟩
        rw [List.mem_singleton.mp hz]
        exact hm y hy
      · intro y hy
        rcases List.mem_append.mp hy with hy | hy
        · exact hp y (List.mem_cons_of_mem _ (List.mem_cons_of_mem _ hy))
        · rw [List.mem_singleton.mp hy]
          grind
      · intro c d s hcd y hy
        match r, hcd with
        | [], hcd => cases hcd
        | [c'], hcd =>
          cases hcd
          cases hy
        | c' :: d' :: s', hcd =>
          cases hcd
          have g1 : a ≤ c := h1 c (by simp)
          have g2 : b ≤ d := h3 d (by simp)
          rcases List.mem_append.mp hy with hy | hy
          · have := hm y (List.mem_cons_of_mem _ (List.mem_cons_of_mem _ hy))
            grind
          · rw [List.mem_singleton.mp hy]
            grind
end St
namespace St
open PySem PySem.Spec PyProof.Rows L2
/-! ### no lengths cost less than merging -/
def dotR : List Rat → List Nat → Rat
  | x :: ws, l :: ls => x * (l : Nat) + dotR ws ls
  | _, _ => 0
def krf (K : Nat) (ls : List Nat) : Nat := (ls.map fun l => 2 ^ (K - l)).sum
def dins (x : Nat) : List Nat → List Nat
  | [] => [x]
  | y :: r => if y ≤ x then x :: y :: r else y :: dins x r
def sortD : List Nat → List Nat
  | [] => []
  | x :: r => dins x (sortD r)
theorem dins_perm (x : Nat) : ∀ l, (dins x l).Perm (x :: l)
  | [] => .refl _
  | y :: r => by
    rw [dins]
    split
    · exact .refl _
    · exact ((dins_perm x r).cons y).trans (.swap x y r)
theorem sortD_perm : ∀ l, (sortD l).Perm l
  | [] => .refl _
  | x :: r => (dins_perm x (sortD r)).trans ((sortD_perm r).cons x)
theorem dins_srt (x : Nat) : ∀ l : List Nat, l.Pairwise (· ≥ ·) → (dins x l).Pairwise (· ≥ ·)
  | [], _ => List.pairwise_singleton _ _
  | y :: r, h => by
    obtain ⟨h1, h2⟩ := List.pairwise_cons.mp h
    rw [dins]
    split
    · rename_i c
      refine List.pairwise_cons.mpr ⟨fun z hz => ?_, h⟩
      rcases List.mem_cons.mp hz with e | hz
      · rw [e]
        exact c
      · exact Nat.le_trans (h1 z hz) c
    · rename_i c
      refine List.pairwise_cons.mpr ⟨fun z hz => ?_, dins_srt x r h2⟩
      rcases List.mem_cons.mp ((dins_perm x r).mem_iff.mp hz) with e | hz
      · rw [e]
        show x ≤ y
        omega
      · exact h1 z hz
theorem sortD_srt : ∀ l, (sortD l).Pairwise (· ≥ ·)
  | [] => List.Pairwise.nil
  | x :: r => dins_srt x _ (sortD_srt r)
theorem swap_le {u v : Rat} {x y : Nat} (huv : u ≤ v) (hxy : x ≤ y) : u * (y : Nat) + v * (x : Nat) ≤ u * (x : Nat) + v * (y : Nat) := by
  obtain ⟨d, rfl⟩ : ∃ d, y = x + d := ⟨y - x, by omega⟩
  rw [show ((x + d : Nat) : Rat) = ((x : Nat) : Rat) + ((d : Nat) : Rat) from Rat.natCast_add _ _]
  have h1 : u * ((d : Nat) : Rat) ≤ v * ((d : Nat) : Rat) := Rat.mul_le_mul_of_nonneg_right huv Rat.natCast_nonneg
  grind
theorem dot_dins (x : Nat) : ∀ (ws : List Rat) (u : Rat) (l : List Nat), l.length = ws.length → (u :: ws).Pairwise (· ≤ ·) → dotR (u :: ws) (dins x l) ≤ dotR (u :: ws) (x :: l)
  | ws, u, [], _, _ => Rat.le_refl
  | [], u, y :: r, h, _ => by cases h
  | v :: ws, u, y :: r, h, hs => by
    obtain ⟨h1, h2⟩ := List.pairwise_cons.mp hs
    rw [dins]
    split
    · exact Rat.le_refl
    · rename_i c
      have ih := dot_dins x ws v r (by simpa using h) h2
      have sw := swap_le (h1 v List.mem_cons_self) (show x ≤ y by omega)
      show u * _ + dotR (v :: ws) (dins x r) ≤ u * _ + (v * _ + dotR ws r)
      have e : dotR (v :: ws) (x :: r) = v * ((x : Nat) : Rat) + dotR ws r := rfl
      rw [e] at ih
      grind
theorem dins_len (x : Nat) (l : List Nat) : (dins x l).length = l.length + 1 := by
  rw [(dins_perm x l).length_eq]
  rfl
theorem sortD_len (l : List Nat) : (sortD l).length = l.length := (sortD_perm l).length_eq
theorem sortR_len (l : List Rat) : (sortR l).length = l.length := (sortR_perm l).length_eq
theorem dot_sortD : ∀ (ws : List Rat) (l : List Nat), l.length = ws.length → ws.Pairwise (· ≤ ·) → dotR ws (sortD l) ≤ dotR ws l
  | [], [], _, _ => Rat.le_refl
  | [], _ :: _, h, _ => by cases h
  | _ :: _, [], h, _ => by cases h
  | w :: ws, x :: l, h, hs => by
    obtain ⟨h1, h2⟩ := List.pairwise_cons.mp hs
    have ih := dot_sortD ws l (by simpa using h) h2
    have a := dot_dins x ws w (sortD l) (by rw [sortD_len]; simpa using h) hs
    refine Rat.le_trans a ?_
    show w * _ + dotR ws (sortD l) ≤ w * _ + dotR ws l
    grind
theorem dot_oins (x : Rat) (m : Nat) : ∀ (ws : List Rat) (ls : List Nat), ls.length = ws.length → ∃ ms : List Nat, ms.Perm (m :: ls) ∧ dotR (oins x ws) ms = x * (m : Nat) + dotR ws ls
  | [], [], _ => ⟨[m], .refl _, rfl⟩
  | [], _ :: _, h => by cases h
  | _ :: _, [], h => by cases h
  | w :: ws, l :: ls, h => by
    rw [oins]
    split
    · exact ⟨m :: l :: ls, .refl _, rfl⟩
    · obtain ⟨ms, p, e⟩ := dot_oins x m ws ls (by simpa using h)
      refine ⟨l :: ms, (p.cons l).trans (.swap m l ls), ?_⟩
      show w * _ + dotR (oins x ws) ms = _ + (w * _ + dotR ws ls)
      rw [e]
      grind
theorem dot_sortR : ∀ (ws : List Rat) (ls : List Nat), ls.length = ws.length → ∃ ms : List Nat, ms.Perm ls ∧ dotR (sortR ws) ms = dotR ws ls
  | [], [], _ => ⟨[], .refl _, rfl⟩
  | [], _ :: _, h => by cases h
  | _ :: _, [], h => by cases h
  | w :: ws, l :: ls, h => by
    obtain ⟨ms, p, e⟩ := dot_sortR ws ls (by simpa using h)
    obtain ⟨ns, p2, e2⟩ := dot_oins w l (sortR ws) ms (by rw [sortR_len, p.length_eq]; simpa using h)
    refine ⟨ns, p2.trans (p.cons l), ?_⟩
    show dotR (oins w (sortR ws)) ns = w * _ + dotR ws ls
    rw [e2, e]
theorem krf_perm {K : Nat} {l m : List Nat} (h : l.Perm m) : krf K l = krf K m := (h.map _).sum_nat
theorem krf_cons (K l : Nat) (ls : List Nat) : krf K (l :: ls) = 2 ^ (K - l) + krf K ls := rfl
theorem krf_dvd {K l : Nat} : ∀ {ls : List Nat}, (∀ x ∈ ls, x ≤ l) → l ≤ K → 2 ^ (K - l) ∣ krf K ls
  | [], _, _ => ⟨0, rfl⟩
  | x :: r, h, hK => by
    rw [krf_cons]
    refine Nat.dvd_add (Nat.pow_dvd_pow 2 (by have := h x List.mem_cons_self; omega)) (krf_dvd (fun y hy => h y (List.mem_cons_of_mem _ hy)) hK)
theorem huff {K : Nat} : ∀ (n : Nat) (ws : List Rat) (ls : List Nat), ws.length = n → ls.length = n → (∀ w ∈ ws, 0 ≤ w) → (∀ l ∈ ls, l ≤ K) → krf K ls ≤ 2 ^ K → mgR ws ≤ dotR ws ls := by
  intro n
  induction n with
  | zero =>
    intro ws ls h1 h2 _ _ _
    rw [List.eq_nil_of_length_eq_zero h1, List.eq_nil_of_length_eq_zero h2]
    exact Rat.le_refl
  | succ n ih =>
    intro ws ls hw hl h0 hK hk
    obtain ⟨ms, p, e⟩ := dot_sortR ws ls (by omega)
    have h1 : dotR (sortR ws) (sortD ms) ≤ dotR ws ls := by
      rw [← e]
      exact dot_sortD _ _ (by rw [sortR_len, p.length_eq]; omega) (sortR_srt ws)
    refine Rat.le_trans ?_ h1
    have hp : (sortD ms).Perm ls := (sortD_perm ms).trans p
    have hk : krf K (sortD ms) ≤ 2 ^ K := by rw [krf_perm hp]; exact hk
    have hK : ∀ l ∈ sortD ms, l ≤ K := fun l h => hK l (hp.mem_iff.mp h)
    have hlen : (sortD ms).length = n + 1 := by rw [hp.length_eq]; exact hl
    have hds := sortD_srt ms
    have hws := sortR_srt ws
    have h0 : ∀ w ∈ sortR ws, 0 ≤ w := fun w h => h0 w ((sortR_perm ws).mem_iff.mp h)
    have hwl : (sortR ws).length = n + 1 := by rw [sortR_len]; exact hw
    rw [← mg_perm (sortR_perm ws)]
    generalize sortD ms = L at *
    generalize sortR ws = W at *
    match W, L, hwl, hlen, hds, hws, h0, hk, hK with
    | [a], [l], _, _, _, _, h0, _, _ =>
      show (0 : Rat) ≤ a * ((l : Nat) : Rat) + 0
      have := Rat.mul_nonneg (h0 a List.mem_cons_self) (Rat.natCast_nonneg (a := l))
      grind
    | [a], l :: m :: t, h, h', _, _, _, _, _ =>
      simp at h h'
      omega
    | a :: b :: r, [l], h, h', _, _, _, _, _ =>
      simp at h h'
      omega
    | a :: b :: r, l1 :: l2 :: t, hwl, hlen, hds, hws, h0, hk, hK =>
      obtain ⟨d1, d2⟩ := List.pairwise_cons.mp hds
      obtain ⟨d3, d4⟩ := List.pairwise_cons.mp d2
      obtain ⟨w1, w2⟩ := List.pairwise_cons.mp hws
      obtain ⟨w3, w4⟩ := List.pairwise_cons.mp w2
      have l12 : l2 ≤ l1 := d1 l2 List.mem_cons_self
      have hl1 := hK l1 List.mem_cons_self
      have hl2 : l2 ≤ K := by omega
      have ha := h0 a List.mem_cons_self
      have hb := h0 b (List.mem_cons_of_mem _ List.mem_cons_self)
      -- both as long as the second
      have hk2 : 2 ^ (K - l2) + (2 ^ (K - l2) + krf K t) ≤ 2 ^ K := by
        rw [krf_cons, krf_cons] at hk
        obtain ⟨u, hu⟩ := krf_dvd (K := K) (l := l2) (ls := t) d3 hl2
        obtain ⟨v, hv⟩ : 2 ^ (K - l2) ∣ 2 ^ K := Nat.pow_dvd_pow 2 (by omega)
        have hp1 : 0 < 2 ^ (K - l1) := Nat.pow_pos (by decide)
        have hp2 : 0 < 2 ^ (K - l2) := Nat.pow_pos (by decide)
        generalize 2 ^ (K - l2) = g at *
        have h5 : g * (1 + u) < g * v := by
          rw [Nat.mul_add, Nat.mul_one]
          omega
        have h6 := Nat.lt_of_mul_lt_mul_left h5
        have h7 : g * (1 + (1 + u)) ≤ g * v := Nat.mul_le_mul_left g (by omega)
        rw [Nat.mul_add, Nat.mul_add, Nat.mul_one] at h7
        omega
      have l2p : 1 ≤ l2 := by
        refine Nat.not_lt.mp fun z => ?_
        have : l2 = 0 := by omega
        subst this
        have hp : 0 < 2 ^ (K - 0) := Nat.pow_pos (by decide)
        rw [Nat.sub_zero] at hk2 hp
        omega
      have hk3 : krf K ((l2 - 1) :: t) ≤ 2 ^ K := by
        rw [krf_cons, show K - (l2 - 1) = (K - l2) + 1 by omega, Nat.pow_succ]
        omega
      have ih := ih ((a + b) :: r) ((l2 - 1) :: t) (by simp at hwl ⊢; omega) (by simp at hlen ⊢; omega) (fun w hw => by
        rcases List.mem_cons.mp hw with e | hw
        · rw [e]
          exact Rat.add_nonneg ha hb
        · exact h0 w (List.mem_cons_of_mem _ (List.mem_cons_of_mem _ hw))) (fun l hl => by
        rcases List.mem_cons.mp hl with e | hl
        · omega
        · have := d3 l hl
          omega) hk3
      rw [mg_step (.refl _) (fun y hy => w1 y (List.mem_cons_of_mem _ hy)) w3]
      have e1 : dotR ((a + b) :: r) ((l2 - 1) :: t) = (a + b) * ((l2 - 1 : Nat) : Rat) + dotR r t := rfl
      have e2 : dotR (a :: b :: r) (l1 :: l2 :: t) = a * ((l1 : Nat) : Rat) + (b * ((l2 : Nat) : Rat) + dotR r t) := rfl
      rw [e2]
      rw [e1] at ih
      have e3 : ((l2 : Nat) : Rat) = ((l2 - 1 : Nat) : Rat) + 1 := by
        have : ((l2 - 1 + 1 : Nat) : Rat) = ((l2 - 1 : Nat) : Rat) + 1 := Rat.natCast_add _ _
        rw [show l2 - 1 + 1 = l2 by omega] at this
        exact this
      have e4 : a * ((l2 : Nat) : Rat) ≤ a * ((l1 : Nat) : Rat) := Rat.mul_le_mul_of_nonneg_left (Rat.natCast_le_natCast.mpr l12) ha
      rw [e3] at e4 ⊢
      grind
end St
namespace St
open PySem PySem.Spec PyProof.Rows L2
/-! ### rows that are merged: a weight, a number, the numbers below -/
structure RowB where
  w : Int
  n : Nat
  ms : List Nat
def rowLe (a b : RowB) : Bool := decide (a.w < b.w ∨ (a.w = b.w ∧ a.n ≤ b.n))
theorem rowLe_iff {a b : RowB} : rowLe a b = true ↔ (a.w < b.w ∨ (a.w = b.w ∧ a.n ≤ b.n)) := by
  unfold rowLe
  exact decide_eq_true_iff
theorem rowLe_trans (a b c : RowB) : rowLe a b = true → rowLe b c = true → rowLe a c = true := by
  rw [rowLe_iff, rowLe_iff, rowLe_iff]
  omega
theorem rowLe_total (a b : RowB) : (rowLe a b || rowLe b a) = true := by
  rw [Bool.or_eq_true, rowLe_iff, rowLe_iff]
  omega
def encRow (a : RowB) : PyData := .tuple [.int a.w, .int (a.n : Nat), .list (a.ms.map fun i => .int (i : Nat))]
theorem rowLt_data {a b : RowB} (h : a.w = b.w → a.n = b.n → a = b) : (!PySem.W.dataLt (encRow b) (encRow a)) = rowLe a b := by
  unfold encRow rowLe
  rw [PySem.W.dataLt_tuple, PySem.W.dataLt_cons (by simp [PySem.W.alike]), PySem.W.dataLt_int]
  simp only [PyData.eqv, beq_iff_eq]
  by_cases e1 : b.w = a.w
  · rw [if_pos e1, PySem.W.dataLt_cons (by simp [PySem.W.alike]), PySem.W.dataLt_int]
    simp only [PyData.eqv, beq_iff_eq]
    by_cases e2 : b.n = a.n
    · rw [if_pos (by omega)]
      have e3 := h e1.symm e2.symm
      subst e3
      rw [lex_irrefl]
      simp
    · rw [if_neg (by omega)]
      by_cases c : b.n < a.n
      · rw [decide_eq_true (by omega), decide_eq_false (by omega)]
        rfl
      · rw [decide_eq_false (by omega), decide_eq_true (by omega)]
        rfl
  · rw [if_neg e1]
    by_cases c : b.w < a.w
    · rw [decide_eq_true (by omega), decide_eq_false (by omega)]
      rfl
    · rw [decide_eq_false (by omega), decide_eq_true (by omega)]
      rfl
/-- one more for each of some numbers -/
def bump (g : Nat → Nat) (ms : List Nat) : Nat → Nat := fun i => g i + ms.count i
/-- the merging, with fuel -/
def mrun (cnt : Nat) : Nat → List RowB → (Nat → Nat) → (Nat → Nat)
  | 0, _, g => g
  | k + 1, rows, g => match rows.mergeSort rowLe with
    | a :: b :: r => mrun cnt k (r ++ [⟨a.w + b.w, cnt + (r.length + 2), a.ms ++ b.ms⟩]) (bump g (a.ms ++ b.ms))
    | _ => g
def wsOf (rows : List RowB) : List Rat := rows.map fun a => (a.w : Rat)
def sumM (W : Nat → Int) (ms : List Nat) : Int := (ms.map W).sum
def dotI (W : Nat → Int) (g : Nat → Nat) : Nat → Int
  | 0 => 0
  | k + 1 => dotI W g k + W k * (g k : Nat)
theorem dotI_bump (W : Nat → Int) (g : Nat → Nat) : ∀ (ms : List Nat) (n : Nat), (∀ i ∈ ms, i < n) → dotI W (bump g ms) n = dotI W g n + sumM W ms := by
  have one : ∀ (x n : Nat), x < n → ∀ f : Nat → Nat, dotI W (fun i => f i + [x].count i) n = dotI W f n + W x := by
    intro x n
    induction n with
    | zero => intro h; omega
    | succ n ih =>
      intro h f
      by_cases e : x = n
      · subst e
        have low : ∀ k, k ≤ x → dotI W (fun i => f i + [x].count i) k = dotI W f k := by
          intro k
          induction k with
          | zero => intro _; rfl
          | succ k ihk =>
            intro hk
            rw [dotI, dotI, ihk (by omega)]
            have : [x].count k = 0 := List.count_eq_zero.mpr (by simp; omega)
            simp only [this, Nat.add_zero]
        rw [dotI, dotI, low x (Nat.le_refl _)]
        have : [x].count x = 1 := by simp
        simp only [this]
        rw [Int.natCast_add, Int.mul_add]
        show _ + (_ + W x * 1) = _
        omega
      · rw [dotI, dotI, ih (by omega)]
        have : [x].count n = 0 := List.count_eq_zero.mpr (by simp; omega)
        simp only [this, Nat.add_zero]
        omega
  intro ms
  induction ms generalizing g with
  | nil =>
    intro n _
    have : bump g [] = g := by
      funext i
      simp [bump]
    rw [this]
    show _ = _ + 0
    omega
  | cons x ms ih =>
    intro n h
    have e : bump g (x :: ms) = bump (fun i => g i + [x].count i) ms := by
      funext i
      unfold bump
      rw [show (x :: ms).count i = [x].count i + ms.count i by rw [← List.count_append]; rfl]
      exact (Nat.add_assoc _ _ _).symm
    rw [e, ih (fun i => g i + [x].count i) n (fun i hi => h i (List.mem_cons_of_mem _ hi)), one x n (h x List.mem_cons_self)]
    show _ = _ + (W x + sumM W ms)
    omega
def krfF (K : Nat) (g : Nat → Nat) (ms : List Nat) : Nat := (ms.map fun i => 2 ^ (K - g i)).sum
/-- what holds between two merges: j merges done -/
structure MInv (W : Nat → Int) (cnt K j : Nat) (rows : List RowB) (g : Nat → Nat) : Prop where
  len : rows.length + j = cnt
  part : (rows.flatMap (·.ms)).Perm (List.range cnt)
  wt : ∀ a ∈ rows, a.w = sumM W a.ms
  kr : ∀ a ∈ rows, krfF K g a.ms = 2 ^ K
  low : ∀ i, g i ≤ j
  cost : ((dotI W g cnt : Int) : Rat) + mgR (wsOf rows) = mgR ((List.range cnt).map fun i => (W i : Rat))
  nums : ∀ a ∈ rows, a.n < cnt ∨ cnt + rows.length < a.n
  nd : (rows.map (·.n)).Nodup
theorem MInv.perm {W : Nat → Int} {cnt K j : Nat} {rows rows' : List RowB} {g : Nat → Nat} (h : MInv W cnt K j rows g) (p : rows'.Perm rows) : MInv W cnt K j rows' g :=
  ⟨by rw [p.length_eq]; exact h.len, (p.flatMap_right _).trans h.part, fun a ha => h.wt a (p.mem_iff.mp ha), fun a ha => h.kr a (p.mem_iff.mp ha), h.low, by rw [← h.cost]; congr 1; exact mg_perm (p.map _), fun a ha => by rw [p.length_eq]; exact h.nums a (p.mem_iff.mp ha), (p.map _).nodup_iff.mpr h.nd⟩
theorem sumM_app (W : Nat → Int) (a b : List Nat) : sumM W (a ++ b) = sumM W a + sumM W b := by
  unfold sumM
  rw [List.map_append, List.sum_append]
theorem krf_bump {K : Nat} {g : Nat → Nat} {ms ns : List Nat} (h : ∀ i ∈ ms, ns.count i = 1 ∧ g i + 1 ≤ K) : 2 * krfF K (bump g ns) ms = krfF K g ms := by
  unfold krfF
  induction ms with
  | nil => rfl
  | cons x ms ih =>
    rw [List.map_cons, List.sum_cons, List.map_cons, List.sum_cons, ← ih fun i hi => h i (List.mem_cons_of_mem _ hi), Nat.mul_add]
    congr 1
    obtain ⟨h1, h2⟩ := h x List.mem_cons_self
    show 2 * 2 ^ (K - (g x + ns.count x)) = _
    rw [h1, ← Nat.pow_succ']
    congr 1
    omega
theorem krf_keep {K : Nat} {g : Nat → Nat} {ms ns : List Nat} (h : ∀ i ∈ ms, ns.count i = 0) : krfF K (bump g ns) ms = krfF K g ms := by
  unfold krfF
  congr 1
  refine List.map_congr_left fun i hi => ?_
  show 2 ^ (K - (g i + ns.count i)) = _
  rw [h i hi, Nat.add_zero]
theorem MInv.step {W : Nat → Int} {cnt K j : Nat} {a b : RowB} {r : List RowB} {g : Nat → Nat} (h : MInv W cnt K j (a :: b :: r) g) (hK : cnt ≤ K) (ha : ∀ c ∈ r, a.w ≤ c.w) (hb : ∀ c ∈ r, b.w ≤ c.w) :
    MInv W cnt K (j + 1) (r ++ [⟨a.w + b.w, cnt + (r.length + 2), a.ms ++ b.ms⟩]) (bump g (a.ms ++ b.ms)) := by
  have hlen := h.len
  rw [List.length_cons, List.length_cons] at hlen
  have hpart := h.part
  rw [List.flatMap_cons, List.flatMap_cons, ← List.append_assoc] at hpart
  have hnd : ((a.ms ++ b.ms) ++ r.flatMap (·.ms)).Nodup := (hpart.nodup_iff).mpr List.nodup_range
  obtain ⟨nd1, nd2, nd3⟩ := List.nodup_append.mp hnd
  have mem1 : ∀ i ∈ a.ms ++ b.ms, i < cnt := fun i hi => List.mem_range.mp (hpart.mem_iff.mp (List.mem_append_left _ hi))
  have cnt1 : ∀ i ∈ a.ms ++ b.ms, (a.ms ++ b.ms).count i = 1 := fun i hi => by
    have h1 := List.nodup_iff_count.mp nd1 i
    have h2 := List.count_pos_iff.mpr hi
    omega
  have lowK : ∀ i, g i + 1 ≤ K := fun i => by
    have := h.low i
    omega
  refine ⟨?_, ?_, ?_, ?_, ?_, ?_, ?_, ?_⟩
  · rw [List.length_append]
    show r.length + 1 + (j + 1) = cnt
    omega
  · rw [List.flatMap_append]
    refine List.perm_append_comm.trans ?_
    show List.Perm (((a.ms ++ b.ms) ++ []) ++ r.flatMap (·.ms)) _
    rw [List.append_nil]
    exact hpart
  · intro c hc
    rcases List.mem_append.mp hc with hc | hc
    · exact h.wt c (List.mem_cons_of_mem _ (List.mem_cons_of_mem _ hc))
    · rw [List.mem_singleton.mp hc]
      show a.w + b.w = sumM W (a.ms ++ b.ms)
      rw [sumM_app, ← h.wt a List.mem_cons_self, ← h.wt b (List.mem_cons_of_mem _ List.mem_cons_self)]
  · intro c hc
    rcases List.mem_append.mp hc with hc | hc
    · rw [krf_keep fun i hi => List.count_eq_zero.mpr fun hm => nd3 i hm i (List.mem_flatMap.mpr ⟨c, hc, hi⟩) rfl]
      exact h.kr c (List.mem_cons_of_mem _ (List.mem_cons_of_mem _ hc))
    · rw [List.mem_singleton.mp hc]
      show krfF K (bump g (a.ms ++ b.ms)) (a.ms ++ b.ms) = 2 ^ K
      have e := krf_bump (K := K) (g := g) (ms := a.ms ++ b.ms) (ns := a.ms ++ b.ms) fun i hi => ⟨cnt1 i hi, lowK i⟩
      have e2 : krfF K g (a.ms ++ b.ms) = 2 ^ K + 2 ^ K := by
        unfold krfF
        rw [List.map_append, List.sum_append]
        have k1 := h.kr a List.mem_cons_self
        have k2 := h.kr b (List.mem_cons_of_mem _ List.mem_cons_self)
        unfold krfF at k1 k2
        rw [k1, k2]
      omega
  · intro i
    show g i + (a.ms ++ b.ms).count i ≤ j + 1
    have h1 := List.nodup_iff_count.mp nd1 i
    have := h.low i
    omega
  · rw [dotI_bump W g _ cnt mem1, ← h.cost]
    have e1 : mgR (wsOf (a :: b :: r)) = ((a.w : Rat) + (b.w : Rat)) + mgR (((a.w : Rat) + (b.w : Rat)) :: wsOf r) := mg_step (.refl _) (fun y hy => by
      obtain ⟨c, hc, rfl⟩ := List.mem_map.mp hy
      exact Rat.intCast_le_intCast.mpr (ha c hc)) (fun y hy => by
      obtain ⟨c, hc, rfl⟩ := List.mem_map.mp hy
      exact Rat.intCast_le_intCast.mpr (hb c hc))
    have e2 : mgR (wsOf (r ++ [⟨a.w + b.w, cnt + (r.length + 2), a.ms ++ b.ms⟩])) = mgR (((a.w : Rat) + (b.w : Rat)) :: wsOf r) := by
      refine mg_perm ?_
      unfold wsOf
      rw [List.map_append]
      refine List.perm_append_comm.trans ?_
      show List.Perm ((((a.w + b.w : Int)) : Rat) :: (r.map fun a => (a.w : Rat))) _
      rw [Rat.intCast_add]
    have e3 : sumM W (a.ms ++ b.ms) = a.w + b.w := by
      rw [sumM_app, ← h.wt a List.mem_cons_self, ← h.wt b (List.mem_cons_of_mem _ List.mem_cons_self)]
    rw [e1, e2, e3, Rat.intCast_add, Rat.intCast_add]
    grind
  · intro c hc
    rw [List.length_append]
    show c.n < cnt ∨ cnt + (r.length + 1) < c.n
    rcases List.mem_append.mp hc with hc | hc
    · have := h.nums c (List.mem_cons_of_mem _ (List.mem_cons_of_mem _ hc))
      rw [List.length_cons, List.length_cons] at this
      omega
    · rw [List.mem_singleton.mp hc]
      show cnt + (r.length + 2) < cnt ∨ cnt + (r.length + 1) < cnt + (r.length + 2)
      omega
  · have hn := h.nd
    rw [List.map_cons, List.map_cons, List.nodup_cons, List.nodup_cons] at hn
    rw [List.map_append]
    refine List.nodup_append.mpr ⟨hn.2.2, by simp, fun x hx y hy => ?_⟩
    obtain ⟨c, hc, rfl⟩ := List.mem_map.mp hx
    have := h.nums c (List.mem_cons_of_mem _ (List.mem_cons_of_mem _ hc))
    rw [List.length_cons, List.length_cons] at this
    have e : y = cnt + (r.length + 2) := by simpa using hy
    omega
theorem MInv.sorted {W : Nat → Int} {cnt K j : Nat} {rows : List RowB} {g : Nat → Nat} (h : MInv W cnt K j rows g) : MInv W cnt K j (rows.mergeSort rowLe) g ∧ ∀ a b r, rows.mergeSort rowLe = a :: b :: r → (∀ c ∈ r, a.w ≤ c.w) ∧ ∀ c ∈ r, b.w ≤ c.w := by
  refine ⟨h.perm (List.mergeSort_perm rows rowLe), fun a b r e => ?_⟩
  have hp := List.pairwise_mergeSort rowLe_trans rowLe_total rows
  rw [e] at hp
  obtain ⟨h1, h2⟩ := List.pairwise_cons.mp hp
  obtain ⟨h3, _⟩ := List.pairwise_cons.mp h2
  refine ⟨fun c hc => ?_, fun c hc => ?_⟩
  · have := rowLe_iff.mp (h1 c (List.mem_cons_of_mem _ hc))
    omega
  · have := rowLe_iff.mp (h3 c hc)
    omega
/-- the numbers of rows tell them apart -/
theorem MInv.apart {W : Nat → Int} {cnt K j : Nat} {rows : List RowB} {g : Nat → Nat} (h : MInv W cnt K j rows g) {a b : RowB} (ha : a ∈ rows) (hb : b ∈ rows) (e : a.n = b.n) : a = b := by
  have hn := h.nd
  obtain ⟨i, hi⟩ := List.getElem?_of_mem ha
  obtain ⟨k, hk⟩ := List.getElem?_of_mem hb
  obtain ⟨i1, i2⟩ := List.getElem?_eq_some_iff.mp hi
  obtain ⟨k1, k2⟩ := List.getElem?_eq_some_iff.mp hk
  have ne : ∀ i k (h1 : i < rows.length) (h2 : k < rows.length), i < k → rows[i].n = rows[k].n → False := fun i k h1 h2 hlt e => by
    have := List.pairwise_iff_getElem.mp hn i k (by rw [List.length_map]; exact h1) (by rw [List.length_map]; exact h2) hlt
    rw [List.getElem_map, List.getElem_map] at this
    exact this e
  rcases Nat.lt_trichotomy i k with c | c | c
  · exact (ne i k i1 k1 c (by rw [i2, k2, e])).elim
  · subst c
    rw [← i2, ← k2]
  · exact (ne k i k1 i1 c (by rw [i2, k2, e])).elim
theorem mrun_inv {W : Nat → Int} {cnt K : Nat} (hK : cnt ≤ K) : ∀ (f j : Nat) (rows : List RowB) (g : Nat → Nat), MInv W cnt K j rows g → 1 ≤ rows.length → rows.length ≤ f + 1 →
    ∃ rows', rows'.length = 1 ∧ MInv W cnt K (cnt - 1) rows' (mrun cnt f rows g) := by
  intro f
  induction f with
  | zero =>
    intro j rows g h h1 h2
    have := h.len
    exact ⟨rows, by omega, by rw [show cnt - 1 = j by omega]; exact h⟩
  | succ f ih =>
    intro j rows g h h1 h2
    obtain ⟨hs, hw⟩ := h.sorted
    have hl := (List.mergeSort_perm rows rowLe).length_eq
    rw [mrun]
    split
    · rename_i a b r e
      rw [e] at hs hl
      obtain ⟨w1, w2⟩ := hw a b r e
      rw [List.length_cons, List.length_cons] at hl
      have st := hs.step hK w1 w2
      exact ih (j + 1) _ _ st (by rw [List.length_append]; show 1 ≤ _ + 1; omega) (by rw [List.length_append]; show _ + 1 ≤ _; omega)
    · rename_i hno
      have l1 : (rows.mergeSort rowLe).length ≤ 1 := by
        match hm : rows.mergeSort rowLe with
        | [] => simp
        | [x] => simp
        | a :: b :: r => exact absurd hm (hno a b r)
      have := h.len
      exact ⟨rows, by omega, by rw [show cnt - 1 = j by omega]; exact h⟩
def rows0 (W : Nat → Int) (cnt : Nat) : List RowB := (List.range cnt).map fun i => ⟨W i, i, [i]⟩
theorem flat_single : ∀ l : List Nat, (l.map fun i => [i]).flatten = l
  | [] => rfl
  | x :: l => by rw [List.map_cons, List.flatten_cons, flat_single l]; rfl
theorem minv0 (W : Nat → Int) (cnt K : Nat) : MInv W cnt K 0 (rows0 W cnt) fun _ => 0 := by
  refine ⟨by unfold rows0; rw [List.length_map, List.length_range]; rfl, ?_, fun a ha => ?_, fun a ha => ?_, fun i => Nat.le_refl _, ?_, fun a ha => ?_, ?_⟩
  · unfold rows0
    rw [List.flatMap_map]
    have : (List.range cnt).flatMap (fun i => [i]) = List.range cnt := by
      rw [List.flatMap_def]
      exact flat_single _
    rw [this]
  · obtain ⟨i, _, rfl⟩ := List.mem_map.mp ha
    show W i = W i + 0
    omega
  · obtain ⟨i, _, rfl⟩ := List.mem_map.mp ha
    show 2 ^ (K - 0) + 0 = 2 ^ K
    rw [Nat.sub_zero, Nat.add_zero]
  · have e : ∀ n, dotI W (fun _ => 0) n = 0 := fun n => by
      induction n with
      | zero => rfl
      | succ n ih =>
        rw [dotI, ih]
        show (0 : Int) + W n * 0 = 0
        omega
    rw [e cnt, show ((0 : Int) : Rat) = 0 from rfl, Rat.zero_add]
    unfold wsOf rows0
    rw [List.map_map]
    rfl
  · obtain ⟨i, hi, rfl⟩ := List.mem_map.mp ha
    exact .inl (List.mem_range.mp hi)
  · unfold rows0
    rw [List.map_map]
    show (List.map (fun i => i) (List.range cnt)).Nodup
    rw [List.map_id']
    exact List.nodup_range
/-- how long the words get -/
def bestG (W : Nat → Int) (cnt : Nat) : Nat → Nat := mrun cnt cnt (rows0 W cnt) fun _ => 0
def wtF (p q c : Nat) (i : Nat) : Int := (p : Int) ^ i * (q : Int) ^ (c - 1 - i)
/-! reading rows off the heap -/
def natOf : V → Nat
  | .int i => i.toNat
  | _ => 0
def rowOf (H : Hp) : V → RowB
  | .ref t => match H t with
    | some (.tup [.int w, .int n, .ref L]) => match H L with
      | some (.lst xs) => ⟨w, n.toNat, xs.map natOf⟩
      | _ => ⟨0, 0, []⟩
    | _ => ⟨0, 0, []⟩
  | _ => ⟨0, 0, []⟩
def natsV (ms : List Nat) : List V := ms.map fun i => V.int (i : Nat)
def RowAt (F : Addr) (H : Hp) (t : Addr) (a : RowB) : Prop := ∃ L, L ≠ F ∧ H t = some (.tup [.int a.w, .int (a.n : Nat), .ref L]) ∧ H L = some (.lst (natsV a.ms))
theorem RowAt.of {F : Addr} {H : Hp} {t : Addr} {a : RowB} (h : RowAt F H t a) : rowOf H (.ref t) = a := by
  obtain ⟨L, _, h1, h2⟩ := h
  have e : (natsV a.ms).map natOf = a.ms := by
    unfold natsV
    rw [List.map_map]
    exact (List.map_congr_left fun i _ => show natOf (V.int (i : Nat)) = i from Int.toNat_natCast i).trans (List.map_id' _)
  simp only [rowOf, h1, h2, e, Int.toNat_natCast]
theorem RowAt.same {F : Addr} {H H' : Hp} {t : Addr} {a : RowB} (s : Same H H') (h : RowAt F H t a) : RowAt F H' t a := by
  obtain ⟨L, h0, h1, h2⟩ := h
  exact ⟨L, h0, s _ _ h1, s _ _ h2⟩
theorem RowAt.updF {F : Addr} {H : Hp} {t : Addr} {a : RowB} {l l' : List V} (e : H F = some (.lst l)) (h : RowAt F H t a) : RowAt F (upd H F (.lst l')) t a := by
  obtain ⟨L, h0, h1, h2⟩ := h
  exact ⟨L, h0, by rw [upd_ne (fun y => by rw [y, e] at h1; cases h1)]; exact h1, by rw [upd_ne h0]; exact h2⟩
theorem RowAt.other {F G : Addr} {H : Hp} {t : Addr} {a : RowB} (n : H G = none) (h : RowAt F H t a) : RowAt G H t a := by
  obtain ⟨L, h0, h1, h2⟩ := h
  exact ⟨L, fun z => (by rw [z, n] at h2; cases h2), h1, h2⟩
theorem dp_natsV {K : PySem.W.Frag} {H : Hp} : ∀ (ms : List Nat), DpAll K H (natsV ms) (ms.map fun i => PyData.int (i : Nat))
  | [] => .nil
  | m :: ms => .cons (.int _) (dp_natsV ms)
theorem RowAt.dp {K : PySem.W.Frag} {F : Addr} {H : Hp} {t : Addr} {a : RowB} (h : RowAt F H t a) : Dp K H (.ref t) (encRow a) := by
  obtain ⟨L, _, h1, h2⟩ := h
  exact .tup (.inl (.inl h1)) (.cons (.int _) (.cons (.int _) (.cons (.lst (.inl (.inl h2)) (dp_natsV _)) .nil)))
theorem enc_alike (a b : RowB) : PySem.W.alike (encRow a) (encRow b) = true := by
  have e : PySem.W.alikeAll (a.ms.map fun i => PyData.int (i : Nat)) (b.ms.map fun i => PyData.int (i : Nat)) = true := by
    generalize a.ms = l
    generalize b.ms = m
    induction l generalizing m with
    | nil => simp [PySem.W.alikeAll]
    | cons x l ih =>
      cases m with
      | nil => simp [PySem.W.alikeAll]
      | cons y m =>
        rw [List.map_cons, List.map_cons, PySem.W.alikeAll, ih m]
        simp [PySem.W.alike]
  unfold encRow
  simp only [PySem.W.alike, PySem.W.alikeAll, e, Bool.and_self]
theorem enc_depth (a : RowB) : (encRow a).depth ≤ 50 := by
  have e : ∀ l : List Nat, PyData.depthAll (l.map fun i => PyData.int (i : Nat)) = 0 := fun l => by
    induction l with
    | nil => simp [PyData.depthAll]
    | cons x l ih => rw [List.map_cons, PyData.depthAll, ih]; simp [PyData.depth]
  unfold encRow
  simp only [PyData.depth, PyData.depthAll, e]
  decide
/-- the sorted rows -/
theorem sort_rows {F : Addr} {H : Hp} {ps : List (Addr × RowB)} (h : ∀ p ∈ ps, RowAt F H p.1 p.2) (ha : ∀ p ∈ ps, ∀ r ∈ ps, p.2.n = r.2.n → p.2 = r.2) :
    (ps.map fun p => V.ref p.1).mergeSort (PySem.W.dataLe false fun v => encRow (rowOf H v)) = (ps.mergeSort fun a b => rowLe a.2 b.2).map (fun p => V.ref p.1) ∧ (ps.mergeSort fun a b => rowLe a.2 b.2).map (·.2) = (ps.map (·.2)).mergeSort rowLe := by
  constructor
  · refine (List.map_mergeSort fun a hm b hb => ?_).symm
    show rowLe a.2 b.2 = !PySem.W.dataLt (encRow (rowOf H (.ref b.1))) (encRow (rowOf H (.ref a.1)))
    rw [(h b hb).of, (h a hm).of, rowLt_data]
    exact fun _ e => ha a hm b hb e
  · exact List.map_mergeSort fun a _ b _ => rfl
section
variable {X : Cx}
/-- xs[i] for an op in place -/
def rIxP (K : PySem.W.Frag) : V → V → Hp → VK → Prop := fun x y H Q => ∃ (p : Addr) (xs : List V) (i : Nat) (z : V), x = .ref p ∧ y = .int (i : Nat) ∧ SqL K H p xs ∧ xs[i]? = some z ∧ Q z H
theorem pget_list (K : PySem.W.Frag) (hK : X.K = K := by rfl) : PGet X (rIxP K) := by
  subst hK
  intro pins s σ H x y v u Q I rx ry h
  obtain ⟨p, xs, i, z, rfl, rfl, hq, he, q⟩ := h
  cases rx
  obtain ⟨t, rfl⟩ := ry
  obtain ⟨its, r, pl, hz⟩ := I.list hq
  obtain ⟨w, ew, rw'⟩ := r.get he
  have hi := (List.getElem?_eq_some_iff.mp he).1
  have hsz := sizeLine_eq
  exact wpAny_getItem_list pl.isList (by omega) (by omega) (by rw [Int.toNat_natCast]; simpa using ew) ⟨z, H, I, rw', q⟩
end
/-- a comprehension over an enumerated list -/
theorem lc_enum {K : PySem.W.Frag} {a : Addr} {xs : List V} {g : TG} {tt : TT} {te : TE} {vs : List Nat} {σ : List (Option V)} {H1 : Hp} {D : Addr} {Qd : Hp → Prop} (Pv : Nat → Hp → Prop) (h0 : Pv 0 (upd H1 D (.lst []))) (hl : ∀ i H, i ≤ xs.length → Pv i H → SqL K H a xs)
    (hs : ∀ i x H T, xs[i]? = some x → Pv i H → H T = none → g (.ref T) (wipe σ vs) (upd H T (.tup [.int (i : Nat), x])) fun σ2 H2 => wipe σ2 vs = wipe σ vs ∧ tt σ2 H2 fun b H3 =>
      if b = true then te σ2 H3 fun y H4 => ∃ acc, H4 D = some (.lst acc) ∧ acc.length < sizeLine ∧ Pv (i + 1) (upd H4 D (.lst (acc ++ [y]))) else Pv (i + 1) H3) (hd : ∀ H, Pv xs.length H → Qd H) :
    ∃ W : Nat → Nat → Hp → Prop, (∃ m, W 0 m (upd H1 D (.lst []))) ∧ ∀ i m H, W i m H →
      ((Ite K a).stop i H ∧ Qd H) ∨ ((Ite K a).go i H ∧ ∃ Nx : Hp → Prop, (∀ H', Nx H' → ∃ m', m' < m ∧ W (i + 1) m' H') ∧ ∀ x H', (Ite K a).yld i H x H' → g x (wipe σ vs) H' fun σ2 H2 => wipe σ2 vs = wipe σ vs ∧ tt σ2 H2 fun b H3 =>
        if b = true then te σ2 H3 fun y H4 => ∃ acc, H4 D = some (.lst acc) ∧ acc.length < sizeLine ∧ Nx (upd H4 D (.lst (acc ++ [y]))) else Nx H3) := by
  refine ⟨fun i m H => m = xs.length - i ∧ i ≤ xs.length ∧ Pv i H, ⟨xs.length, by simp, Nat.zero_le _, h0⟩, ?_⟩
  rintro i m H ⟨rfl, hi, p⟩
  have q := hl i H hi p
  by_cases hlt : i < xs.length
  · refine .inr ⟨⟨xs, xs[i], q, by simp [hlt]⟩, Pv (i + 1), fun H' p' => ⟨xs.length - (i + 1), by omega, rfl, hlt, p'⟩, fun x H' y => ?_⟩
    obtain ⟨T, z, rfl, nT, rfl, y⟩ := y
    exact hs i z H T (y xs q) p nT
  · have e : i = xs.length := by omega
    subst e
    exact .inl ⟨⟨xs, q, Nat.le_refl _⟩, hd H p⟩
def natL (g : Nat → Nat) (c : Nat) : List V := (List.range c).map fun i => V.int (g i : Nat)
theorem natL_len (g : Nat → Nat) (c : Nat) : (natL g c).length = c := by unfold natL; rw [List.length_map, List.length_range]
theorem natL_get (g : Nat → Nat) {c k : Nat} (h : k < c) : (natL g c)[k]? = some (V.int (g k : Nat)) := by unfold natL; rw [List.getElem?_map, List.getElem?_range h]; rfl
theorem natL_set (g : Nat → Nat) {c k : Nat} (h : k < c) : (natL g c).set k (V.int ((g k : Int) + 1)) = natL (fun i => g i + [k].count i) c := by
  apply List.ext_getElem?
  intro i
  by_cases hi : i < c
  · rw [natL_get _ hi]
    by_cases e : i = k
    · subst e
      rw [List.getElem?_set_self (by rw [natL_len]; exact hi)]
      have : [i].count i = 1 := by simp
      rw [this, Int.natCast_add]
      rfl
    · rw [List.getElem?_set_ne (Ne.symm e), natL_get _ hi]
      have : [k].count i = 0 := List.count_eq_zero.mpr (by simp; omega)
      rw [this, Nat.add_zero]
  · rw [List.getElem?_eq_none (by rw [List.length_set, natL_len]; omega), List.getElem?_eq_none (by rw [natL_len]; omega)]
theorem bump_take {g : Nat → Nat} {ms : List Nat} {i k : Nat} (h : ms[i]? = some k) : (fun t => bump g (ms.take i) t + [k].count t) = bump g (ms.take (i + 1)) := by
  funext t
  unfold bump
  rw [take_more h, List.count_append, Nat.add_assoc]
theorem mrun_one (cnt f : Nat) (rows : List RowB) (g : Nat → Nat) (h : rows.length = 1) : mrun cnt f rows g = g := by
  cases f with
  | zero => rfl
  | succ f =>
    match rows, h with
    | [x], _ => rw [mrun, List.mergeSort_singleton]
theorem mrun_more {cnt f : Nat} {rows : List RowB} {g : Nat → Nat} {a b : RowB} {r : List RowB} (h : rows.mergeSort rowLe = a :: b :: r) : mrun cnt (f + 1) rows g = mrun cnt f (r ++ [⟨a.w + b.w, cnt + (r.length + 2), a.ms ++ b.ms⟩]) (bump g (a.ms ++ b.ms)) := by
  rw [mrun, h]
/-! what lengths cost -/
def prodZ (W : Nat → Int) : Nat → List Nat → List Int
  | _, [] => []
  | i, l :: r => W i * (l : Nat) :: prodZ W (i + 1) r
theorem prodZ_len (W : Nat → Int) : ∀ (i : Nat) (ls : List Nat), (prodZ W i ls).length = ls.length
  | _, [] => rfl
  | i, l :: r => by rw [prodZ, List.length_cons, prodZ_len W (i + 1) r, List.length_cons]
theorem prodZ_get (W : Nat → Int) : ∀ (ls : List Nat) (i j l : Nat), ls[j]? = some l → (prodZ W i ls)[j]? = some (W (i + j) * (l : Nat))
  | [], _, _, _, h => by simp at h
  | x :: r, i, 0, l, h => by
    cases Option.some.inj (show some x = some l from h)
    rfl
  | x :: r, i, j + 1, l, h => by
    show (prodZ W (i + 1) r)[j]? = _
    rw [prodZ_get W r (i + 1) j l (by simpa using h), show i + 1 + j = i + (j + 1) by omega]
def sumW (W : Nat → Int) (n : Nat) : Int := ((List.range n).map W).sum
def castW (W : Nat → Int) (i n : Nat) : List Rat := (List.range' i n).map fun k => (W k : Rat)
theorem dot_cast (W : Nat → Int) : ∀ (ls : List Nat) (i : Nat), dotR (castW W i ls.length) ls = (((prodZ W i ls).sum : Int) : Rat)
  | [], _ => rfl
  | l :: r, i => by
    unfold castW
    rw [List.length_cons, List.range'_succ, List.map_cons, prodZ, List.sum_cons, Rat.intCast_add, Rat.intCast_mul, ← dot_cast W r (i + 1)]
    rfl
theorem castW0 (W : Nat → Int) (n : Nat) : castW W 0 n = (List.range n).map fun i => (W i : Rat) := by
  unfold castW
  rw [List.range_eq_range']
theorem prod_range (W : Nat → Int) (g : Nat → Nat) : ∀ (n i : Nat), (prodZ W i ((List.range' i n).map g)).sum = ((List.range' i n).map fun k => W k * (g k : Nat)).sum
  | 0, _ => rfl
  | n + 1, i => by
    rw [List.range'_succ, List.map_cons, prodZ, List.sum_cons, List.map_cons, List.sum_cons, prod_range W g n (i + 1)]
theorem dotI_sum (W : Nat → Int) (g : Nat → Nat) : ∀ n, dotI W g n = ((List.range n).map fun k => W k * (g k : Nat)).sum
  | 0 => rfl
  | n + 1 => by rw [dotI, dotI_sum W g n, List.range_succ, List.map_append, List.sum_append, List.map_cons, List.map_nil, List.sum_cons, List.sum_nil, Int.add_zero]
/-! rising lengths at falling weights -/
def nins (x : Nat) : List Nat → List Nat
  | [] => [x]
  | y :: r => if x ≤ y then x :: y :: r else y :: nins x r
def sortN : List Nat → List Nat
  | [] => []
  | x :: r => nins x (sortN r)
theorem nins_perm (x : Nat) : ∀ l, (nins x l).Perm (x :: l)
  | [] => .refl _
  | y :: r => by
    rw [nins]
    split
    · exact .refl _
    · exact ((nins_perm x r).cons y).trans (.swap x y r)
theorem sortN_perm : ∀ l, (sortN l).Perm l
  | [] => .refl _
  | x :: r => (nins_perm x (sortN r)).trans ((sortN_perm r).cons x)
theorem nins_srt (x : Nat) : ∀ l : List Nat, l.Pairwise (· ≤ ·) → (nins x l).Pairwise (· ≤ ·)
  | [], _ => List.pairwise_singleton _ _
  | y :: r, h => by
    obtain ⟨h1, h2⟩ := List.pairwise_cons.mp h
    rw [nins]
    split
    · rename_i c
      refine List.pairwise_cons.mpr ⟨fun z hz => ?_, h⟩
      rcases List.mem_cons.mp hz with e | hz
      · omega
      · exact Nat.le_trans c (h1 z hz)
    · rename_i c
      refine List.pairwise_cons.mpr ⟨fun z hz => ?_, nins_srt x r h2⟩
      rcases List.mem_cons.mp ((nins_perm x r).mem_iff.mp hz) with e | hz
      · omega
      · exact h1 z hz
theorem sortN_srt : ∀ l, (sortN l).Pairwise (· ≤ ·)
  | [] => List.Pairwise.nil
  | x :: r => nins_srt x _ (sortN_srt r)
theorem nat_uniq : ∀ {a b : List Nat}, a.Pairwise (· ≤ ·) → b.Pairwise (· ≤ ·) → a.Perm b → a = b
  | [], b, _, _, h => (List.Perm.eq_nil h.symm).symm
  | x :: a, [], _, _, h => absurd h.length_eq (by simp)
  | x :: a, y :: b, ha, hb, h => by
    obtain ⟨a1, a2⟩ := List.pairwise_cons.mp ha
    obtain ⟨b1, b2⟩ := List.pairwise_cons.mp hb
    have e : x = y := by
      refine Nat.le_antisymm ?_ ?_
      · rcases List.mem_cons.mp (h.mem_iff.mpr List.mem_cons_self) with e | hy
        · omega
        · exact a1 y hy
      · rcases List.mem_cons.mp (h.mem_iff.mp List.mem_cons_self) with e | hx
        · omega
        · exact b1 x hx
    subst e
    rw [nat_uniq a2 b2 h.cons_inv]
theorem prod_cons (W : Nat → Int) (i l : Nat) (r : List Nat) : (prodZ W i (l :: r)).sum = W i * (l : Nat) + (prodZ W (i + 1) r).sum := by
  rw [prodZ, List.sum_cons]
theorem prod_nins {W : Nat → Int} (x : Nat) : ∀ (l : List Nat) (i : Nat), (∀ k, i ≤ k → k < i + l.length → W (k + 1) ≤ W k) → (prodZ W i (nins x l)).sum ≤ (prodZ W i (x :: l)).sum
  | [], _, _ => Int.le_refl _
  | y :: r, i, h => by
    rw [nins]
    split
    · exact Int.le_refl _
    · rename_i c
      have ih := prod_nins (W := W) x r (i + 1) fun k h1 h2 => h k (by omega) (by rw [List.length_cons]; omega)
      rw [prod_cons] at ih ⊢
      rw [prod_cons, prod_cons]
      have hw := h i (Nat.le_refl _) (by rw [List.length_cons]; omega)
      obtain ⟨d, rfl⟩ : ∃ d, x = y + d := ⟨x - y, by omega⟩
      rw [Int.natCast_add] at ih ⊢
      have h1 : W (i + 1) * (d : Int) ≤ W i * (d : Int) := Int.mul_le_mul_of_nonneg_right hw (Int.natCast_nonneg d)
      rw [Int.mul_add] at ih ⊢
      generalize W i * (d : Int) = A at *
      generalize W (i + 1) * (d : Int) = B at *
      generalize W i * (y : Int) = C at *
      generalize W (i + 1) * (y : Int) = D at *
      generalize (prodZ W (i + 1 + 1) r).sum = E at *
      generalize (prodZ W (i + 1) (nins (y + d) r)).sum = G at *
      omega
theorem prod_sortN {W : Nat → Int} : ∀ (l : List Nat) (i : Nat), (∀ k, i ≤ k → k + 1 < i + l.length → W (k + 1) ≤ W k) → (prodZ W i (sortN l)).sum ≤ (prodZ W i l).sum
  | [], _, _ => Int.le_refl _
  | x :: r, i, h => by
    have h1 := prod_nins (W := W) x (sortN r) i fun k h1 h2 => h k h1 (by rw [List.length_cons]; rw [(sortN_perm r).length_eq] at h2; omega)
    have ih := prod_sortN (W := W) r (i + 1) fun k h1 h2 => h k (by omega) (by rw [List.length_cons]; omega)
    rw [prod_cons] at h1 ⊢
    show (prodZ W i (nins x (sortN r))).sum ≤ _
    omega
theorem wt_fall {p q c : Nat} (h : p < q) {k : Nat} (hk : k + 1 < c) : wtF p q c (k + 1) ≤ wtF p q c k := by
  unfold wtF
  rw [show c - 1 - k = (c - 1 - (k + 1)) + 1 by omega, Int.pow_succ, Int.pow_succ]
  have h1 : (0 : Int) ≤ (p : Int) ^ k := Int.pow_nonneg (by omega)
  have h2 : (0 : Int) ≤ (q : Int) ^ (c - 1 - (k + 1)) := Int.pow_nonneg (by omega)
  have h3 := Int.mul_nonneg h1 h2
  have h4 : (p : Int) ^ k * (q : Int) ^ (c - 1 - (k + 1)) * (p : Int) ≤ (p : Int) ^ k * (q : Int) ^ (c - 1 - (k + 1)) * (q : Int) := Int.mul_le_mul_of_nonneg_left (by omega) h3
  generalize (p : Int) ^ k = a at *
  generalize (q : Int) ^ (c - 1 - (k + 1)) = b at *
  have e1 : a * (p : Int) * b = a * b * (p : Int) := by grind
  have e2 : a * (b * (q : Int)) = a * b * (q : Int) := by grind
  rw [e1, e2]
  exact h4
theorem wt_pos {p q c : Nat} (hp : 1 ≤ p) (h : p < q) (i : Nat) : 0 < wtF p q c i := Int.mul_pos (Int.pow_pos (by omega)) (Int.pow_pos (by omega))
/-- what the best lengths are worth -/
structure BestF (p q c : Nat) (ls : List Nat) : Prop where
  len : ls.length = c
  b39 : ∀ l ∈ ls, l ≤ 39
  whole : krf 60 ls = 2 ^ 60
  cost : (((prodZ (wtF p q c) 0 ls).sum : Int) : Rat) = mgR ((List.range c).map fun i => (wtF p q c i : Rat))
theorem best_is {p q c : Nat} (hp : 1 ≤ p) (hpq : p < q) (hc1 : 1 ≤ c) (hc : c ≤ 40) {ls : List Nat} (h : ls.Perm ((List.range c).map (bestG (wtF p q c) c))) (hs : ls.Pairwise (· ≤ ·)) : BestF p q c ls := by
  obtain ⟨rows, hr1, hinv⟩ := mrun_inv (W := wtF p q c) (cnt := c) (K := 60) (by omega) c 0 (rows0 (wtF p q c) c) (fun _ => 0) (minv0 _ _ _) (by unfold rows0; rw [List.length_map, List.length_range]; exact hc1) (by unfold rows0; rw [List.length_map, List.length_range]; omega)
  have eg : mrun c c (rows0 (wtF p q c) c) (fun _ => 0) = bestG (wtF p q c) c := rfl
  rw [eg] at hinv
  obtain ⟨x, rfl⟩ : ∃ x, rows = [x] := by
    match rows, hr1 with
    | [x], _ => exact ⟨x, rfl⟩
  have hcost := hinv.cost
  rw [show mgR (wsOf [x]) = 0 from rfl, Rat.add_zero] at hcost
  have hkr := hinv.kr x List.mem_cons_self
  have hpart := hinv.part
  rw [show ([x] : List RowB).flatMap (·.ms) = x.ms ++ [] from rfl, List.append_nil] at hpart
  have hk : krf 60 ls = 2 ^ 60 := by
    rw [krf_perm h]
    unfold krf
    rw [List.map_map]
    unfold krfF at hkr
    rw [← hkr]
    exact ((hpart.symm.map _).sum_nat)
  have hb : ∀ l ∈ ls, l ≤ 39 := fun l hl => by
    obtain ⟨i, _, rfl⟩ := List.mem_map.mp (h.mem_iff.mp hl)
    have := hinv.low i
    omega
  have hlen : ls.length = c := by rw [h.length_eq, List.length_map, List.length_range]
  refine ⟨hlen, hb, hk, ?_⟩
  refine Rat.le_antisymm ?_ ?_
  · have e1 : ls = sortN ((List.range c).map (bestG (wtF p q c) c)) := nat_uniq hs (sortN_srt _) (h.trans (sortN_perm _).symm)
    have h1 := prod_sortN (W := wtF p q c) ((List.range c).map (bestG (wtF p q c) c)) 0 fun k _ hk => wt_fall hpq (by rw [List.length_map, List.length_range] at hk; omega)
    rw [← e1] at h1
    rw [← hcost]
    refine Rat.intCast_le_intCast.mpr (Int.le_trans h1 (Int.le_of_eq ?_))
    rw [dotI_sum, List.range_eq_range', prod_range]
  · have h2 := huff (K := 60) c (castW (wtF p q c) 0 c) ls (by unfold castW; rw [List.length_map, List.length_range']) hlen (fun w hw => by
      obtain ⟨i, _, rfl⟩ := List.mem_map.mp hw
      exact Rat.intCast_nonneg.mpr (Int.le_of_lt (wt_pos hp hpq i))) (fun l hl => by have := hb l hl; omega) (by rw [hk]; exact Nat.le_refl _)
    rw [castW0] at h2
    refine Rat.le_trans h2 ?_
    have e2 := dot_cast (wtF p q c) ls 0
    rw [hlen, castW0] at e2
    rw [e2]
    exact Rat.le_refl
/-- no book costs less -/
theorem best_least {p q c : Nat} (hp : 1 ≤ p) (hpq : p < q) {ls ms : List Nat} (h : BestF p q c ls) (hl : ms.length = c) (h60 : ∀ l ∈ ms, l ≤ 60) (hk : krf 60 ms ≤ 2 ^ 60) : (prodZ (wtF p q c) 0 ls).sum ≤ (prodZ (wtF p q c) 0 ms).sum := by
  refine Rat.intCast_le_intCast.mp ?_
  rw [h.cost]
  have h2 := huff (K := 60) c (castW (wtF p q c) 0 c) ms (by unfold castW; rw [List.length_map, List.length_range']) hl (fun w hw => by
    obtain ⟨i, _, rfl⟩ := List.mem_map.mp hw
    exact Rat.intCast_nonneg.mpr (Int.le_of_lt (wt_pos hp hpq i))) h60 hk
  have e2 := dot_cast (wtF p q c) ms 0
  rw [hl, castW0] at e2
  rw [castW0, e2] at h2
  exact h2
end St
namespace St
open PySem PySem.Spec PyProof.Rows L2
/-! ### zip of a list and a tuple -/
/-- the list at a and the tuple at b as they stand at each turn, the items in new pairs -/
def ItzM (K : PySem.W.Frag) (a b : Addr) : It :=
  ⟨fun i H => ∃ (xs ys : List V) (x y : V), SqL K H a xs ∧ SqT K H b ys ∧ xs[i]? = some x ∧ ys[i]? = some y,
    fun i H v H' => ∃ T x y, v = .ref T ∧ H T = none ∧ H' = upd H T (.tup [x, y]) ∧ (∀ xs, SqL K H a xs → xs[i]? = some x) ∧ ∀ ys, SqT K H b ys → ys[i]? = some y,
    fun i H => ∃ xs ys : List V, SqL K H a xs ∧ SqT K H b ys ∧ xs.length = i ∧ ys.length = i⟩
theorem turn_zipM {P : Program} {w : World} {K : PySem.W.Frag} {elts : List Expr} {kk : Nat} {tpos : Pos} {a b z TI TO i1 i2 : Addr} (S : PySem.ZipSep2 z TI TO i1 i2 [i1, a] [i2, b]) (na : a ≠ i1) (nb : b ≠ i2) :
    Turn P w K (.Tuple elts kk tpos) (ItzM K a b) [z, TI, TO, i1, i2] z (fun i h => IsZip h z TI TO .none ∧ PySem.IsTupOf2 h TI (.ref i1) (.ref i2) ∧ (∃ x y, PySem.IsTupOf2 h TO x y) ∧ h.IsListIter i1 a i ∧ h.IsTupleIter i2 b i) where
  mem := by simp
  obj := fun i h st c hc => by
    obtain ⟨hz, hTI, ⟨x, y, hTO⟩, ⟨o1, e1, _, d1⟩, ⟨o2, e2, _, d2⟩⟩ := st
    have e' : c = z ∨ c = TI ∨ c = TO ∨ c = i1 ∨ c = i2 := by simpa using hc
    rcases e' with q | q | q | q | q
    · rw [q]; exact ⟨_, hz, fun v q => nomatch q⟩
    · rw [q]; exact ⟨_, hTI, fun v q => nomatch q⟩
    · rw [q]; exact ⟨_, hTO, fun v q => nomatch q⟩
    · rw [q]; exact ⟨o1, e1, fun v q => by rw [d1] at q; cases q⟩
    · rw [q]; exact ⟨o2, e2, fun v q => by rw [d2] at q; cases q⟩
  keep := fun i h h' st k => by
    obtain ⟨hz, hTI, ⟨x, y, hTO⟩, h1, h2⟩ := st
    exact ⟨k z (by simp) _ hz, k TI (by simp) _ hTI, ⟨x, y, k TO (by simp) _ hTO⟩, h1.at fun o q => k i1 (by simp) o q, h2.at fun o q => k i2 (by simp) o q⟩
  item := by
    intro X hP hw hK hc i pins s σ H E I hf st hg
    subst hP hw hK
    obtain ⟨hz, hTI, ⟨x0, y0, hTO⟩, h1, h2⟩ := st
    obtain ⟨xs, ys, x, y, hqx, hqy, hx, hy⟩ := hg
    obtain ⟨its, rv, p, _⟩ := I.list hqx
    obtain ⟨its2, rv2, p2, _⟩ := I.tuple hqy
    obtain ⟨u, hu, ru⟩ := rv.get hx
    obtain ⟨u2, hu2, ru2⟩ := rv2.get hy
    have hzl : z < s.heap.objs.size := Heap.lt_size hz
    have hlt1 : i < its.toArray.size := by simpa using (List.getElem?_eq_some_iff.mp hu).1
    have hlt2 : i < its2.toArray.size := by simpa using (List.getElem?_eq_some_iff.mp hu2).1
    refine PySem.wpAny_pyNext_zipD2_item S (Draws.list (show X.A.in1.handled = none from I.ok.hd hc) i1 a na its.toArray) (PySem.Draws.tuple (show X.A.in1.handled = none from I.ok.hd hc) i2 b nb its2.toArray) hz hTI hTO ⟨h1, p.isList⟩ ⟨h2, p2⟩ hlt1 hlt2 fun x1 x2 h' tk q1 q2 z' TO' t1 t2 hT hsz hk => ?_
    have ex1 : x1 = u := by
      have : its[i]? = some x1 := by simpa using q1
      rw [hu] at this
      exact (Option.some.inj this).symm
    have ex2 : x2 = u2 := by
      have : its2[i]? = some x2 := by simpa using q2
      rw [hu2] at this
      exact (Option.some.inj this).symm
    subst ex1 ex2
    refine ⟨_, rfl, wpAny_letOwnedTupleGo_zip (s := { s with heap := h', toks := tk }) z' fun h'' z'' sb => ?_⟩
    have hT2 : h''.get? s.heap.objs.size = some { cls := .type "tuple", data := .seq #[x1, x2] } := (sb.2 _ (Nat.ne_of_gt hzl)).trans hT
    have new : ObjOk X.prog X.w (upd H s.heap.objs.size (.tup [x, y])) h'' s.heap.objs.size (.tup [x, y]) :=
      ⟨by show 2 ≤ sizeLine; decide, [x1, x2], .cons ru (.cons ru2 .nil), ⟨_, hT2, rfl, _, rfl⟩⟩
    have I1 : Inv X pins σ (upd H s.heap.objs.size (.tup [x, y])) { s with heap := h'', toks := tk } :=
      I.turnedNew (ch := [z, TI, TO, i1, i2]) (fun c o hb q => (sb.2 c (fun q' => hb (by simp [q']))).trans (hk c o (fun q' => hb (by simp [q'])) (fun q' => hb (by simp [q'])) (fun q' => hb (by simp [q'])) (fun q' => hb (by simp [q'])) q)) hf (Nat.le_refl _) new
    refine ⟨.ref s.heap.objs.size, _, I1, rfl, ⟨_, x, y, rfl, I.hok.fresh (Nat.le_refl _), rfl, fun l hl => by rw [I.list_inj hl hqx]; exact hx, fun l hl => by rw [I.tuple_inj hl hqy]; exact hy⟩, ⟨z'', ?_, ⟨x1, x2, ?_⟩, ?_, ?_⟩, fun c hcm => ?_⟩
    · exact (sb.2 _ S.TIz).trans (hk _ _ S.TIz S.TITO S.TIi1 S.TIi2 hTI)
    · exact (sb.2 _ S.TOz).trans TO'
    · exact t1.1.at fun o q => (sb.2 _ (Ne.symm S.zi1)).trans q
    · exact t2.1.at fun o q => (sb.2 _ (Ne.symm S.zi2)).trans q
    · have hlt : c < s.heap.objs.size := by
        have e' : c = z ∨ c = TI ∨ c = TO ∨ c = i1 ∨ c = i2 := by simpa using hcm
        rcases e' with q | q | q | q | q
        · rw [q]; exact hzl
        · rw [q]; exact Heap.lt_size hTI
        · rw [q]; exact Heap.lt_size hTO
        · rw [q]; obtain ⟨_, e1, _⟩ := h1; exact Heap.lt_size e1
        · rw [q]; obtain ⟨_, e2, _⟩ := h2; exact Heap.lt_size e2
      rw [upd_ne (Nat.ne_of_lt hlt)]
      exact (hf c hcm).1
  done := by
    intro X hP hw hK hc i pins s σ H E I hf st hg
    subst hP hw hK
    obtain ⟨hz, hTI, ⟨x0, y0, hTO⟩, h1, h2⟩ := st
    obtain ⟨xs, ys, hqx, hqy, hend1, hend2⟩ := hg
    obtain ⟨its, rv, p, _⟩ := I.list hqx
    obtain ⟨its2, rv2, p2, _⟩ := I.tuple hqy
    have l1 := rv.length
    have l2 := rv2.length
    have e1 : its.toArray.size = i := by simp; omega
    have e2 : its2.toArray.size = i := by simp; omega
    exact PySem.wpAny_pyNext_zipD2_end S (Draws.list (show X.A.in1.handled = none from I.ok.hd hc) i1 a na its.toArray) (PySem.Draws.tuple (show X.A.in1.handled = none from I.ok.hd hc) i2 b nb its2.toArray) hz hTI hTO ⟨h1, p.isList⟩ ⟨h2, p2⟩ (by omega) (by omega) (.inl e1.symm) fun h' tk hk => ⟨rfl, I.turnedL (ch := [z, TI, TO, i1, i2]) (fun c o hb q =>
      hk c o (fun q' => hb (by simp [q'])) (fun q' => hb (by simp [q'])) (fun q' => hb (by simp [q'])) (fun q' => hb (by simp [q'])) q) hf⟩
  self := fun A i s Q E st h => wpAny_pyIter_zip st.1 h
def iZipM (K : PySem.W.Frag) (ta : TA) : TI := fun σ H R => ta σ H fun vs H1 => ∃ a b xs ys, vs = [.ref a, .ref b] ∧ SqL K H1 a xs ∧ SqT K H1 b ys ∧ R (ItzM K a b) H1
theorem pi_zipM {X : Cx} {e e2 : Expr} {ta : TA} {p pos tpos : Pos} {elts : List Expr} {kk : Nat} (hg : Gl X "zip") (hm : X.mg "zip" = none) (ha : PA X [e, e2] ta)
    (hs : starEach [e, e2] X.env = (false, eval e X.env) :: starEach [e2] X.env := by rfl) (hpl : (backTo pos (starEach [e2] X.env)).any (·.1) = false := by rfl) :
    PI X (.Tuple elts kk tpos) (.Call (.Name "zip" p) [e, e2] [] pos) (iZipM X.K ta) := by
  refine ⟨fun pins s σ H R I h => ?_⟩
  refine Call_ (ld_blt I hg hm PyProof.Rows.boot_zip (PyProof.Rows.callWith_type1 (thn (ha.run pos pins s σ H _ I h) fun us s1 ⟨vs, H1, I1, r1, q1⟩ => ?_) hs hpl))
  obtain ⟨a, b, xs, ys, ex, hqx, hqy, q⟩ := q1
  subst ex
  cases r1 with
  | cons r rr =>
    cases rr with
    | cons r' rr =>
      cases rr
      cases r
      cases r'
      have fresh5 : ∀ c, c ∈ [s1.heap.objs.size + 4, s1.heap.objs.size + 2, s1.heap.objs.size + 3, s1.heap.objs.size, s1.heap.objs.size + 1] → FpOk X pins H1 c := fun c hcm => by
        have e' : c = s1.heap.objs.size + 4 ∨ c = s1.heap.objs.size + 2 ∨ c = s1.heap.objs.size + 3 ∨ c = s1.heap.objs.size ∨ c = s1.heap.objs.size + 1 := by simpa using hcm
        have hle : s1.heap.objs.size ≤ c := by
          rcases e' with z | z | z | z | z
          · rw [z]; exact Nat.le_add_right _ _
          · rw [z]; exact Nat.le_add_right _ _
          · rw [z]; exact Nat.le_add_right _ _
          · rw [z]; exact Nat.le_refl _
          · rw [z]; exact Nat.le_add_right _ _
        exact I1.fpOk hle (I1.hok.fresh hle)
      obtain ⟨its, rv, p1, _⟩ := I1.list hqx
      obtain ⟨its2, rv2, p2, _⟩ := I1.tuple hqy
      have la : a < s1.heap.objs.size := p1.lt
      have lb : b < s1.heap.objs.size := by
        obtain ⟨_, q, _⟩ := id p2
        exact Heap.lt_size q
      refine PySem.zip_begins2 (PySem.begins_list a its.toArray) (PySem.begins_tuple b its2.toArray) p1.isList p2 fun h' hz hTI hTO h1 h2 hsz hk => wpAny_pyIter_zip hz ?_
      have I2 : Inv X pins σ H1 { s1 with heap := h' } := I1.kept (t' := s1.toks) hk
      refine ⟨s1.heap.objs.size + 4, [s1.heap.objs.size + 4, s1.heap.objs.size + 2, s1.heap.objs.size + 3, s1.heap.objs.size, s1.heap.objs.size + 1], _, _, H1, rfl, I2, turn_zipM (PySem.zip_sep2 (N := s1.heap.objs.size) (fp1 := [a]) (fp2 := [b]) (fun c hc => by rw [List.mem_singleton.mp hc]; exact la) (fun c hc => by rw [List.mem_singleton.mp hc]; exact lb)) (Nat.ne_of_lt la) (Nat.ne_of_lt (Nat.lt_succ_of_lt lb)), ⟨hz, hTI, ⟨_, _, hTO⟩, ⟨_, h1, rfl, rfl⟩, ⟨_, h2, rfl, rfl⟩⟩, fresh5, q⟩
/-- a comprehension over zip of a list and a tuple of one length -/
theorem lc_zipM {K : PySem.W.Frag} {a b : Addr} {xs ys : List V} {g : TG} {tt : TT} {te : TE} {vs : List Nat} {σ : List (Option V)} {H1 : Hp} {D : Addr} {Qd : Hp → Prop} (hlen : xs.length = ys.length) (Pv : Nat → Hp → Prop) (h0 : Pv 0 (upd H1 D (.lst []))) (hl : ∀ i H, i ≤ xs.length → Pv i H → SqL K H a xs ∧ SqT K H b ys)
    (hs : ∀ (i : Nat) (x y : V) H T, xs[i]? = some x → ys[i]? = some y → Pv i H → H T = none → g (.ref T) (wipe σ vs) (upd H T (.tup [x, y])) fun σ2 H2 => wipe σ2 vs = wipe σ vs ∧ tt σ2 H2 fun b H3 =>
      if b = true then te σ2 H3 fun y H4 => ∃ acc, H4 D = some (.lst acc) ∧ acc.length < sizeLine ∧ Pv (i + 1) (upd H4 D (.lst (acc ++ [y]))) else Pv (i + 1) H3) (hd : ∀ H, Pv xs.length H → Qd H) :
    ∃ W : Nat → Nat → Hp → Prop, (∃ m, W 0 m (upd H1 D (.lst []))) ∧ ∀ i m H, W i m H →
      ((ItzM K a b).stop i H ∧ Qd H) ∨ ((ItzM K a b).go i H ∧ ∃ Nx : Hp → Prop, (∀ H', Nx H' → ∃ m', m' < m ∧ W (i + 1) m' H') ∧ ∀ x H', (ItzM K a b).yld i H x H' → g x (wipe σ vs) H' fun σ2 H2 => wipe σ2 vs = wipe σ vs ∧ tt σ2 H2 fun b H3 =>
        if b = true then te σ2 H3 fun y H4 => ∃ acc, H4 D = some (.lst acc) ∧ acc.length < sizeLine ∧ Nx (upd H4 D (.lst (acc ++ [y]))) else Nx H3) := by
  refine ⟨fun i m H => m = xs.length - i ∧ i ≤ xs.length ∧ Pv i H, ⟨xs.length, by simp, Nat.zero_le _, h0⟩, ?_⟩
  rintro i m H ⟨rfl, hi, p⟩
  obtain ⟨q, q2⟩ := hl i H hi p
  by_cases hlt : i < xs.length
  · have hlt2 : i < ys.length := by omega
    refine .inr ⟨⟨xs, ys, xs[i], ys[i], q, q2, by simp [hlt], by simp [hlt2]⟩, Pv (i + 1), fun H' p' => ⟨xs.length - (i + 1), by omega, rfl, hlt, p'⟩, fun x H' y => ?_⟩
    obtain ⟨T, x', y', rfl, nT, rfl, f1, f2⟩ := y
    exact hs i x' y' H T (f1 xs q) (f2 ys q2) p nT
  · have e : i = xs.length := by omega
    subst e
    exact .inl ⟨⟨xs, ys, q, q2, rfl, hlen.symm⟩, hd H p⟩
end St
namespace St
open PySem PySem.Spec PyProof.Rows L2
/-! ### the cut source -/
structure BestC (x : Rat) (s : Nat) : Prop where
  x0 : 0 < x
  x1 : x < 1
  s1 : 1 ≤ s
  fits : x ^ s + x ^ (s + 1) ≤ 1
  low : s = 1 ∨ 1 < x ^ (s - 1) + x ^ s
def ringR (x : Rat) (s i : Nat) : Rat := x ^ i / (1 - x ^ s)
def redL (x : Rat) (s c : Nat) : List Rat := (List.range c).map (fun i => x ^ i) ++ (List.range' c s).map (fun i => ringR x s i)
theorem pow_anti {x : Rat} (h0 : 0 < x) (h1 : x < 1) {i j : Nat} (h : i ≤ j) : x ^ j ≤ x ^ i := by
  obtain ⟨d, rfl⟩ : ∃ d, j = i + d := ⟨j - i, by omega⟩
  clear h
  induction d with
  | zero => exact Rat.le_refl
  | succ d ih =>
    refine Rat.le_trans ?_ ih
    rw [← Nat.add_assoc, Rat.pow_succ]
    have hp : 0 < x ^ (i + d) := Rat.pow_pos h0
    have := Rat.mul_le_mul_of_nonneg_left (Rat.le_of_lt h1) (Rat.le_of_lt hp)
    rw [Rat.mul_one] at this
    exact this
theorem pow_plus (x : Rat) (i j : Nat) : x ^ (i + j) = x ^ i * x ^ j := by
  induction j with
  | zero => rw [Nat.add_zero, Rat.pow_zero, Rat.mul_one]
  | succ j ih => rw [← Nat.add_assoc, Rat.pow_succ, ih, Rat.pow_succ, Rat.mul_assoc]
section
variable {x : Rat} {s : Nat}
theorem BestC.left (B : BestC x s) : 0 < 1 - x ^ s := (Rat.lt_iff_sub_pos _ _).mp (pow_lt_one B.x0 B.x1 B.s1)
theorem ring_pos (B : BestC x s) (i : Nat) : 0 < ringR x s i := by
  unfold ringR
  exact (Rat.lt_div_iff B.left).mpr (by rw [Rat.zero_mul]; exact Rat.pow_pos B.x0)
theorem ring_anti (B : BestC x s) {i j : Nat} (h : i ≤ j) : ringR x s j ≤ ringR x s i := by
  unfold ringR
  refine Rat.not_lt.mp fun c => ?_
  have h1 := (Rat.lt_div_iff B.left).mp c
  have e : x ^ i / (1 - x ^ s) * (1 - x ^ s) = x ^ i := Rat.div_mul_cancel (Rat.ne_of_gt B.left)
  rw [e] at h1
  exact Rat.not_lt.mpr (pow_anti B.x0 B.x1 h) h1
theorem le_ring (B : BestC x s) {y : Rat} {i : Nat} (h : y * (1 - x ^ s) ≤ x ^ i) : y ≤ ringR x s i := by
  unfold ringR
  refine Rat.not_lt.mp fun c => ?_
  have := (Rat.div_lt_iff B.left).mp c
  exact Rat.not_lt.mpr h this
theorem ring_le (B : BestC x s) {y : Rat} {i : Nat} (h : x ^ i ≤ y * (1 - x ^ s)) : ringR x s i ≤ y := by
  unfold ringR
  refine Rat.not_lt.mp fun c => ?_
  have := (Rat.lt_div_iff B.left).mp c
  exact Rat.not_lt.mpr h this
theorem red_step (B : BestC x s) (c : Nat) : mgR (redL x s (c + 1)) = ringR x s c + mgR (redL x s c) := by
  obtain ⟨t, rfl⟩ : ∃ t, s = t + 1 := ⟨s - 1, by have := B.s1; omega⟩
  have L := B.left
  have hx0 := B.x0
  have hx1 := B.x1
  have e1 : redL x (t + 1) (c + 1) = ((List.range c).map (fun i => x ^ i) ++ [x ^ c]) ++ ((List.range' (c + 1) t).map (fun i => ringR x (t + 1) i) ++ [ringR x (t + 1) (c + 1 + t)]) := by
    unfold redL
    rw [List.range_succ, List.map_append, List.range'_1_concat, List.map_append]
    rfl
  have e2 : redL x (t + 1) c = (List.range c).map (fun i => x ^ i) ++ (ringR x (t + 1) c :: (List.range' (c + 1) t).map (fun i => ringR x (t + 1) i)) := by
    unfold redL
    rw [List.range'_succ]
    rfl
  rw [e1, e2]
  generalize hA : (List.range c).map (fun i => x ^ i) = A
  generalize hR : (List.range' (c + 1) t).map (fun i => ringR x (t + 1) i) = R
  have memA : ∀ y ∈ A, ∃ i, i < c ∧ y = x ^ i := fun y hy => by
    rw [← hA] at hy
    obtain ⟨i, hi, rfl⟩ := List.mem_map.mp hy
    exact ⟨i, List.mem_range.mp hi, rfl⟩
  have memR : ∀ y ∈ R, ∃ i, c + 1 ≤ i ∧ i < c + 1 + t ∧ y = ringR x (t + 1) i := fun y hy => by
    rw [← hR] at hy
    obtain ⟨i, hi, rfl⟩ := List.mem_map.mp hy
    obtain ⟨h1, h2⟩ := List.mem_range'_1.mp hi
    exact ⟨i, h1, h2, rfl⟩
  have p1 : ((A ++ [x ^ c]) ++ (R ++ [ringR x (t + 1) (c + 1 + t)])).Perm (x ^ c :: ringR x (t + 1) (c + 1 + t) :: (A ++ R)) := by
    have q1 : (A ++ [x ^ c]).Perm (x ^ c :: A) := List.perm_append_singleton _ _
    have q2 : (R ++ [ringR x (t + 1) (c + 1 + t)]).Perm (ringR x (t + 1) (c + 1 + t) :: R) := List.perm_append_singleton _ _
    refine (q1.append q2).trans ?_
    rw [List.cons_append]
    exact (List.perm_middle).cons _
  have p2 : (A ++ (ringR x (t + 1) c :: R)).Perm (ringR x (t + 1) c :: (A ++ R)) := List.perm_middle
  have hsum : x ^ c + ringR x (t + 1) (c + 1 + t) = ringR x (t + 1) c := by
    unfold ringR
    have e3 : x ^ (c + 1 + t) = x ^ c * x ^ (t + 1) := by rw [show c + 1 + t = c + (t + 1) by omega, pow_plus]
    have hne := Rat.ne_of_gt L
    rw [e3]
    generalize x ^ c = u at *
    generalize x ^ (t + 1) = v at *
    grind
  rw [mg_step p1 ?_ ?_, hsum, mg_perm p2]
  · intro y hy
    rcases List.mem_append.mp hy with hy | hy
    · obtain ⟨i, hi, rfl⟩ := memA y hy
      exact pow_anti hx0 hx1 (by omega)
    · obtain ⟨i, h1, h2, rfl⟩ := memR y hy
      refine Rat.le_trans (le_ring B (i := c + t) ?_) (ring_anti B (by omega))
      have lo : 1 < x ^ t + x ^ (t + 1) := by
        rcases B.low with h | h
        · omega
        · exact h
      rw [pow_plus x c t]
      refine Rat.mul_le_mul_of_nonneg_left ?_ (Rat.le_of_lt (Rat.pow_pos hx0))
      grind
  · intro y hy
    rcases List.mem_append.mp hy with hy | hy
    · obtain ⟨i, hi, rfl⟩ := memA y hy
      refine Rat.le_trans (ring_le B (y := x ^ (c - 1)) ?_) (pow_anti hx0 hx1 (by omega))
      rw [show c + 1 + t = (c - 1) + (t + 1 + 1) by omega, pow_plus]
      refine Rat.mul_le_mul_of_nonneg_left ?_ (Rat.le_of_lt (Rat.pow_pos hx0))
      have := B.fits
      grind
    · obtain ⟨i, h1, h2, rfl⟩ := memR y hy
      exact ring_anti B (by omega)
/-! sums -/
def sumN (F : Nat → Rat) : Nat → Rat
  | 0 => 0
  | n + 1 => sumN F n + F n
theorem sumN_front (F : Nat → Rat) : ∀ n, sumN F (n + 1) = F 0 + sumN (fun i => F (i + 1)) n
  | 0 => by simp only [sumN]; grind
  | n + 1 => by
    rw [sumN, sumN_front F n, sumN, Rat.add_assoc]
theorem sumN_congr {F G : Nat → Rat} : ∀ {n : Nat}, (∀ i, i < n → F i = G i) → sumN F n = sumN G n
  | 0, _ => rfl
  | n + 1, h => by rw [sumN, sumN, sumN_congr fun i hi => h i (by omega), h n (by omega)]
theorem sumN_rev (F : Nat → Rat) : ∀ n, sumN (fun i => F (n - 1 - i)) n = sumN F n
  | 0 => rfl
  | n + 1 => by
    rw [sumN_front, sumN]
    have e : sumN (fun i => F (n + 1 - 1 - (i + 1))) n = sumN (fun i => F (n - 1 - i)) n := sumN_congr fun i hi => by rw [show n + 1 - 1 - (i + 1) = n - 1 - i by omega]
    rw [e, sumN_rev F n, Rat.add_comm]
    rfl
theorem wsum_range (f : Nat → Nat) (g : Nat → Rat) : ∀ (n j : Nat), wsum f j ((List.range n).map g) = sumN (fun i => g i * (f (j + i) : Nat)) n
  | 0, _ => rfl
  | n + 1, j => by
    rw [List.range_succ, List.map_append, wsum_app, wsum_range f g n j, sumN, List.length_map, List.length_range]
    show _ + (g n * _ + 0) = _
    rw [Rat.add_zero]
def rlN (s j : Nat) : Nat := if j < shortN s then wideN s - 1 else wideN s
theorem lenB_rl {i : Nat} (hs : 1 ≤ s) (hi : i < s) : lenB s i = rlN s (s - 1 - i) := by
  have h1 := wide_le s
  have h2 : 2 ^ wideN s < 2 * s := by
    cases e : wideN s with
    | zero => rw [Nat.pow_zero]; omega
    | succ k =>
      have := wideN_lt s k (by omega)
      rw [Nat.pow_succ]
      omega
  unfold lenB rlN shortN
  by_cases c : i < 2 * s - 2 ^ wideN s
  · rw [if_pos c, if_neg (by omega)]
  · rw [if_neg c, if_pos (by omega)]
theorem mg_ring (B : BestC x s) : mgR (redL x s 0) = sumN (fun j => ringR x s j * (rlN s j : Nat)) s := by
  have hs1 := B.s1
  have hx0 := B.x0
  have hx1 := B.x1
  have p : (redL x s 0).Perm ((List.range s).map fun i => ringR x s (s - 1 - i)) := by
    unfold redL
    rw [List.range_zero, List.map_nil, List.nil_append, ← List.range_eq_range']
    have e : (List.range s).map (fun i => ringR x s (s - 1 - i)) = ((List.range s).reverse).map (fun i => ringR x s i) := by
      apply List.ext_getElem?
      intro i
      by_cases c : i < s
      · rw [List.getElem?_map, List.getElem?_map, List.getElem?_range c, List.getElem?_reverse (by rw [List.length_range]; exact c), List.length_range, List.getElem?_range (by omega)]
        rfl
      · rw [List.getElem?_eq_none (by rw [List.length_map, List.length_range]; omega), List.getElem?_eq_none (by rw [List.length_map, List.length_reverse, List.length_range]; omega)]
    rw [e]
    exact (List.reverse_perm _).symm.map _
  rw [mg_perm p, mg_even s _ (by rw [List.length_map, List.length_range]) hs1 ?_ ?_ ?_, wsum_range]
  · rw [← sumN_rev (fun j => ringR x s j * (rlN s j : Nat))]
    exact sumN_congr fun i hi => by rw [Nat.zero_add, lenB_rl hs1 hi]
  · refine List.pairwise_map.mpr (List.pairwise_iff_getElem.mpr fun i j hi hj hij => ?_)
    rw [List.length_range] at hi hj
    rw [List.getElem_range, List.getElem_range]
    exact ring_anti B (by omega)
  · intro y hy
    obtain ⟨i, _, rfl⟩ := List.mem_map.mp hy
    exact ring_pos B _
  · intro a b r hl y hy
    have hlen := congrArg List.length hl
    rw [List.length_map, List.length_range, List.length_cons, List.length_cons] at hlen
    have ha : a = ringR x s (s - 1) := by
      have := congrArg (fun l : List Rat => l[0]?) hl
      simp only [List.getElem?_map, List.getElem?_range (show 0 < s by omega)] at this
      exact (Option.some.inj this).symm
    have hb : b = ringR x s (s - 2) := by
      have := congrArg (fun l : List Rat => l[1]?) hl
      simp only [List.getElem?_map, List.getElem?_range (show 1 < s by omega)] at this
      exact (Option.some.inj this).symm
    have hy2 : y ∈ (List.range s).map fun i => ringR x s (s - 1 - i) := by
      rw [hl]
      exact List.mem_cons_of_mem _ (List.mem_cons_of_mem _ hy)
    obtain ⟨i, _, rfl⟩ := List.mem_map.mp hy2
    refine Rat.le_trans (ring_anti B (i := 0) (Nat.zero_le _)) ?_
    have lo : 1 < x ^ (s - 1) + x ^ s := by
      rcases B.low with h | h
      · omega
      · exact h
    have h3 : x ^ s ≤ x ^ (s - 1) := pow_anti hx0 hx1 (by omega)
    have h4 : x ^ (s - 1) ≤ x ^ (s - 2) := pow_anti hx0 hx1 (by omega)
    have h5 : x ^ 0 ≤ x ^ (s - 1) + x ^ (s - 2) := by
      rw [Rat.pow_zero]
      grind
    rw [ha, hb]
    have e : ringR x s (s - 1) + ringR x s (s - 2) = (x ^ (s - 1) + x ^ (s - 2)) / (1 - x ^ s) := by
      unfold ringR
      have hne := Rat.ne_of_gt B.left
      generalize x ^ (s - 1) = u
      generalize x ^ (s - 2) = v
      generalize 1 - x ^ s = w at *
      grind
    rw [e]
    refine ring_le B ?_
    rw [Rat.div_mul_cancel (Rat.ne_of_gt B.left)]
    exact h5
theorem geo (x : Rat) : ∀ n, (1 - x) * sumN (fun j => x ^ j) n = 1 - x ^ n
  | 0 => by
    show (1 - x) * 0 = 1 - x ^ 0
    rw [Rat.pow_zero]
    grind
  | n + 1 => by
    rw [sumN, Rat.mul_add, geo x n, Rat.pow_succ]
    grind
theorem rl_sum (x : Rat) (hk : 1 ≤ wideN s) : ∀ n, (1 - x) * sumN (fun j => x ^ j * (rlN s j : Nat)) n = (wideN s : Nat) * (1 - x ^ n) - (1 - x ^ (min n (shortN s)))
  | 0 => by
    show (1 - x) * 0 = _
    rw [Nat.zero_min, Rat.pow_zero]
    grind
  | n + 1 => by
    rw [sumN, Rat.mul_add, rl_sum x hk n]
    unfold rlN
    have ek : ((wideN s - 1 : Nat) : Rat) = ((wideN s : Nat) : Rat) - 1 := by
      have : ((wideN s - 1 + 1 : Nat) : Rat) = ((wideN s - 1 : Nat) : Rat) + 1 := Rat.natCast_add _ _
      rw [show wideN s - 1 + 1 = wideN s by omega] at this
      rw [this]
      grind
    by_cases c : n < shortN s
    · rw [if_pos c, Nat.min_eq_left (by omega), Nat.min_eq_left (show n + 1 ≤ shortN s by omega), ek, Rat.pow_succ]
      grind
    · rw [if_neg c, Nat.min_eq_right (by omega), Nat.min_eq_right (show shortN s ≤ n + 1 by omega), Rat.pow_succ]
      grind
theorem sumN_scale (k : Rat) (F : Nat → Rat) : ∀ n, sumN (fun i => k * F i) n = k * sumN F n
  | 0 => (Rat.mul_zero k).symm
  | n + 1 => by rw [sumN, sumN, sumN_scale k F n, Rat.mul_add]
theorem mg_zero (B : BestC x s) : (1 - x) * mgR (redL x s 0) + 1 / (1 - x ^ s) = meanR s x := by
  have hne := Rat.ne_of_gt B.left
  have hs1 := B.s1
  rw [mg_ring B]
  have e : sumN (fun j => ringR x s j * (rlN s j : Nat)) s = (1 / (1 - x ^ s)) * sumN (fun j => x ^ j * (rlN s j : Nat)) s := by
    rw [← sumN_scale]
    refine sumN_congr fun i hi => ?_
    unfold ringR
    generalize x ^ i = u
    generalize 1 - x ^ s = w at *
    grind
  have e2 : (1 - x) * ((1 / (1 - x ^ s)) * sumN (fun j => x ^ j * (rlN s j : Nat)) s) = (1 / (1 - x ^ s)) * ((1 - x) * sumN (fun j => x ^ j * (rlN s j : Nat)) s) := by
    rw [← Rat.mul_assoc, Rat.mul_comm (1 - x), Rat.mul_assoc]
  rw [e, e2]
  unfold meanR
  by_cases c : 0 < wideN s
  · have hsh := short_lt hs1
    rw [rl_sum x c, Nat.min_eq_right (by omega), if_pos c]
    have e1 : (((if (wideN s : Int) > 1 then (wideN s : Int) else 1 : Int)) : Rat) = ((wideN s : Nat) : Rat) := by
      split
      · rfl
      · rw [show wideN s = 1 by omega]
        rfl
    rw [e1]
    generalize ((wideN s : Nat) : Rat) = k
    generalize x ^ shortN s = u
    generalize x ^ s = v at *
    grind
  · have w0 : wideN s = 0 := by omega
    have m1 := short_zero w0 hs1
    subst m1
    rw [if_neg c, w0]
    have e3 : sumN (fun j => x ^ j * (rlN 1 j : Nat)) 1 = 0 := by
      show (0 : Rat) + x ^ 0 * ((rlN 1 0 : Nat) : Rat) = 0
      rw [show rlN 1 0 = 0 by decide, show ((0 : Nat) : Rat) = 0 from rfl]
      grind
    rw [e3]
    have e1 : (((if ((0 : Nat) : Int) > 1 then ((0 : Nat) : Int) else 1 : Int)) : Rat) = 1 := rfl
    rw [e1]
    generalize x ^ 1 = v at *
    grind
/-- for every count the same -/
theorem mg_count (B : BestC x s) : ∀ c, (1 - x) * mgR (redL x s c) + x ^ c / (1 - x ^ s) = meanR s x
  | 0 => by
    rw [Rat.pow_zero]
    exact mg_zero B
  | c + 1 => by
    rw [← mg_count B c, red_step B, Rat.pow_succ]
    unfold ringR
    have hne := Rat.ne_of_gt B.left
    generalize mgR (redL x s c) = m
    generalize x ^ c = u
    generalize 1 - x ^ s = v at *
    grind
end
end St
namespace St
open PySem PySem.Spec PyProof.Rows L2
/-! ### no step's mean is less -/
def meanNum (p q m : Nat) : Nat := wideN m * (q ^ m - p ^ m) + p ^ shortN m * q ^ (m - shortN m)
theorem mean_frac {p q : Nat} (h : IsRat p q) {m : Nat} (hm : 1 ≤ m) : meanR m (rat p q) = Rat.divInt (meanNum p q m : Nat) ((q ^ m - p ^ m : Nat) : Int) := by
  have hs := short_lt hm
  have hlt : p ^ m < q ^ m := Nat.pow_lt_pow_left h.pq (by omega)
  have e1 : ((q ^ m - p ^ m : Nat) : Int) = (q : Int) ^ m - (p : Int) ^ m := by
    rw [Int.natCast_sub (Nat.le_of_lt hlt), Int.natCast_pow, Int.natCast_pow]
  rw [← law_mean h hm, ovI_eq (p : Int) (q : Int) hm m (Nat.le_refl _), Nat.min_eq_right (by omega), e1]
  congr 1
  unfold meanNum
  rw [Int.natCast_add, Int.natCast_mul, Int.natCast_mul, e1, Int.natCast_pow, Int.natCast_pow]
  grind
theorem div_le {a b c d : Int} (hb : 0 < b) (hd : 0 < d) (h : a * d ≤ c * b) : Rat.divInt a b ≤ Rat.divInt c d := by
  have b1 : (0 : Rat) < ((b : Int) : Rat) := Rat.intCast_pos.mpr hb
  have d1 : (0 : Rat) < ((d : Int) : Rat) := Rat.intCast_pos.mpr hd
  rw [Rat.divInt_eq_div, Rat.divInt_eq_div]
  refine Rat.not_lt.mp fun z => ?_
  have h1 := (Rat.div_lt_iff d1).mp z
  have e : (a : Rat) / (b : Rat) * (d : Rat) = ((a : Rat) * (d : Rat)) / (b : Rat) := by
    have := Rat.ne_of_gt b1
    grind
  rw [e] at h1
  have h2 := (Rat.lt_div_iff b1).mp h1
  rw [← Rat.intCast_mul, ← Rat.intCast_mul] at h2
  have := Rat.intCast_lt_intCast.mp h2
  omega
def optOk (p q s : Nat) : Bool := (List.range 65).all fun t => t == 0 || decide (meanNum p q s * (q ^ t - p ^ t) ≤ meanNum p q t * (q ^ s - p ^ s))
def isB (p q s : Nat) : Bool := decide (p ^ s * (p + q) ≤ q ^ s * q) && (s == 1 || decide (q ^ (s - 1) * q < p ^ (s - 1) * (p + q)))
def allOpt : Bool := (List.range 31).all fun q => (List.range q).all fun p => p == 0 || (List.range 31).all fun s => s == 0 || (!isB p q s || optOk p q s)
set_option maxHeartbeats 40000000 in
theorem all_opt : allOpt = true := by decide +kernel
theorem mean_opt {p q : Nat} (h : IsRat p q) {s t : Nat} (hs1 : 1 ≤ s) (hs : s ≤ 30) (hb : isB p q s = true) (ht : 1 ≤ t) (ht64 : t ≤ 64) : meanR s (rat p q) ≤ meanR t (rat p q) := by
  have a := all_opt
  unfold allOpt at a
  have a := List.all_eq_true.mp a q (List.mem_range.mpr (by have := h.q30; omega))
  have a := List.all_eq_true.mp a p (List.mem_range.mpr h.pq)
  have p0 : (p == 0) = false := by
    have := h.p1
    simp
    omega
  rw [p0, Bool.false_or] at a
  have a := List.all_eq_true.mp a s (List.mem_range.mpr (by omega))
  have s0 : (s == 0) = false := by
    simp
    omega
  rw [s0, Bool.false_or, hb] at a
  simp only [Bool.not_true, Bool.false_or] at a
  unfold optOk at a
  have a := List.all_eq_true.mp a t (List.mem_range.mpr (by omega))
  have t0 : (t == 0) = false := by
    simp
    omega
  rw [t0, Bool.false_or] at a
  have a := of_decide_eq_true a
  rw [mean_frac h hs1, mean_frac h ht]
  have l1 : p ^ s < q ^ s := Nat.pow_lt_pow_left h.pq (by omega)
  have l2 : p ^ t < q ^ t := Nat.pow_lt_pow_left h.pq (by omega)
  refine div_le (by omega) (by omega) ?_
  rw [← Int.natCast_mul, ← Int.natCast_mul]
  exact Int.ofNat_le.mpr a
end St
namespace St
open PySem PySem.Spec PyProof.Rows L2
/-! ### the fractions that the law reckons -/
def cutR (x : Rat) (s c i : Nat) : Rat := if i < c then (1 - x) * x ^ i else (1 - x) / (1 - x ^ s) * x ^ i
theorem natInt (n : Nat) : ((n : Int) : Rat) = (n : Rat) := rfl
theorem cut_frac1 (r : Rat) {p q : Nat} (hq : 0 < q) : Rat.divInt (r.num * ((q : Int) - (p : Int))) ((r.den : Int) * (q : Int)) = (1 - rat p q) * r := by
  have e1 := rat_eq r
  have h1 := cast_ne (den_ne r)
  have hQ : ((q : Int) : Rat) ≠ 0 := cast_ne (by omega)
  rw [Rat.divInt_eq_div, Rat.intCast_mul, Rat.intCast_mul, Rat.intCast_sub]
  unfold rat
  generalize (r.num : Rat) = a at *
  generalize ((r.den : Int) : Rat) = b at *
  generalize ((p : Int) : Rat) = c at *
  generalize ((q : Int) : Rat) = d at *
  rw [e1]
  grind
theorem cut_frac2 (r w : Rat) {p q : Nat} (hq : 0 < q) (hw : 1 - w ≠ 0) : Rat.divInt (r.num * ((q : Int) - (p : Int)) * (w.den : Int)) ((r.den : Int) * (q : Int) * ((w.den : Int) - w.num)) = (1 - rat p q) / (1 - w) * r := by
  have e1 := rat_eq r
  have e2 := rat_eq w
  have h1 := cast_ne (den_ne r)
  have h2 := cast_ne (den_ne w)
  have hQ : ((q : Int) : Rat) ≠ 0 := cast_ne (by omega)
  rw [Rat.divInt_eq_div, Rat.intCast_mul, Rat.intCast_mul, Rat.intCast_mul, Rat.intCast_mul, Rat.intCast_sub, Rat.intCast_sub]
  unfold rat
  generalize (r.num : Rat) = a at *
  generalize ((r.den : Int) : Rat) = b at *
  generalize (w.num : Rat) = e at *
  generalize ((w.den : Int) : Rat) = f at *
  generalize ((p : Int) : Rat) = c at *
  generalize ((q : Int) : Rat) = d at *
  rw [e1]
  rw [e2] at hw ⊢
  have h3 : f - e ≠ 0 := fun z => hw (by grind)
  grind
theorem law_end (M L : Int) (r w : Rat) (hL : 0 < L) (hw : 1 - w ≠ 0) : Rat.divInt (M * (r.den : Int) * ((w.den : Int) - w.num) + r.num * (w.den : Int) * L) (L * (r.den : Int) * ((w.den : Int) - w.num)) = (M : Rat) / (L : Rat) + r / (1 - w) := by
  have e1 := rat_eq r
  have e2 := rat_eq w
  have h1 := cast_ne (den_ne r)
  have h2 := cast_ne (den_ne w)
  have hL0 : (L : Rat) ≠ 0 := cast_ne (by omega)
  rw [Rat.divInt_eq_div]
  simp only [Rat.intCast_mul, Rat.intCast_add, Rat.intCast_sub]
  generalize (r.num : Rat) = a at *
  generalize ((r.den : Int) : Rat) = b at *
  generalize (w.num : Rat) = e at *
  generalize ((w.den : Int) : Rat) = f at *
  generalize (M : Rat) = m at *
  generalize (L : Rat) = l at *
  rw [e1]
  rw [e2] at hw ⊢
  have h3 : f - e ≠ 0 := fun z => hw (by grind)
  grind
/-! the common parts -/
theorem lcm_step (L : Nat) {d : Nat} (hd : 0 < d) : (Rat.divInt (L : Int) (d : Int)).num * (d : Int) = ((Nat.lcm L d : Nat) : Int) := by
  rw [frac_num (by omega)]
  have e : Int.gcd (L : Int) (d : Int) = Nat.gcd L d := rfl
  rw [e, ← Int.natCast_ediv, ← Int.natCast_mul]
  congr 1
  unfold Nat.lcm
  rw [Nat.mul_comm L d, Nat.mul_div_assoc d (Nat.gcd_dvd_left L d), Nat.mul_comm]
theorem weight_cast {r : Rat} {L : Nat} (h : r.den ∣ L) : ((r.num * ((L : Int) / (r.den : Int)) : Int) : Rat) = (L : Rat) * r := by
  obtain ⟨k, rfl⟩ := h
  have e1 := rat_eq r
  have h1 := cast_ne (den_ne r)
  rw [← Int.natCast_ediv, Nat.mul_div_cancel_left _ r.den_pos, Rat.intCast_mul, natInt]
  rw [show ((r.den * k : Nat) : Rat) = ((r.den : Nat) : Rat) * ((k : Nat) : Rat) from Rat.natCast_mul _ _]
  rw [show ((r.den : Int) : Rat) = ((r.den : Nat) : Rat) from rfl] at e1 h1
  generalize (r.num : Rat) = a at *
  generalize ((r.den : Nat) : Rat) = b at *
  generalize ((k : Nat) : Rat) = c at *
  rw [e1]
  grind
theorem den_dvd {r : Rat} {D : Nat} {A : Int} (hD : 0 < D) (h : r * ((D : Int) : Rat) = (A : Rat)) : r.den ∣ D := by
  have hD0 : ((D : Int) : Rat) ≠ 0 := cast_ne (by omega)
  have e : r = Rat.divInt A (D : Int) := by
    rw [Rat.divInt_eq_div, ← h]
    grind
  have e2 := frac_den (n := A) (d := (D : Int)) (by omega)
  rw [← e] at e2
  have e3 : (r.den : Int) ∣ (D : Int) := by
    rw [e2]
    exact Int.ediv_dvd_of_dvd (Int.gcd_dvd_right ..)
  exact Int.natCast_dvd_natCast.mp e3
def bigD (p q s c : Nat) : Nat := q ^ (c + s) * (q ^ s - p ^ s)
theorem cut_den {p q s c i : Nat} (h : IsRat p q) (hs : 1 ≤ s) (hi : i < c + s) : (cutR (rat p q) s c i).den ∣ bigD p q s c := by
  have hpq := h.pq
  have hlt : p ^ s < q ^ s := Nat.pow_lt_pow_left hpq (by omega)
  have hq0 : 0 < q := by omega
  have hQ : ((q : Int) : Rat) ≠ 0 := cast_ne (by omega)
  have ed : ((q ^ s - p ^ s : Nat) : Int) = (q : Int) ^ s - (p : Int) ^ s := by
    rw [Int.natCast_sub (Nat.le_of_lt hlt), Int.natCast_pow, Int.natCast_pow]
  have eN : q ^ (c + s) = q ^ (c + s - 1 - i) * q ^ i * q := by
    rw [← Nat.pow_add, ← Nat.pow_succ]
    congr 1
    omega
  have hx : ∀ t : Nat, rat p q ^ t * ((q : Int) : Rat) ^ t = ((p : Int) : Rat) ^ t := fun t => by
    rw [← rat_pow p q hq0 t, Rat.divInt_eq_div, Rat.intCast_pow, Rat.intCast_pow]
    refine Rat.div_mul_cancel ?_
    rw [← Rat.intCast_pow]
    exact cast_ne (Int.ne_of_gt (Int.pow_pos (by omega)))
  have h1 : (1 - rat p q) * ((q : Int) : Rat) = ((q : Int) : Rat) - ((p : Int) : Rat) := by
    have := hx 1
    rw [Rat.pow_one, Rat.pow_one, Rat.pow_one] at this
    grind
  have hL : (1 - rat p q ^ s) * ((q : Int) : Rat) ^ s = ((q : Int) : Rat) ^ s - ((p : Int) : Rat) ^ s := by
    have := hx s
    grind
  have hD : 0 < bigD p q s c := Nat.mul_pos (Nat.pow_pos hq0) (by omega)
  have eD : ((bigD p q s c : Int) : Rat) = ((q : Int) : Rat) ^ (c + s - 1 - i) * ((q : Int) : Rat) ^ i * ((q : Int) : Rat) * (((q : Int) : Rat) ^ s - ((p : Int) : Rat) ^ s) := by
    unfold bigD
    rw [eN, Int.natCast_mul, ed, Int.natCast_mul, Int.natCast_mul, Int.natCast_pow, Int.natCast_pow]
    simp only [Rat.intCast_mul, Rat.intCast_sub, Rat.intCast_pow]
  unfold cutR
  split
  · refine den_dvd (A := (q : Int) ^ (c + s - 1 - i) * (p : Int) ^ i * ((q : Int) - (p : Int)) * ((q : Int) ^ s - (p : Int) ^ s)) hD ?_
    rw [eD]
    simp only [Rat.intCast_mul, Rat.intCast_sub, Rat.intCast_pow]
    have h2 := hx i
    generalize ((q : Int) : Rat) ^ (c + s - 1 - i) = a at *
    generalize ((q : Int) : Rat) ^ i = b at *
    generalize ((p : Int) : Rat) ^ i = b' at *
    generalize rat p q ^ i = x at *
    generalize 1 - rat p q = y at *
    generalize ((q : Int) : Rat) ^ s - ((p : Int) : Rat) ^ s = z at *
    generalize ((q : Int) : Rat) - ((p : Int) : Rat) = u at *
    generalize ((q : Int) : Rat) = v at *
    grind
  · refine den_dvd (A := (q : Int) ^ (c + s - 1 - i) * (p : Int) ^ i * ((q : Int) - (p : Int)) * (q : Int) ^ s) hD ?_
    rw [eD, ← hL]
    simp only [Rat.intCast_mul, Rat.intCast_sub, Rat.intCast_pow]
    have h2 := hx i
    have hl : 1 - rat p q ^ s ≠ 0 := Rat.ne_of_gt (left_pos h hs)
    generalize ((q : Int) : Rat) ^ (c + s - 1 - i) = a at *
    generalize ((q : Int) : Rat) ^ i = b at *
    generalize ((p : Int) : Rat) ^ i = b' at *
    generalize rat p q ^ i = x at *
    generalize 1 - rat p q = y at *
    generalize 1 - rat p q ^ s = z at *
    generalize ((q : Int) : Rat) - ((p : Int) : Rat) = u at *
    generalize ((q : Int) : Rat) ^ s = t at *
    generalize ((q : Int) : Rat) = v at *
    grind
/-! the chances together -/
theorem cut_sum {x : Rat} {s : Nat} (B : BestC x s) (c : Nat) : sumN (cutR x s c) (c + s) = 1 := by
  have h0 : ∀ n, n ≤ c → sumN (cutR x s c) n = 1 - x ^ n := fun n hn => by
    rw [← geo x n, ← sumN_scale]
    refine sumN_congr fun i hi => ?_
    unfold cutR
    rw [if_pos (by omega)]
  have hne := Rat.ne_of_gt B.left
  have h1 : ∀ t, sumN (cutR x s c) (c + t) = 1 - x ^ c + (x ^ c - x ^ (c + t)) / (1 - x ^ s) := by
    intro t
    induction t with
    | zero =>
      rw [Nat.add_zero, h0 c (Nat.le_refl _)]
      generalize x ^ c = u
      generalize 1 - x ^ s = v at *
      grind
    | succ t ih =>
      rw [← Nat.add_assoc, sumN, ih]
      unfold cutR
      rw [if_neg (by omega), Rat.pow_succ]
      generalize x ^ c = u
      generalize x ^ (c + t) = w
      generalize 1 - x ^ s = v at *
      grind
  rw [h1 s, pow_plus]
  generalize x ^ c = u
  generalize x ^ s = v at *
  grind
theorem cut_list {x : Rat} {s : Nat} (B : BestC x s) (c : Nat) : (List.range (c + s)).map (cutR x s c) = (redL x s c).map ((1 - x) * ·) := by
  have hne := Rat.ne_of_gt B.left
  unfold redL
  rw [List.map_append, List.map_map, List.map_map, List.range_eq_range', List.range'_append_1.symm, List.map_append, Nat.zero_add, ← List.range_eq_range']
  congr 1
  · refine List.map_congr_left fun i hi => ?_
    have := List.mem_range.mp hi
    unfold cutR
    rw [if_pos this]
    rfl
  · refine List.map_congr_left fun i hi => ?_
    obtain ⟨h1, h2⟩ := List.mem_range'_1.mp hi
    unfold cutR
    rw [if_neg (by omega)]
    show _ = (1 - x) * ringR x s i
    unfold ringR
    generalize x ^ i = u
    generalize 1 - x ^ s = v at *
    grind
end St
namespace St
open PySem PySem.Spec PyProof.Rows L2
/-! ### sorted, min of data (numbers, texts, tuples of these) of any length -/
theorem refs_rel {xs : List V} {us : List Value} (r : Vals xs us) : ∀ {i : Nat} {x : V}, xs[i]? = some x → ∃ u, us[i]? = some u ∧ RelV x u := fun h => r.get h
theorem vals_each : ∀ {xs : List V} {us : List Value}, Vals xs us → PySem.W.EachIs (fun u x => RelV x u) us xs
  | _, _, .nil => .nil
  | _, _, .cons r t => .cons r (vals_each t)
theorem each_vals : ∀ {xs : List V} {us : List Value}, PySem.W.EachIs (fun u x => RelV x u) us xs → Vals xs us
  | _, _, .nil => .nil
  | _, _, .cons r t => .cons r (each_vals t)
/-- sorted(xs), xs a list of data of one form: a new list, the stable arrangement -/
def rSortedD (K : PySem.W.Frag) : List V → Hp → VK → Prop := fun vs H Q => ∃ (a : Addr) (xs : List V) (f : V → PyData), vs = [V.ref a] ∧ SqL K H a xs ∧ (∀ x ∈ xs, Dp K H x (f x)) ∧ PySem.W.AllAlike (xs.map f) ∧ PySem.W.Sortable (xs.map f) ∧ (∀ x ∈ xs, (f x).depth ≤ 50) ∧
  ∀ p, H p = none → Q (.ref p) (upd H p (.lst (xs.mergeSort (PySem.W.dataLe false f))))
section
variable {X : Cx}
theorem cr_sortedD (hu : X.A.units + 64 < cLine) : CallR X (.builtin "sorted") (rSortedD X.K) := by
  intro pins s σ H vs us Q I r h
  obtain ⟨a, xs, f, rfl, hs, hx, ha, hk, hd, q⟩ := h
  obtain ⟨its, rv, hl, hz⟩ := I.list hs
  obtain ⟨u, rfl, ru⟩ := vals1 r
  obtain rfl : u = Value.ref a := ru
  have e0 := vals_each rv
  have er : ∀ {xs : List V} {us : List Value}, (∀ x ∈ xs, Dp X.K H x (f x)) → PySem.W.EachIs (fun u x => RelV x u) us xs → PySem.W.EachIs (fun v b => ∃ as, Reads s.heap v (f b) as) us xs := by
    intro xs us hx e
    induction e with
    | nil => exact .nil
    | cons r t ih => exact .cons (Dp.reads I _ _ _ (hx _ List.mem_cons_self) r) (ih fun x h => hx x (List.mem_cons_of_mem _ h))
  refine PySem.W.sorted_data (R := fun u x => RelV x u) hl.isList e0 (er hx e0) ha hk hz (fun b hb => by have := hd b hb; omega) fun out ho eo => ?_
  obtain ⟨c, hc⟩ := sortedAll_at s.heap its out.toArray
  refine ⟨.ref _, upd H (s.heap.objs.size + 1) (.lst (xs.mergeSort (PySem.W.dataLe false f))), I.laid (t' := s.toks) (fun b o e => sortedAll_old e) (Nat.le_succ _) ⟨?_, out, c, each_vals eo, hc⟩, rfl, q _ (I.hok.fresh (Nat.le_succ _))⟩
  rw [List.length_mergeSort]
  exact hz
theorem cr_sortedD_ (K : PySem.W.Frag) (hu : X.A.units + 64 < cLine) (h : X.K = K := by rfl) : CallR X (.builtin "sorted") (rSortedD K) := h ▸ cr_sortedD hu
/-- min(xs), xs a list of data of one form: the first of the least -/
def rMinD (K : PySem.W.Frag) : List V → Hp → VK → Prop := fun vs H Q => ∃ (a : Addr) (xs : List V) (d : PyData) (ds : List PyData), vs = [V.ref a] ∧ SqL K H a xs ∧ DpAll K H xs (d :: ds) ∧ PySem.W.AlikeAll (d :: ds) ∧ PyData.depthAll (d :: ds) ≤ 50 ∧
  ∀ (i : Nat) (x : V), xs[i]? = some x → (d :: ds)[i]? = some (PySem.W.minD d ds) → Q x H
theorem min_list_dataI {prog : Program} {w : World} {A : Around} {E : Value → Shared → Prop} {s : Shared} {l : Addr} {vs : Array Value} {x : PyData} {xs : List PyData} {as : List Addr} {Q : Value → Shared → Prop} (hh : A.handled = none) (hl : s.heap.IsList l vs) (hr : ReadsAll s.heap vs.toList (x :: xs) as) (ha : PySem.W.AlikeAll (x :: xs)) (hu : A.units + 1 + PyData.depthAll (x :: xs) < cLine)
    (h : ∀ (i : Nat) v h' tk, vs[i]? = some v → (x :: xs)[i]? = some (PySem.W.minD x xs) → (∀ b o, s.heap.get? b = some o → h'.get? b = some o) → Q v { s with heap := h', toks := tk }) :
    wpAny (model prog w) A (call (.builtin "min") [.ref l]) Q E s := by
  have hn : vs.size = xs.length + 1 := PySem.W.readsAll_len hr
  refine PySem.call_min_walkH (PySem.W.iter_listW (A := A.in1) hh hl fun s₂ e W st hfp hw hk => ?_)
  refine ⟨_, _, _, _, _, _, _, s.heap, _, rfl, W, st, hfp, by omega, hw, hk, PySem.W.cmpIn_lt (A := A.in1) hr ha (by show A.units + 1 + _ < _; exact hu), fun v s' hP m => ?_⟩
  obtain ⟨h', tk, rfl, hk'⟩ := PySem.W.moved_old e rfl m
  obtain ⟨e3, e2⟩ := PySem.W.argBest_fold PySem.W.dataLt PyData.none x xs xs.length (Nat.le_refl _)
  rw [List.take_length] at e2
  have e1 : vs.size - 1 = xs.length := by omega
  rw [e1] at hP
  refine h _ v h' tk hP ?_ hk'
  unfold PySem.W.minD
  rw [← e2, List.getD_eq_getElem?_getD]
  cases e : (x :: xs)[PySem.argBest (fun i j => PySem.W.dataLt ((x :: xs).getD i PyData.none) ((x :: xs).getD j PyData.none)) xs.length]? with
  | some y => rfl
  | none =>
    have := List.getElem?_eq_none_iff.mp e
    rw [List.length_cons] at this
    omega
theorem cr_minD (hc : X.calm = true) (hu : X.A.units + 64 < cLine) : CallR X (.builtin "min") (rMinD X.K) := by
  intro pins s σ H vs us Q I r h
  obtain ⟨a, xs, d, ds, rfl, hs, hx, ha, hd, q⟩ := h
  obtain ⟨its, rv, hl, _⟩ := I.list hs
  rw [Vals.ref1 r]
  obtain ⟨as, hr⟩ := Dp.readsAll I _ _ _ hx rv
  refine min_list_dataI (I.ok.hd hc) hl.isList hr ha (by omega) fun i v h' tk hi hj hk => ?_
  have hi' : its[i]? = some v := by simpa using hi
  have hlt : i < xs.length := by
    have := (List.getElem?_eq_some_iff.mp hi').1
    rw [rv.length]
    exact this
  have hxi : xs[i]? = some xs[i] := List.getElem?_eq_getElem hlt
  obtain ⟨u, hu, ru⟩ := rv.get hxi
  rw [hi'] at hu
  cases Option.some.inj hu
  exact ⟨xs[i], H, I.kept hk, ru, q i _ hxi hj⟩
theorem cr_minD_ (K : PySem.W.Frag) (hc : X.calm = true) (hu : X.A.units + 64 < cLine) (h : X.K = K := by rfl) : CallR X (.builtin "min") (rMinD K) := h ▸ cr_minD hc hu
end
end St
namespace St
open PySem PySem.Spec PyProof.Rows L2
/-! ### own errors -/
/-- the class at x -/
def ClsAt (K : PySem.W.Frag) (x : Str) (C : Addr) : Prop := PySem.W.nsIn K mainGlobals x = some (some (.ref C))
theorem ClsAt.one {K : PySem.W.Frag} {x : Str} {C D : Addr} (h : ClsAt K x C) (h' : ClsAt K x D) : C = D := by
  have := h.symm.trans h'
  cases this
  rfl
/-- what the top has written of an own error class without own __init__ -/
structure ExT (K : PySem.W.Frag) (mg : Str → Option Value) (x : Str) (C : Addr) : Prop where
  n : ClsAt K x C
  g : mg x = some (.ref C)
  q : PySem.W.excIn K C [.type "ValueError", .type "Exception", .type "BaseException", .type "object"] "ValueError.__new__" = true
  k : PySem.W.keepIn K (.ref C) = true
  b : PySem.W.subIn K (.ref C) (.type "BaseException") = some true
  t : PySem.W.typeIn K (.ref C) = some (.type "type")
  d : PySem.W.hasDictIn K C = true
  s : PySem.W.subIn K (.ref C) (.ref C) = some true
theorem ExT.te {K : PySem.W.Frag} {mg : Str → Option Value} {x : Str} {C : Addr} (T : ExT K mg x C) : PySem.W.exmOne K (.ref C) (.ref C) = some true :=
  PySem.W.exm_ref T.b T.d T.t T.s
/-- as Cal, of a def that may raise -/
structure CalR (P : Program) (w : World) (K : PySem.W.Frag) (mg : Str → Option Value) (base : Heap) (x : Str) (ps : List Str) (k : Nat) (sp : Sp) (f : Addr) (fd : FuncData) : Prop where
  ok : FnOk P w K mg base (L2.CX P w) k f fd ps sp
  g : mg x = some (.ref f)
  kp : PySem.W.keepIn K (.ref f) = true
  b : Binds K fd ps []
def CalX (P : Program) (w : World) (K : PySem.W.Frag) (mg : Str → Option Value) (base : Heap) (x : Str) (ps : List Str) (k : Nat) (sp : Sp) : Prop := ∃ f fd, CalR P w K mg base x ps k sp f fd
section
variable {X : Cx} {C : Addr} {bmB : List Value} {B newId initId : String}
/-- X() -/
theorem pmk_own0 {x : Str} {p pos : Pos} (F : ExcBaseFacts B newId initId bmB) (q : PySem.W.excIn X.K C bmB newId = true) (gC : X.mg x = some (.ref C)) (kC : PySem.W.keepIn X.K (.ref C) = true) (r : Raises X (.ref C)) (hg : Gl X x)
    (hdb : (x == ("__debug__" : Str)) = false := by decide) : PMk X (.Call (.Name x p) [] [] pos) (fun _ H Q => Q (.ref C) none H) := by
  intro pins s σ H Q I h
  refine wpAny_Call_Name_kw (ld_glob I hg gC ?_ hdb)
  refine PySem.W.callWith_K0 I.kIn kC ?_
  show wpAny _ _ (call (.ref C) []) _ _ _
  obtain ⟨bm, N, nm, qn, bs, hdct, sn, sub, ab, col, dd, k0, k1, k2, k3, k5, mN, hC, hN, hni, T⟩ := exc_obj I.kIn q
  refine wpAny_call_exc_subT F T hC hN hni (fun h' e hm => ?_) (Nat.zero_le _)
  exact mk_of I hm r h (I.hok.gone hm.new)
theorem ps_raise0 {x : Str} {p pos pos2 : Pos} {W : WX} (tk : Takes X W) (T : ExT X.K X.mg x C) (hg : Gl X x) (hdb : (x == ("__debug__" : Str)) = false := by decide) (hc : X.calm = true := by rfl) :
    PS X (.Raise (some (.Call (.Name x p) [] [] pos)) none pos2) (fun _ σ H => W (.ref C) none σ H) :=
  ps_raise hc tk (pmk_own0 PySem.F.excBase_ValueError T.q T.g T.k (raises_own T.b T.t) hg hdb)
/-- isinstance(e, c), e the error that the suite holds -/
theorem call_isX {a D : Addr} {oe : Obj} {cls : Value} {d : Option Addr} {pn : List (Addr × Obj)} (E : ExcC X.K D) (hz : Zc cls d oe) (hf : ∃ vs, oe.data = .fields vs) :
    CallR (X.suite a ((a, oe) :: pn)) (.builtin "isinstance") (fun xs H Q => cls = .ref D ∧ d = none ∧ rIsE X.K D a xs H Q) := by
  intro pins s σ H xs us Q I r h
  obtain ⟨rfl, rfl, h⟩ := h
  exact call_isE E hz hf pins s σ H xs us Q I r h
end
theorem kit_sub {K : PySem.W.Frag} {C S : Addr} (hd : PySem.W.hasDictIn K S = true) (ht : PySem.W.typeIn K (.ref S) = some (.type "type")) (h : PySem.W.subIn K (.ref C) (.ref S) = some true) : PySem.W.kitOne K (.ref C) (.ref S) = some true := by
  obtain ⟨cd, hc, _⟩ := PySem.W.any_some hd
  have e : ((PySem.W.clsIn K S).isSome && PySem.W.typeIn K (.ref S) == some (.type "type")) = true := by rw [hc, ht] <;> rfl
  show (if (Value.ref C == Value.ref S) = true then some true else (if ((PySem.W.clsIn K S).isSome && PySem.W.typeIn K (.ref S) == some (.type "type")) = true then PySem.W.subIn K (.ref C) (.ref S) else none)) = some true
  rw [if_pos e, h]
  split <;> rfl
end St
namespace St
open PySem PySem.Spec PyProof.Rows L2
/-- the greatest of the losses, as both go through them -/
def worstR (f : Rat → Rat) (w : Rat) (xs : List Rat) : Rat := xs.foldl (fun w x => if w < f x then f x else w) w
theorem worst_snoc (f : Rat → Rat) (w : Rat) (xs : List Rat) (x : Rat) : worstR f w (xs ++ [x]) = if worstR f w xs < f x then f x else worstR f w xs := by
  unfold worstR
  rw [List.foldl_append]
  rfl
/-- the least step whose greatest loss is least, of the steps 1 .. n -/
def fairF (g : Nat → Rat) : Nat → Option (Nat × Rat)
  | 0 => none
  | n + 1 => match fairF g n with
    | none => some (n + 1, g (n + 1))
    | some (s, b) => if g (n + 1) < b then some (n + 1, g (n + 1)) else some (s, b)
theorem fairF_none {g : Nat → Rat} {n : Nat} (h : fairF g n = none) : fairF g (n + 1) = some (n + 1, g (n + 1)) := by
  show (match fairF g n with
    | none => some (n + 1, g (n + 1))
    | some (s, b) => if g (n + 1) < b then some (n + 1, g (n + 1)) else some (s, b)) = _
  rw [h]
theorem fairF_some {g : Nat → Rat} {n s : Nat} {b : Rat} (h : fairF g n = some (s, b)) : fairF g (n + 1) = if g (n + 1) < b then some (n + 1, g (n + 1)) else some (s, b) := by
  show (match fairF g n with
    | none => some (n + 1, g (n + 1))
    | some (s, b) => if g (n + 1) < b then some (n + 1, g (n + 1)) else some (s, b)) = _
  rw [h]
theorem lt_iff_int (r s : Rat) : r.num * (s.den : Int) < s.num * (r.den : Int) ↔ r < s := (Rat.lt_iff r s).symm
theorem le_iff_int (r s : Rat) : r.num * (s.den : Int) ≤ s.num * (r.den : Int) ↔ r ≤ s := (Rat.le_iff r s).symm
theorem bd_zero (b : Nat) (h : 1 ≤ b) : Bd 0 b := ⟨by show 0 < 2 ^ b; exact Nat.pow_pos (by decide), by show 1 < 2 ^ b; exact Nat.one_lt_pow (by omega) (by decide)⟩
/-- a tuple of ratios -/
structure RatsAt (K : PySem.W.Frag) (H : Hp) (a : Addr) (rs : List (Addr × Nat × Nat)) : Prop where
  seq : SqT K H a (rs.map fun t => V.ref t.1)
  each : ∀ t ∈ rs, SqT K H t.1 [.int (t.2.1 : Nat), .int (t.2.2 : Nat)] ∧ IsRat t.2.1 t.2.2
theorem RatsAt.same {K : PySem.W.Frag} {H H' : Hp} {a : Addr} {rs : List (Addr × Nat × Nat)} (s : Same H H') (h : RatsAt K H a rs) : RatsAt K H' a rs :=
  ⟨Same.seqT s h.seq, fun t ht => ⟨Same.seqT s (h.each t ht).1, (h.each t ht).2⟩⟩
def ratsOf (rs : List (Addr × Nat × Nat)) : List Rat := rs.map fun t => rat t.2.1 t.2.2
def BestAt (K : PySem.W.Frag) (H : Hp) (g : Nat → Rat) (i : Nat) (bv : V) : Prop :=
  (fairF g i = none ∧ bv = .non) ∨ ∃ (s : Nat) (w : Rat) (T W : Addr), fairF g i = some (s, w) ∧ bv = .ref T ∧ H T = some (.tup [.int (s : Nat), .ref W]) ∧ RatAt K H W w ∧ Bd w 3402
theorem BestAt.same {K : PySem.W.Frag} {H H' : Hp} {g : Nat → Rat} {i : Nat} {bv : V} (s : Same H H') (h : BestAt K H g i bv) : BestAt K H' g i bv := by
  rcases h with h | ⟨st, w, T, W, a, b, c, d, e⟩
  · exact .inl h
  · exact .inr ⟨st, w, T, W, a, b, s _ _ c, d.same s, e⟩
theorem take_rats {rs : List (Addr × Nat × Nat)} {j : Nat} {t : Addr × Nat × Nat} (h : rs[j]? = some t) : (ratsOf rs).take (j + 1) = (ratsOf rs).take j ++ [rat t.2.1 t.2.2] := by
  refine take_more ?_
  unfold ratsOf
  rw [List.getElem?_map, h]
  rfl
theorem bd_mean {p q : Nat} (hr0 : IsRat p q) {m : Nat} (h1 : 1 ≤ m) (h64 : m ≤ 64) : Bd (meanR m (rat p q)) 1700 := by
  have hq := hr0.q30
  have hp := hr0.p1
  have hpq := hr0.pq
  have h6 := wide_64 h64
  have hsh := short_lt h1
  have L0 := left_pos hr0 h1
  have b1 : Bd (rat p q ^ m) 321 := (Bd.pow (p := p) (q := q) (by omega) hq (by omega) m).mono (by omega)
  have b2 : Bd (rat p q ^ shortN m) 321 := (Bd.pow (p := p) (q := q) (by omega) hq (by omega) (shortN m)).mono (by omega)
  have b3 : Bd (1 : Rat) 1 := ⟨by decide, by decide⟩
  have b4 := Bd.sub b3 b1
  have b6 : Bd ((if (wideN m : Int) > 1 then (wideN m : Int) else 1 : Int) : Rat) 3 := ⟨by
    show (if (wideN m : Int) > 1 then (wideN m : Int) else 1 : Int).natAbs < 2 ^ 3
    split <;> omega, by show 1 < 2 ^ 3; decide⟩
  have ba := Bd.add b6 (Bd.quot b1 b4 L0)
  have b5 : Bd (if 0 < wideN m then (rat p q ^ shortN m - rat p q ^ m) / (1 - rat p q ^ m) else 0) 970 := by
    split
    · exact (Bd.quot (Bd.sub b2 b1) b4 L0).mono (by omega)
    · exact bd_zero _ (by decide)
  exact (Bd.add ba b5).mono (by omega)
end St
namespace St
open PySem PySem.Spec PyProof.Rows L2
/-! ### the words of a book by their places in the order -/
def offs (o : List (Nat × Nat)) (i : Nat) : Nat := ((o.take i).map fun p => 2 ^ (60 - p.1)).sum
theorem offs_zero (o : List (Nat × Nat)) : offs o 0 = 0 := rfl
theorem offs_succ {o : List (Nat × Nat)} {i l n : Nat} (h : o[i]? = some (l, n)) : offs o (i + 1) = offs o i + 2 ^ (60 - l) := by
  unfold offs
  rw [take_more h, List.map_append, List.sum_append]
  simp
theorem offs_cons (p : Nat × Nat) (r : List (Nat × Nat)) (i : Nat) : offs (p :: r) (i + 1) = 2 ^ (60 - p.1) + offs r i := by
  unfold offs
  rw [List.take_succ_cons, List.map_cons, List.sum_cons]
theorem offs_mono (o : List (Nat × Nat)) (i d : Nat) : offs o i ≤ offs o (i + d) := by
  induction d with
  | zero => exact Nat.le_refl _
  | succ d ih =>
    cases e : o[i + d]? with
    | some p =>
      obtain ⟨l, n⟩ := p
      rw [← Nat.add_assoc, offs_succ e]
      exact Nat.le_trans ih (Nat.le_add_right _ _)
    | none =>
      have := List.getElem?_eq_none_iff.mp e
      have e1 : offs o (i + (d + 1)) = offs o (i + d) := by
        unfold offs
        rw [List.take_of_length_le (by omega), List.take_of_length_le (by omega)]
      omega
theorem wordsO_len : ∀ (o : List (Nat × Nat)) (c : Nat) (f : List (List Bool)), (wordsO o c f).length = f.length
  | [], _, _ => rfl
  | (l, n) :: r, c, f => by rw [wordsO, wordsO_len r, List.length_set]
theorem wordsO_keep : ∀ (o : List (Nat × Nat)) (c : Nat) (f : List (List Bool)) (n : Nat), n ∉ o.map (·.2) → (wordsO o c f)[n]? = f[n]?
  | [], _, _, _, _ => rfl
  | (l, m) :: r, c, f, n, h => by
    rw [List.map_cons, List.mem_cons, not_or] at h
    rw [wordsO, wordsO_keep r _ _ n h.2, List.getElem?_set_ne (Ne.symm h.1)]
theorem wordsO_at : ∀ (o : List (Nat × Nat)) (c : Nat) (f : List (List Bool)) (i l n : Nat), o[i]? = some (l, n) → (o.map (·.2)).Nodup → n < f.length → (wordsO o c f)[n]? = some (fig ((c + offs o i) / 2 ^ (60 - l)) l)
  | [], _, _, _, _, _, h, _, _ => by simp at h
  | (l0, n0) :: r, c, f, 0, l, n, h, nd, hn => by
    cases Option.some.inj (show some (l0, n0) = some (l, n) from h)
    rw [List.map_cons, List.nodup_cons] at nd
    rw [wordsO, wordsO_keep r _ _ n0 nd.1, List.getElem?_set_self hn, offs_zero, Nat.add_zero]
  | (l0, n0) :: r, c, f, i + 1, l, n, h, nd, hn => by
    rw [List.map_cons, List.nodup_cons] at nd
    rw [wordsO, wordsO_at r _ _ i l n h nd.2 (by rw [List.length_set]; exact hn), offs_cons, Nat.add_assoc]
theorem IsOrd.nd {ls : List Nat} {o : List (Nat × Nat)} (h : IsOrd ls o) : (o.map (·.2)).Nodup := by
  have := h.perm.map (·.2)
  rw [List.zipIdx_map_snd] at this
  exact (this.nodup_iff).mpr List.nodup_range'
theorem IsOrd.len {ls : List Nat} {o : List (Nat × Nat)} (h : IsOrd ls o) : o.length = ls.length := by
  rw [h.perm.length_eq, List.length_zipIdx]
theorem IsOrd.has {ls : List Nat} {o : List (Nat × Nat)} (h : IsOrd ls o) {k l : Nat} (hk : ls[k]? = some l) : ∃ i : Nat, o[i]? = some (l, k) := by
  have : (l, k) ∈ ls.zipIdx := List.mem_iff_getElem?.mpr ⟨k, by rw [List.getElem?_zipIdx, hk]; simp⟩
  exact List.getElem?_of_mem (h.perm.mem_iff.mpr this)
theorem IsOrd.of {ls : List Nat} {o : List (Nat × Nat)} (h : IsOrd ls o) {i k l : Nat} (hk : o[i]? = some (l, k)) : ls[k]? = some l := by
  have := h.perm.mem_iff.mp (List.mem_of_getElem? hk)
  obtain ⟨j, hj⟩ := List.getElem?_of_mem this
  rw [List.getElem?_zipIdx] at hj
  cases e : ls[j]? with
  | none => rw [e] at hj; cases hj
  | some z =>
    rw [e] at hj
    cases Option.some.inj hj
    rw [Nat.zero_add]
    exact e
theorem IsOrd.room {ls : List Nat} {o : List (Nat × Nat)} (h : IsOrd ls o) : offs o o.length = roomN ls := by
  unfold offs roomN
  rw [List.take_length]
  have e := (h.perm.map fun p => 2 ^ (60 - p.1)).sum_nat
  rw [e]
  congr 1
  have : (ls.zipIdx.map Prod.fst) = ls := List.zipIdx_map_fst 0 ls
  conv => rhs; rw [← this]
  rw [List.map_map]
  rfl
theorem IsOrd.two {ls : List Nat} {o : List (Nat × Nat)} (h : IsOrd ls o) {i j a b l m : Nat} (hi : o[i]? = some (l, a)) (hj : o[j]? = some (m, b)) (hij : i < j) : l ≤ m ∧ offs o i + 2 ^ (60 - l) ≤ offs o j ∧ offs o j + 2 ^ (60 - m) ≤ roomN ls := by
  have hjl := (List.getElem?_eq_some_iff.mp hj).1
  refine ⟨?_, ?_, ?_⟩
  · obtain ⟨hi', ei⟩ := List.getElem?_eq_some_iff.mp hi
    obtain ⟨hj', ej⟩ := List.getElem?_eq_some_iff.mp hj
    have := List.pairwise_iff_getElem.mp h.pw i j hi' hj' hij
    rw [ei, ej] at this
    unfold lexL at this
    dsimp only at this
    omega
  · rw [← offs_succ hi]
    have := offs_mono o (i + 1) (j - (i + 1))
    rw [show i + 1 + (j - (i + 1)) = j by omega] at this
    exact this
  · rw [← offs_succ hj, ← h.room]
    have := offs_mono o (j + 1) (o.length - (j + 1))
    rw [show j + 1 + (o.length - (j + 1)) = o.length by omega] at this
    exact this
/-- no word begins another one -/
theorem book_free {ls : List Nat} {o : List (Nat × Nat)} (h : IsOrd ls o) (h60 : ∀ l ∈ ls, l ≤ 60) (hr : roomN ls ≤ 2 ^ 60) {i j a b l m : Nat} (hi : o[i]? = some (l, a)) (hj : o[j]? = some (m, b)) (hab : a ≠ b) :
    (fig (offs o j / 2 ^ (60 - m)) m).take l ≠ fig (offs o i / 2 ^ (60 - l)) l := by
  have hl := h60 l (List.mem_of_getElem? (h.of hi))
  have hm := h60 m (List.mem_of_getElem? (h.of hj))
  have p1 : 0 < 2 ^ (60 - m) := Nat.pow_pos (by decide)
  have p2 : 0 < 2 ^ (60 - l) := Nat.pow_pos (by decide)
  rcases Nat.lt_trichotomy i j with c | c | c
  · obtain ⟨h1, h2, h3⟩ := h.two hi hj c
    exact book_pre h1 hm h2 (by omega)
  · subst c
    rw [hi] at hj
    cases Option.some.inj hj
    exact absurd rfl hab
  · obtain ⟨h1, h2, h3⟩ := h.two hj hi c
    intro e
    have el := congrArg List.length e
    rw [List.length_take, fig_len, fig_len] at el
    have : l = m := by omega
    subst this
    rw [List.take_of_length_le (by rw [fig_len]; exact Nat.le_refl _)] at e
    refine book_pre (Nat.le_refl l) hl h2 (by omega) ?_
    rw [List.take_of_length_le (by rw [fig_len]; exact Nat.le_refl _)]
    exact e.symm
theorem nodup_idx {α : Type} {l : List α} (h : l.Nodup) {i j : Nat} {x : α} (hi : l[i]? = some x) (hj : l[j]? = some x) : i = j := by
  obtain ⟨a1, a2⟩ := List.getElem?_eq_some_iff.mp hi
  obtain ⟨b1, b2⟩ := List.getElem?_eq_some_iff.mp hj
  rcases Nat.lt_trichotomy i j with c | c | c
  · exact absurd (a2.trans b2.symm) (List.pairwise_iff_getElem.mp h i j a1 b1 c)
  · exact c
  · exact absurd (b2.trans a2.symm) (List.pairwise_iff_getElem.mp h j i b1 a1 c)
theorem LawH.keepBut {H H' : Hp} {h q E : Addr} (L : LawH H h q) (k : ∀ b u, b ≠ E → H b = some u → H' b = some u) (n1 : h ≠ E) (n2 : q ≠ E) : LawH H' h q := by
  obtain ⟨ne, st, ix, cells, a, b, d⟩ := L
  exact ⟨ne, st, ix, cells, k _ _ n1 a, k _ _ n2 b, d⟩
theorem dp_strs {K : PySem.W.Frag} {H : Hp} : ∀ (ws : List Str), DpAll K H (ws.map V.str) (ws.map PyData.str)
  | [] => .nil
  | w :: ws => .cons (.str w) (dp_strs ws)
end St
namespace St
open PySem PySem.Spec PyProof.Rows L2
/-! ### sorted of a tuple of numbers -/
section
variable {prog : Program} {w : World} {A : Around} {E : Value → Shared → Prop} {s : Shared}
/-- the items of a tuple, in a list of their own -/
theorem collectT {a : Addr} {us : List Value} {R : List Value → Shared → Prop} (ha : s.heap.IsTuple a us.toArray) (hn : us.length ≤ sizeLine)
    (k : R us { s with heap := (s.heap.push (seqObj "list" #[] 0)).update s.heap.objs.size (Obj.mapSeq (· ++ us.toArray)) }) : wpAny (model prog w) A (collect (.ref a)) R E s := by
  obtain ⟨o, eo, ec, n, ed⟩ := id ha
  unfold collect
  refine wpAny_bind (wpAny_runValue (codeAny_builtin entry_proto_collect' ?_))
  show wpAny _ _ (do again (.builtin "list.__iadd__" ⟨[← newList [], .ref a], []⟩)) _ _ s
  refine wpAny_bind (wpAny_newList (wpAny_pure ⟨Code.quiet_builtin _ (by decide +kernel), codeAny_builtin entry_list_iadd' ?_⟩))
  show wpAny _ _ (Builtin.List.listExtendWith (.ref s.heap.objs.size) (.ref a) (.ref s.heap.objs.size)) _ _ { s with heap := s.heap.push (seqObj "list" #[] 0) }
  unfold Builtin.List.listExtendWith
  have eo' : (s.heap.push (seqObj "list" #[] 0)).get? a = some o := Heap.get?_push_of_some _ eo
  have et : ∀ b : Bool, (b || Value.type "tuple" == Value.type "list" || Value.type "tuple" == Value.type "tuple") = true := fun b => by cases b <;> decide
  refine wpAny_bind (wpAny_typeOf (T := "tuple") ⟨o, eo', ec⟩ ?_)
  rw [if_pos (et _)]
  refine wpAny_bind (listItems_at eo' ed ?_)
  refine wpAny_bind (listItems_at (xs := #[]) (n := 0) (Heap.get?_push_size _ rfl) rfl ?_)
  rw [if_neg (by simp)]
  refine wpAny_bind (listUpdate_at (xs := #[]) (n := 0) (Heap.get?_push_size _ rfl) rfl ?_ (Nat.zero_le _) (by show (#[] ++ us.toArray).size ≤ sizeLine + 1; simp only [Array.size_append, List.size_toArray, List.length_nil]; omega))
  refine wpAny_pure ?_
  show wpAny (model prog w) A (do
      let o ← load s.heap.objs.size
      match o.data with
      | .seq xs _ => pure xs.toList
      | _ => unsupported "internal:collect") R E { s with heap := (s.heap.push (seqObj "list" #[] 0)).update s.heap.objs.size (Obj.mapSeq (· ++ us.toArray)) }
  refine wpAny_bind (wpAny_load (get?_update_seq (Heap.get?_push_size _ rfl) _) ?_)
  show wpAny _ _ (pure ((#[] : Array Value) ++ us.toArray).toList) R E _
  have eu : ((#[] : Array Value) ++ us.toArray).toList = us := by simp
  rw [eu]
  exact wpAny_pure k
theorem sortedT {a : Addr} {us : List Value} {ns : List Int} {R : Value → Shared → Prop} (ha : s.heap.IsTuple a us.toArray) (hi : IntsAre us ns) (h64 : us.length < 64)
    (k : ∀ (out : Array Value) (ns' : List Int), IntsAre out.toList ns' → ns'.Perm ns → ns'.Pairwise (· ≤ ·) → R (.ref (s.heap.objs.size + 1)) { s with heap := sortedAll s.heap us out }) :
    wpAny (model prog w) A (call (.builtin "sorted") [.ref a]) R E s := by
  have hn := sizeLine_eq
  refine Calls.call_function_entry kind_sorted plain_sorted entry_sorted (args_sorted1 _) ?_
  unfold Builtin.«sorted»
  refine wpAny_bind (m := checkCount "sorted" 1 1 _) (wpAny_pure ?_)
  refine wpAny_bind (collectT ha (by omega) ?_)
  refine wpAny_bind (wpAny_newList ?_)
  have z1 : ((s.heap.push (seqObj "list" #[] 0)).update s.heap.objs.size (Obj.mapSeq (· ++ us.toArray))).objs.size = s.heap.objs.size + 1 := by
    rw [Heap.size_update, size_push']
  have z2 : (((s.heap.push (seqObj "list" #[] 0)).update s.heap.objs.size (Obj.mapSeq (· ++ us.toArray))).push (seqObj "list" us.toArray 0)).get? (s.heap.objs.size + 1) = some (seqObj "list" us.toArray 0) := by
    rw [← z1]; exact Heap.get?_push_size _ rfl
  show wpAny _ _ _ _ _ { s with heap := ((s.heap.push (seqObj "list" #[] 0)).update s.heap.objs.size (Obj.mapSeq (· ++ us.toArray))).push (seqObj "list" us.toArray 0) }
  rw [z1]
  refine wpAny_bind (wpAny_holding (wpAny_call_entry slot_list_sort ⟨_, z2, rfl⟩ entry_list_sort (list_sort_tree z2 hi h64 fun out ns' b1 b2 b3 => ⟨_, rfl, ?_⟩) (args_list_sort _)))
  exact wpAny_pure ⟨_, rfl, k out ns' b1 b2 b3⟩
end
def rSortedTI (K : PySem.W.Frag) : List V → Hp → VK → Prop := fun vs H Q => ∃ (a : Addr) (ns : List Int), vs = [V.ref a] ∧ SqT K H a (ns.map V.int) ∧ ns.length < 64 ∧
  ∀ (ns' : List Int) (p : Addr), ns'.Perm ns → ns'.Pairwise (· ≤ ·) → H p = none → Q (.ref p) (upd H p (.lst (ns'.map V.int)))
theorem cr_sortedTI {X : Cx} : CallR X (.builtin "sorted") (rSortedTI X.K) := by
  intro pins s σ H vs us Q I r h
  obtain ⟨a, ns, rfl, hs, h64, q⟩ := h
  obtain ⟨its, rv, pl, hz⟩ := I.tuple hs
  rw [Vals.ref1 r]
  have hl := rv.length
  rw [List.length_map] at hl
  refine sortedT pl rv.ints (by omega) fun out ns' h1 h2 h3 => ?_
  obtain ⟨c, hc⟩ := sortedAll_at s.heap its out
  refine ⟨.ref _, upd H (s.heap.objs.size + 1) (.lst (ns'.map V.int)), I.laid (t' := s.toks) (fun b o e => sortedAll_old e) (Nat.le_succ _) ⟨?_, out.toList, c, vals_of_ints h1, by simpa using hc⟩, rfl, q ns' _ h2 h3 (I.hok.fresh (Nat.le_succ _))⟩
  rw [List.length_map, h2.length_eq]
  have := sizeLine_eq
  omega
end St
namespace St
open PySem PySem.Spec PyProof.Rows L2
def topS (i : Nat) : Stmt := PySem.Challenge.pw_stepruns_k07_whole_finite_books.main.body.getD i (.Pass ⟨0, 0, 0, 0⟩)

abbrev s__law_mix : Stmt := topS 29
theorem sc__law_mix : FnScope ["_law_script", "_law_seed", "_law_state", "_law_cell"] ["_law_script", "_law_seed"] (defScope s__law_mix) := ⟨rfl, rfl, rfl, by decide +kernel, rfl, by decide +kernel, by decide +kernel⟩
def sp__law_mix (K : PySem.W.Frag) : Sp := fun vs H Q _ => ∃ (a : Addr) (ns : List Int) (sd : Int), vs = [.ref a, .int sd] ∧ SqL K H a (ns.map V.int) ∧ ns.length ≤ 63 ∧
  ∀ (h q : Addr) (H' : Hp), Same H H' → H h = none → H q = none → LawH H' h q → Q (.ref h) H'
section
variable {P : Program} {w : World} {K : PySem.W.Frag} {mg : Str → Option Value} {base : Heap}
theorem ok__law_mix (A : At K mg "_law_mix" s__law_mix ["_law_script", "_law_seed"]) (B : Bn mg) : CalE P w K mg base "_law_mix" ["_law_script", "_law_seed"] 1 (sp__law_mix K) := by
  obtain ⟨f, fd, F, gF, bF⟩ := A
  refine ⟨f, fd, F.ok sc__law_mix (fun vs H Q E h => ?_) (fun cdv A outer s H vs Q E hr h => ?_), gF, F.kp, bF⟩
  · repeat (first | (obtain ⟨rfl, _⟩ := h; rfl) | (obtain ⟨_, h⟩ := h))
  · obtain ⟨a, ns, sd, rfl, hS, hl, q⟩ := h
    refine ⟨_, (pss_cons (ps_set (i := 2) sc__law_mix.nd rfl (.inl rfl) (pv 1))
      (pss_cons (ps_for PassesOwn.never rfl (pi_list (pv 0)) (pg_name (i := 3) sc__law_mix.nd rfl (.inl rfl))
      (pss_one (ps_set (i := 2) sc__law_mix.nd rfl (.inl rfl) (pe_op op_mod (pe_callTy call_int1 (by rfl) B.int_ (by decide +kernel) (pa_cons (pe_op op_add (pe_op op_add (pe_op op_mul (pv 2) pe_int) (pe_op op_mod (pe_callTy call_int1 (by rfl) B.int_ (by decide +kernel) (pa_cons (pv 3) pa_nil)) pe_int)) pe_int) pa_nil)) pe_int))))
      (pss_one (ps_ret (pe_lst (pa_cons (pv 2) (pa_cons (pe_callTy (call_list_of_ K) (by rfl) B.list_ (by decide +kernel) (pa_cons (pv 0) pa_nil)) (pa_cons pe_int pa_nil)))))))), ?_⟩
    -- _law_state = _law_seed
    refine ⟨_, rfl, ?_⟩
    refine ⟨_, rfl, a, rfl, ⟨_, hS⟩, for_list (K := K) (a := a) (xs := ns.map V.int) (fun i σ H2 => ∃ (st : Int) (v : Option V), σ = [some (.ref a), some (.int sd), some (.int st), v] ∧ H2 = H)
      ⟨_, _, rfl, rfl⟩ (fun i σ H2 _ ⟨_, _, _, e⟩ => e ▸ hS) ?_ ?_⟩
    · rintro i y σ H2 hi ⟨st, v, rfl, rfl⟩
      obtain ⟨z, rfl⟩ : ∃ z, y = V.int z := by
        rw [List.getElem?_map] at hi
        cases e : ns[i]? with
        | none => rw [e] at hi; cases hi
        | some z => rw [e] at hi; exact ⟨z, (Option.some.inj hi).symm⟩
      refine ⟨_, rfl, _, _, rfl, rfl, .inr (by omega), _, rfl, .inl ⟨_, rfl, _, _, rfl, rfl, (by decide : (0 : Int) < 2147483629), _, _, rfl, rfl, _, _, rfl, rfl, .inl ⟨_, rfl, _, _, rfl, rfl, (by decide : (0 : Int) < 2147483647), ?_⟩⟩⟩
      exact ⟨_, _, rfl, rfl⟩
    · rintro σ H2 ⟨st, v, rfl, rfl⟩
      -- return [state, list(script), 0]
      refine ⟨_, rfl, _, rfl, a, _, rfl, .inl hS, fun c nc => ⟨(by show 3 ≤ sizeLine; decide), fun p np => ?_⟩⟩
      have npc : p ≠ c := fun e => by rw [e, upd_same] at np; cases np
      refine q p c _ ((same_new nc _).trans (same_new np _)) ((same_new nc _).free np) nc ⟨npc, st, 0, ns, upd_same, ?_, by omega⟩
      rw [upd_ne npc.symm, upd_same]
end

abbrev s_is_integer : Stmt := topS 9
theorem sc_is_integer : FnScope ["thing", "low", "high"] ["thing", "low", "high"] (defScope s_is_integer) := ⟨rfl, rfl, rfl, by decide +kernel, rfl, by decide +kernel, by decide +kernel⟩
/-- the values of «any value» -/
inductive AnyV (K : PySem.W.Frag) (H : Hp) : V → Prop
  | non : AnyV K H .non
  | bl (b : Bool) : AnyV K H (.bl b)
  | int (i : Int) : AnyV K H (.int i)
  | str (x : Str) : AnyV K H (.str x)
  | lst {a : Addr} (h : TyX K H (.ref a) (.type "list")) : AnyV K H (.ref a)
  | tup {a : Addr} (h : TyX K H (.ref a) (.type "tuple")) : AnyV K H (.ref a)
  | dct {a : Addr} (h : TyX K H (.ref a) (.type "dict")) : AnyV K H (.ref a)
def isI (x : V) (lo hi : Int) : Bool := match x with
  | .int n => decide (lo ≤ n) && decide (n ≤ hi)
  | _ => false
theorem isI_yes {n lo hi : Int} (h : lo ≤ n) (h' : n ≤ hi) : isI (.int n) lo hi = true := by
  show (decide (lo ≤ n) && decide (n ≤ hi)) = true
  rw [decide_eq_true h, decide_eq_true h']
  rfl
def sp_is_integer (K : PySem.W.Frag) : Sp := fun vs H Q _ => ∃ (x : V) (lo hi : Int), vs = [x, .int lo, .int hi] ∧ AnyV K H x ∧ Q (.bl (isI x lo hi)) H
section
variable {P : Program} {w : World} {K : PySem.W.Frag} {mg : Str → Option Value} {base : Heap}
theorem ok_is_integer (A : At K mg "is_integer" s_is_integer ["thing", "low", "high"]) (B : Bn mg) : CalE P w K mg base "is_integer" ["thing", "low", "high"] 1 (sp_is_integer K) := by
  obtain ⟨f, fd, F, gF, bF⟩ := A
  refine ⟨f, fd, F.ok sc_is_integer (fun vs H Q E h => ?_) (fun cdv A outer s H vs Q E hr h => ?_), gF, F.kp, bF⟩
  · repeat (first | (obtain ⟨rfl, _⟩ := h; rfl) | (obtain ⟨_, h⟩ := h))
  · obtain ⟨x, lo, hi, rfl, hx, q⟩ := h
    refine ⟨_, (pss_one (ps_ret (pe_and (pe_callB (call_isi_ K) (by rfl) B.isinstance_ (by decide +kernel) (pa_cons (pv 0) (pa_cons (pe_bltn (v := .ty "int") (by rfl) B.int_ (by decide +kernel) rfl) pa_nil))) (pe_and (pe_not (pe_callB (call_isi_ K) (by rfl) B.isinstance_ (by decide +kernel) (pa_cons (pv 0) (pa_cons (pe_bltn (v := .ty "bool") (by rfl) B.bool_ (by decide +kernel) rfl) pa_nil)))) (pe_one (pe_chain op_le op_le (pv 1) (pv 0) (pv 2))))))), ?_⟩
    have no : ∀ T : String, TyX K H x (.type T) → kitB T "int" = some false → isI x lo hi = false → (tRet (tAndV (tCB (rIsi K) (tCons (tVar 0) (tCons (tC (.ty "int")) tNil))) (tAndV (tNotV (tCB (rIsi K) (tCons (tVar 0) (tCons (tC (.ty "bool")) tNil)))) (tChain (rI0 fun i j => .bl (decide (i ≤ j))) (rI0 fun i j => .bl (decide (i ≤ j))) (tVar 1) (tVar 0) (tVar 2))))) { nx := fun _ H' => Q .non H', rt := Q } (start ["thing", "low", "high"] [x, .int lo, .int hi]) H := fun T hT hk hi => by
      refine ⟨_, rfl, _, _, _, _, false, rfl, .ty _, hT, kit_ty hk, _, rfl, iteF ?_⟩
      rw [hi] at q
      exact q
    cases hx with
    | non => exact no _ (.base .non) (by decide +kernel) rfl
    | str z => exact no _ (.base (.str z)) (by decide +kernel) rfl
    | lst h => exact no _ h (by decide +kernel) rfl
    | tup h => exact no _ h (by decide +kernel) rfl
    | dct h => exact no _ h (by decide +kernel) rfl
    | bl b =>
      refine ⟨_, rfl, _, _, _, _, true, rfl, .ty _, .base (.bl b), kit_ty (by decide +kernel), _, rfl, iteT ?_⟩
      refine ⟨_, rfl, _, _, _, _, true, rfl, .ty _, .base (.bl b), kit_ty (by decide +kernel), _, rfl, _, rfl, iteF ?_⟩
      exact q
    | int n =>
      refine ⟨_, rfl, _, _, _, _, true, rfl, .ty _, .base (.int n), kit_ty (by decide +kernel), _, rfl, iteT ?_⟩
      refine ⟨_, rfl, _, _, _, _, false, rfl, .ty _, .base (.int n), kit_ty (by decide +kernel), _, rfl, _, rfl, iteT ?_⟩
      refine ⟨_, rfl, _, rfl, _, _, rfl, rfl, _, rfl, ?_⟩
      have e : isI (.int n) lo hi = (decide (lo ≤ n) && decide (n ≤ hi)) := rfl
      rw [e] at q
      by_cases c : lo ≤ n
      · rw [decide_eq_true c]
        rw [decide_eq_true c, Bool.true_and] at q
        exact iteT ⟨_, rfl, _, _, rfl, rfl, q⟩
      · rw [decide_eq_false c]
        rw [decide_eq_false c, Bool.false_and] at q
        exact iteF q
end

abbrev s_check_lengths : Stmt := topS 23
theorem sc_check_lengths : FnScope ["thing", "index", "length"] ["thing"] (defScope s_check_lengths) := ⟨rfl, rfl, rfl, by decide +kernel, rfl, by decide +kernel, by decide +kernel⟩
def sp_check_lengths (K : PySem.W.Frag) : Sp := fun vs H Q _ => ∃ (a : Addr) (ls : List Nat), vs = [.ref a] ∧ SqT K H a (ls.map fun n => V.int (n : Nat)) ∧ IsLens ls ∧ ∀ H', Same H H' → Q .non H'
section
variable {P : Program} {w : World} {K : PySem.W.Frag} {mg : Str → Option Value} {base : Heap}
theorem ok_check_lengths (A : At K mg "check_lengths" s_check_lengths ["thing"]) (B : Bn mg) (H_is_integer : CalE P w K mg base "is_integer" ["thing", "low", "high"] 1 (sp_is_integer K)) (K_MOST_COUNT : ∃ v, mg "MOST_COUNT" = some v ∧ RelV (.int 40) v) (K_MOST_LENGTH : ∃ v, mg "MOST_LENGTH" = some v ∧ RelV (.int 60) v) : CalE P w K mg base "check_lengths" ["thing"] 2 (sp_check_lengths K) := by
  obtain ⟨f, fd, F, gF, bF⟩ := A
  obtain ⟨f_is_integer, fd_is_integer, G_is_integer⟩ := H_is_integer
  obtain ⟨v_MOST_COUNT, C_MOST_COUNT⟩ := K_MOST_COUNT
  obtain ⟨v_MOST_LENGTH, C_MOST_LENGTH⟩ := K_MOST_LENGTH
  refine ⟨f, fd, F.ok sc_check_lengths (fun vs H Q E h => ?_) (fun cdv A outer s H vs Q E hr h => ?_), gF, F.kp, bF⟩
  · repeat (first | (obtain ⟨rfl, _⟩ := h; rfl) | (obtain ⟨_, h⟩ := h))
  · obtain ⟨a, ns, rfl, hS, ⟨hl1, hl, hn⟩, k⟩ := h
    obtain ⟨_, rfl⟩ := C_MOST_COUNT.2
    obtain ⟨_, rfl⟩ := C_MOST_LENGTH.2
    have lm : (ns.map fun n => V.int (n : Nat)).length = ns.length := List.length_map _
    refine ⟨_, (pss_cons (ps_if (PW.pt (pw_or (pt_not (pt_val (pe_callB (call_isi_ K) (by rfl) B.isinstance_ (by decide +kernel) (pa_cons (pv 0) (pa_cons (pe_bltn (v := .ty "tuple") (by rfl) B.tuple_ (by decide +kernel) rfl) pa_nil))))) (pw_or1 (pt_not (pt_chain op_le op_le pe_int (pe_callB (call_len_seq_ K) (by rfl) B.len_ (by decide +kernel) (pa_cons (pv 0) pa_nil)) (pe_glob (by rfl) C_MOST_COUNT.1 C_MOST_COUNT.2))))))
      (pss_one ps_never)
      pss_nil)
      (pss_one (ps_for PassesOwn.never rfl (pi_enumT (by rfl) B.enumerate_ (pa_cons (pv 0) pa_nil)) (pg_tup (by rfl) (pgs_cons (pg_name (i := 1) sc_check_lengths.nd rfl (.inl rfl)) (pgs_cons (pg_name (i := 2) sc_check_lengths.nd rfl (.inl rfl)) pgs_nil)))
      (pss_one (ps_if (pt_not (pt_val (pe_call G_is_integer.ok (hr.mono (by first | decide | exact Nat.le_refl _)) (by rfl) G_is_integer.g G_is_integer.kp G_is_integer.b .nil pass0 (pa_cons (pv 2) (pa_cons pe_int (pa_cons (pe_glob (by rfl) C_MOST_LENGTH.1 C_MOST_LENGTH.2) pa_nil))))))
      (pss_one ps_never)
      pss_nil))))), ?_⟩
    refine ⟨_, rfl, _, _, _, _, true, rfl, .ty _, tyT hS, kit_ty (by decide +kernel), _, rfl, iteF ?_⟩
    refine ⟨_, rfl, a, _, rfl, .inr hS, _, _, rfl, rfl, _, rfl, iteDT (by rw [lm]; omega) ?_⟩
    refine ⟨_, _, rfl, rfl, _, rfl, iteNF (by rw [lm]; omega) ?_⟩
    refine ⟨_, rfl, a, _, rfl, hS, for_enumT (K := K) (a := a) (xs := ns.map fun n => V.int (n : Nat)) (fun i σ H2 => ∃ v1 v2, σ = [some (.ref a), v1, v2] ∧ Same H H2) ⟨_, _, rfl, Same.refl _⟩ (fun i σ H2 _ ⟨_, _, _, s⟩ => Same.seqT s hS) ?_ ?_⟩
    · rintro i x σ H2 T hx ⟨v1, v2, rfl, s2⟩ nT
      obtain ⟨z, hz, rfl⟩ := geti_nat hx
      have hzb := hn z (List.mem_of_getElem? hz)
      refine ⟨T, _, rfl, .inl (.inl upd_same), rfl, _, _, rfl, _, _, rfl, rfl, ?_⟩
      refine ⟨_, rfl, _, _, _, rfl, .int _, ?_⟩
      rw [isI_yes (by omega) (by omega)]
      exact ⟨_, rfl, iteF ⟨_, _, rfl, s2.trans (same_new nT _)⟩⟩
    · rintro σ H2 ⟨v1, v2, rfl, s2⟩
      exact k H2 s2
end

abbrev s_is_ratio : Stmt := topS 15
theorem sc_is_ratio : FnScope ["thing"] ["thing"] (defScope s_is_ratio) := ⟨rfl, rfl, rfl, by decide +kernel, rfl, by decide +kernel, by decide +kernel⟩
def sp_is_ratio (K : PySem.W.Frag) : Sp := fun vs H Q _ => ∃ (a : Addr) (p q : Nat), vs = [.ref a] ∧ SqT K H a [.int (p : Nat), .int (q : Nat)] ∧ IsRat p q ∧ Q (.bl true) H
section
variable {P : Program} {w : World} {K : PySem.W.Frag} {mg : Str → Option Value} {base : Heap}
theorem ok_is_ratio (A : At K mg "is_ratio" s_is_ratio ["thing"]) (B : Bn mg) (H_is_integer : CalE P w K mg base "is_integer" ["thing", "low", "high"] 1 (sp_is_integer K)) (K_MOST_PARTS : ∃ v, mg "MOST_PARTS" = some v ∧ RelV (.int 30) v) : CalE P w K mg base "is_ratio" ["thing"] 2 (sp_is_ratio K) := by
  obtain ⟨f, fd, F, gF, bF⟩ := A
  obtain ⟨f_is_integer, fd_is_integer, G_is_integer⟩ := H_is_integer
  obtain ⟨v_MOST_PARTS, C_MOST_PARTS⟩ := K_MOST_PARTS
  refine ⟨f, fd, F.ok sc_is_ratio (fun vs H Q E h => ?_) (fun cdv A outer s H vs Q E hr h => ?_), gF, F.kp, bF⟩
  · repeat (first | (obtain ⟨rfl, _⟩ := h; rfl) | (obtain ⟨_, h⟩ := h))
  · obtain ⟨a, p, q, rfl, hS, hr0, k⟩ := h
    obtain ⟨_, rfl⟩ := C_MOST_PARTS.2
    have hp := hr0.p1
    have hpq := hr0.pq
    have hq := hr0.q30
    refine ⟨_, (pss_cons (ps_if (PW.pt (pw_or (pt_not (pt_val (pe_callB (call_isi_ K) (by rfl) B.isinstance_ (by decide +kernel) (pa_cons (pv 0) (pa_cons (pe_bltn (v := .ty "tuple") (by rfl) B.tuple_ (by decide +kernel) rfl) pa_nil))))) (pw_or1 (pt_cmpR op_ne (pe_callB (call_len_seq_ K) (by rfl) B.len_ (by decide +kernel) (pa_cons (pv 0) pa_nil)) pe_int (nomark _)))))
      (pss_one (ps_ret pe_bl))
      pss_nil)
      (pss_one (ps_ret (pe_and (pe_call G_is_integer.ok (hr.mono (by first | decide | exact Nat.le_refl _)) (by rfl) G_is_integer.g G_is_integer.kp G_is_integer.b .nil pass0 (pa_cons (pe_ix (ix_tup_ K) (pv 0) pe_int (fun _ _ => rfl)) (pa_cons pe_int (pa_cons (pe_glob (by rfl) C_MOST_PARTS.1 C_MOST_PARTS.2) pa_nil)))) (pe_one (pe_call G_is_integer.ok (hr.mono (by first | decide | exact Nat.le_refl _)) (by rfl) G_is_integer.g G_is_integer.kp G_is_integer.b .nil pass0 (pa_cons (pe_ix (ix_tup_ K) (pv 0) pe_int (fun _ _ => rfl)) (pa_cons pe_int (pa_cons (pe_op op_sub (pe_ix (ix_tup_ K) (pv 0) pe_int (fun _ _ => rfl)) pe_int) pa_nil))))))))), ?_⟩
    refine ⟨_, rfl, _, _, _, _, true, rfl, .ty _, tyT hS, kit_ty (by decide +kernel), _, rfl, iteF ?_⟩
    refine ⟨_, rfl, a, _, rfl, .inr hS, rfl, _, rfl, iteNS rfl ?_⟩
    refine ⟨_, rfl, a, _, 1, _, rfl, rfl, hS, rfl, _, _, _, rfl, .int _, ?_⟩
    rw [isI_yes (by omega) (by omega)]
    refine ⟨_, rfl, iteT ?_⟩
    refine ⟨_, rfl, a, _, 0, _, rfl, rfl, hS, rfl, _, rfl, a, _, 1, _, rfl, rfl, hS, rfl, _, _, rfl, rfl, _, _, _, rfl, .int _, ?_⟩
    rw [isI_yes (by omega) (by omega)]
    exact k
end

abbrev s_check_ratio : Stmt := topS 16
theorem sc_check_ratio : FnScope ["thing"] ["thing"] (defScope s_check_ratio) := ⟨rfl, rfl, rfl, by decide +kernel, rfl, by decide +kernel, by decide +kernel⟩
def sp_check_ratio (K : PySem.W.Frag) : Sp := fun vs H Q _ => ∃ (a : Addr) (p q : Nat), vs = [.ref a] ∧ SqT K H a [.int (p : Nat), .int (q : Nat)] ∧ IsRat p q ∧ Q .non H
section
variable {P : Program} {w : World} {K : PySem.W.Frag} {mg : Str → Option Value} {base : Heap}
theorem ok_check_ratio (A : At K mg "check_ratio" s_check_ratio ["thing"]) (B : Bn mg) (H_is_ratio : CalE P w K mg base "is_ratio" ["thing"] 2 (sp_is_ratio K)) : CalE P w K mg base "check_ratio" ["thing"] 3 (sp_check_ratio K) := by
  obtain ⟨f, fd, F, gF, bF⟩ := A
  obtain ⟨f_is_ratio, fd_is_ratio, G_is_ratio⟩ := H_is_ratio
  refine ⟨f, fd, F.ok sc_check_ratio (fun vs H Q E h => ?_) (fun cdv A outer s H vs Q E hr h => ?_), gF, F.kp, bF⟩
  · repeat (first | (obtain ⟨rfl, _⟩ := h; rfl) | (obtain ⟨_, h⟩ := h))
  · obtain ⟨a, p, q, rfl, hS, hr0, k⟩ := h
    refine ⟨_, (pss_one (ps_if (pt_not (pt_val (pe_call G_is_ratio.ok (hr.mono (by first | decide | exact Nat.le_refl _)) (by rfl) G_is_ratio.g G_is_ratio.kp G_is_ratio.b .nil pass0 (pa_cons (pv 0) pa_nil))))
      (pss_one ps_never)
      pss_nil)), ?_⟩
    exact ⟨_, rfl, a, p, q, rfl, hS, hr0, _, rfl, iteF k⟩
end

abbrev s_chance_weights : Stmt := topS 20
theorem sc_chance_weights : FnScope ["ratio", "count", "found", "number", "weight", "place"] ["ratio", "count"] (defScope s_chance_weights) := ⟨rfl, rfl, rfl, by decide +kernel, rfl, by decide +kernel, by decide +kernel⟩
def wtsV (p q c : Nat) : List V := (List.range c).map fun i => V.int (wtF p q c i)
def sp_chance_weights (K : PySem.W.Frag) : Sp := fun vs H Q _ => ∃ (a : Addr) (p q c : Nat), vs = [.ref a, .int (c : Nat)] ∧ SqT K H a [.int (p : Nat), .int (q : Nat)] ∧ IsRat p q ∧ 1 ≤ c ∧ c ≤ 40 ∧
  ∀ (D : Addr) (H' : Hp), Same H H' → H D = none → H' D = some (.lst (wtsV p q c)) → Q (.ref D) H'
section
variable {P : Program} {w : World} {K : PySem.W.Frag} {mg : Str → Option Value} {base : Heap}
theorem ok_chance_weights (A : At K mg "chance_weights" s_chance_weights ["ratio", "count"]) (B : Bn mg) : CalE P w K mg base "chance_weights" ["ratio", "count"] 1 (sp_chance_weights K) := by
  obtain ⟨f, fd, F, gF, bF⟩ := A
  refine ⟨f, fd, F.ok sc_chance_weights (fun vs H Q E h => ?_) (fun cdv A outer s H vs Q E hr h => ?_), gF, F.kp, bF⟩
  · repeat (first | (obtain ⟨rfl, _⟩ := h; rfl) | (obtain ⟨_, h⟩ := h))
  · obtain ⟨a, p, q, c, rfl, hS, hr0, hc1, hc, k⟩ := h
    have hsz := sizeLine_eq
    have hq := hr0.q30
    have hp := hr0.p1
    have hpq := hr0.pq
    refine ⟨_, (pss_cons (ps_set (i := 2) sc_chance_weights.nd rfl (.inl rfl) (pe_lst pa_nil))
      (pss_cons (ps_for PassesOwn.never rfl (pi_range1 (by rfl) B.range_ (pa_cons (pv 1) pa_nil)) (pg_name (i := 3) sc_chance_weights.nd rfl (.inl rfl))
      (pss_cons (ps_set (i := 4) sc_chance_weights.nd rfl (.inl rfl) pe_int)
      (pss_cons (ps_for PassesOwn.never rfl (pi_range1 (by rfl) B.range_ (pa_cons (pe_op op_sub (pv 1) pe_int) pa_nil)) (pg_name (i := 5) sc_chance_weights.nd rfl (.inl rfl))
      (pss_one (ps_set (i := 4) sc_chance_weights.nd rfl (.inl rfl) (pe_op op_mul (pv 4) (pe_ifExp (pt_cmpR op_lt (pv 5) (pv 3) (nomark _)) (pe_ix (ix_tup_ K) (pv 0) pe_int (fun _ _ => rfl)) (pe_ix (ix_tup_ K) (pv 0) pe_int (fun _ _ => rfl)))))))
      (pss_one (ps_expr (pe_bm PySem.F.plainAttrs_list PySem.F.slot_list_append PySem.F.type_list_append mt_append (pv 2) (pa_cons (pv 4) pa_nil)))))))
      (pss_one (ps_ret (pv 2))))), ?_⟩
    refine ⟨(by show 0 ≤ sizeLine; omega), fun D nD => ?_⟩
    refine ⟨_, rfl, _, rfl, by omega, by omega, ?_⟩
    rw [Int.toNat_natCast]
    refine for_range (lo := 0) (n := c) (fun j σ H2 => ∃ v3 v4 v5, σ = [some (.ref a), some (.int (c : Nat)), some (.ref D), v3, v4, v5] ∧ Same H H2 ∧ H2 D = some (.lst ((wtsV p q c).take j))) ⟨_, _, _, rfl, same_new nD _, by rw [List.take_zero]; exact upd_same⟩ ?_ ?_
    · rintro j σ H2 hj ⟨v3, v4, v5, rfl, s2, eD⟩
      have hS2 := Same.seqT s2 hS
      refine ⟨_, rfl, _, _, rfl, rfl, _, rfl, by omega, by omega, ?_⟩
      rw [show (((c : Int) - 1).toNat) = c - 1 by omega]
      refine for_range (lo := 0) (n := c - 1) (fun i σ H3 => ∃ v5, σ = [some (.ref a), some (.int (c : Nat)), some (.ref D), some (.int (0 + (j : Int))), some (.int ((p : Int) ^ (min i j) * (q : Int) ^ (i - min i j))), v5] ∧ H3 = H2) ⟨v5, ?_, rfl⟩ ?_ ?_
      · rw [Nat.zero_min, Int.pow_zero, Nat.sub_zero, Int.pow_zero]
        rfl
      · rintro i σ H3 hi ⟨v5, rfl, rfl⟩
        refine ⟨_, rfl, _, rfl, _, rfl, _, _, rfl, rfl, _, rfl, ?_⟩
        by_cases c1 : i < j
        · refine iteDT (by omega) ⟨_, rfl, a, _, 0, _, rfl, rfl, hS2, rfl, _, _, rfl, rfl, .inr (by omega), some (.int (0 + (i : Int))), ?_, rfl⟩
          have e : (p : Int) ^ (min i j) * (q : Int) ^ (i - min i j) * (p : Int) = (p : Int) ^ (min (i + 1) j) * (q : Int) ^ (i + 1 - min (i + 1) j) := by
            rw [Nat.min_eq_left (by omega), Nat.min_eq_left (by omega), Nat.sub_self, Nat.sub_self, Int.pow_zero, Int.pow_succ]
            grind
          rw [← e]
          rfl
        · refine iteDF (by omega) ⟨_, rfl, a, _, 1, _, rfl, rfl, hS2, rfl, _, _, rfl, rfl, .inr (by omega), some (.int (0 + (i : Int))), ?_, rfl⟩
          have e : (p : Int) ^ (min i j) * (q : Int) ^ (i - min i j) * (q : Int) = (p : Int) ^ (min (i + 1) j) * (q : Int) ^ (i + 1 - min (i + 1) j) := by
            rw [Nat.min_eq_right (by omega), Nat.min_eq_right (by omega), show i + 1 - j = (i - j) + 1 by omega, Int.pow_succ]
            grind
          rw [← e]
          rfl
      · rintro σ H3 ⟨v5, rfl, rfl⟩
        refine ⟨_, rfl, .inl ⟨rfl, _, .inl (.inl eD)⟩, _, rfl, D, _, _, rfl, rfl, eD, ?_, _, _, _, rfl, fun b o ho => ?_, ?_⟩
        · rw [List.length_take]
          omega
        · rw [upd_ne (ne_of_none ho nD)]
          exact s2 _ _ ho
        · rw [upd_same, take_more (l := wtsV p q c) (i := j) (by unfold wtsV; rw [List.getElem?_map, List.getElem?_range hj]; rfl)]
          unfold wtF
          rw [Nat.min_eq_right (by omega)]
    · rintro σ H2 ⟨v3, v4, v5, rfl, s2, eD⟩
      rw [List.take_of_length_le (by unfold wtsV; rw [List.length_map, List.length_range]; exact Nat.le_refl _)] at eD
      exact ⟨_, rfl, k D H2 s2 nD eD⟩
end

abbrev s_divisor : Stmt := topS 7
theorem sc_divisor : FnScope ["one", "two"] ["one", "two"] (defScope s_divisor) := ⟨rfl, rfl, rfl, by decide +kernel, rfl, by decide +kernel, by decide +kernel⟩
theorem gcd_step2 (a b : Nat) : Nat.gcd b (a % b) = Nat.gcd a b := by
  rw [Nat.gcd_comm b (a % b), ← Nat.gcd_rec, Nat.gcd_comm]
def sp_divisor (K : PySem.W.Frag) : Sp := fun vs H Q _ => ∃ (n d : Int), vs = [.int n, .int d] ∧ Q (.int (Int.gcd n d : Int)) H
section
variable {P : Program} {w : World} {K : PySem.W.Frag} {mg : Str → Option Value} {base : Heap}
theorem ok_divisor (A : At K mg "divisor" s_divisor ["one", "two"]) (B : Bn mg) : CalE P w K mg base "divisor" ["one", "two"] 1 (sp_divisor K) := by
  obtain ⟨f, fd, F, gF, bF⟩ := A
  refine ⟨f, fd, F.ok sc_divisor (fun vs H Q E h => ?_) (fun cdv A outer s H vs Q E hr h => ?_), gF, F.kp, bF⟩
  · repeat (first | (obtain ⟨rfl, _⟩ := h; rfl) | (obtain ⟨_, h⟩ := h))
  · obtain ⟨n, d, rfl, k⟩ := h
    refine ⟨_, (pss_cons (ps_par (i := 0) (j := 1) (by rfl) sc_divisor.nd rfl rfl (by decide) rfl rfl (pa_cons (pe_callB call_abs (by rfl) B.abs_ (by decide +kernel) (pa_cons (pv 0) pa_nil)) (pa_cons (pe_callB call_abs (by rfl) B.abs_ (by decide +kernel) (pa_cons (pv 1) pa_nil)) pa_nil)) (by rfl))
      (pss_cons (ps_while PassesOwn.never (pt_cmpR op_gt (pv 1) pe_int (nomark _))
      (pss_one (ps_par (i := 0) (j := 1) (by rfl) sc_divisor.nd rfl rfl (by decide) rfl rfl (pa_cons (pv 1) (pa_cons (pe_op op_mod (pv 0) (pv 1)) pa_nil)) (by rfl))))
      (pss_one (ps_ret (pv 0))))), ?_⟩
    refine ⟨_, rfl, _, rfl, _, rfl, _, rfl, _, _, rfl, ?_⟩
    refine ⟨fun m σ H2 => ∃ (x y : Nat), m = y ∧ σ = [some (.int x), some (.int y)] ∧ Nat.gcd x y = Int.gcd n d ∧ H2 = H, ⟨d.natAbs, n.natAbs, d.natAbs, rfl, ?_, rfl, rfl⟩, ?_⟩
    · have e1 : (if n < 0 then -n else n) = (n.natAbs : Int) := by split <;> omega
      have e2 : (if d < 0 then -d else d) = (d.natAbs : Int) := by split <;> omega
      show [some (V.int (if n < 0 then -n else n)), some (V.int (if d < 0 then -d else d))] = _
      rw [e1, e2]
    rintro m σ H2 ⟨x, y, rfl, rfl, hg, rfl⟩
    refine ⟨_, rfl, _, _, rfl, rfl, _, rfl, ?_⟩
    refine ite2 (fun c => ?_) (fun c => ?_)
    · have c' : 0 < m := Int.ofNat_lt.mp (of_decide_eq_true c)
      refine ⟨fun σ' H' => ∃ (x y : Nat), y < m ∧ σ' = [some (.int x), some (.int y)] ∧ Nat.gcd x y = Int.gcd n d ∧ H' = H2, fun σ' H' ⟨x, y, l, e1, e2, e3⟩ => ⟨y, l, x, y, rfl, e1, e2, e3⟩, ?_⟩
      refine ⟨_, rfl, _, rfl, _, rfl, _, _, rfl, rfl, (by omega : (0 : Int) < (m : Int)), _, _, rfl, ?_⟩
      exact ⟨m, x % m, Nat.mod_lt _ c', rfl, by rw [gcd_step2, hg], rfl⟩
    · have c' : m = 0 := by
        have : ¬ ((0 : Int) < (m : Int)) := fun z => c (decide_eq_true z)
        omega
      subst c'
      rw [Nat.gcd_zero_right] at hg
      subst hg
      exact ⟨_, rfl, k⟩
end

abbrev s_fraction : Stmt := topS 8
theorem sc_fraction : FnScope ["number", "parts", "common"] ["number", "parts"] (defScope s_fraction) := ⟨rfl, rfl, rfl, by decide +kernel, rfl, by decide +kernel, by decide +kernel⟩
def sp_fraction (K : PySem.W.Frag) : Sp := fun vs H Q _ => ∃ (n d : Int) (b : Nat), vs = [.int n, .int d] ∧ 0 < d ∧ d.natAbs < 2 ^ b ∧ b ≤ 8900 ∧
  ∀ (r : Addr) (H' : Hp), Same H H' → H r = none → RatAt K H' r (Rat.divInt n d) → Q (.ref r) H'
section
variable {P : Program} {w : World} {K : PySem.W.Frag} {mg : Str → Option Value} {base : Heap}
theorem ok_fraction (A : At K mg "fraction" s_fraction ["number", "parts"]) (B : Bn mg) (H_divisor : CalE P w K mg base "divisor" ["one", "two"] 1 (sp_divisor K)) : CalE P w K mg base "fraction" ["number", "parts"] 2 (sp_fraction K) := by
  obtain ⟨f, fd, F, gF, bF⟩ := A
  obtain ⟨f_divisor, fd_divisor, G_divisor⟩ := H_divisor
  refine ⟨f, fd, F.ok sc_fraction (fun vs H Q E h => ?_) (fun cdv A outer s H vs Q E hr h => ?_), gF, F.kp, bF⟩
  · repeat (first | (obtain ⟨rfl, _⟩ := h; rfl) | (obtain ⟨_, h⟩ := h))
  · obtain ⟨n, d, b, rfl, d0, hb, b9, k⟩ := h
    refine ⟨_, (pss_cons (ps_set (i := 2) sc_fraction.nd rfl (.inl rfl) (pe_ifExp (pt_cmpR op_gt (pv 1) pe_int (nomark _)) (pe_call G_divisor.ok (hr.mono (by first | decide | exact Nat.le_refl _)) (by rfl) G_divisor.g G_divisor.kp G_divisor.b .nil pass0 (pa_cons (pv 0) (pa_cons (pv 1) pa_nil))) (pe_un un_neg (pe_call G_divisor.ok (hr.mono (by first | decide | exact Nat.le_refl _)) (by rfl) G_divisor.g G_divisor.kp G_divisor.b .nil pass0 (pa_cons (pv 0) (pa_cons (pv 1) pa_nil))))))
      (pss_one (ps_ret (pe_tup (pa_cons (pe_op op_fdivW (pv 0) (pv 2)) (pa_cons (pe_op op_fdivW (pv 1) (pv 2)) pa_nil)))))), ?_⟩
    refine ⟨_, rfl, _, _, rfl, rfl, _, rfl, iteDT d0 ?_⟩
    refine ⟨_, rfl, _, rfl, n, d, rfl, ?_⟩
    have hg0 : (0 : Int) < (Int.gcd n d : Int) := Int.ofNat_lt.mpr (Int.gcd_pos_of_ne_zero_right n (by omega))
    have hgb : ((Int.gcd n d : Int)).natAbs < 2 ^ (b + 1) := by
      rw [Int.natAbs_natCast]
      refine Nat.lt_of_le_of_lt (Nat.le_of_dvd (by omega) (Int.gcd_dvd_natAbs_right n d)) (Nat.lt_of_lt_of_le hb (Nat.pow_le_pow_right (by decide) (by omega)))
    have hw : ∀ z, CDivW z (Int.gcd n d : Int) := fun z => wide_div hg0 hgb (by omega) (by omega)
    refine ⟨_, rfl, _, rfl, _, _, rfl, rfl, hw _, _, rfl, _, rfl, _, _, rfl, rfl, hw _, (by show 2 ≤ sizeLine; decide), fun p np => ?_⟩
    refine k p _ (same_new np _) np ?_
    unfold RatAt
    rw [frac_num d0, frac_den d0]
    exact .inl (.inl upd_same)
end

abbrev s_cost : Stmt := topS 24
theorem sc_cost : FnScope ["lengths", "ratio", "rows", "weight", "length"] ["lengths", "ratio"] (defScope s_cost) := ⟨rfl, rfl, rfl, by decide +kernel, rfl, by decide +kernel, by decide +kernel⟩
theorem sumW_pos {p q c : Nat} (h : IsRat p q) (hc : 1 ≤ c) : 0 < sumW (wtF p q c) c := by
  unfold sumW
  obtain ⟨d, rfl⟩ : ∃ d, c = d + 1 := ⟨c - 1, by omega⟩
  rw [List.range_succ, List.map_append, List.sum_append]
  have h1 := wt_pos (c := d + 1) h.p1 h.pq d
  have h2 : ∀ n, 0 ≤ ((List.range n).map (wtF p q (d + 1))).sum := fun n => by
    induction n with
    | zero => exact Int.le_refl _
    | succ n ih =>
      rw [List.range_succ, List.map_append, List.sum_append]
      have := wt_pos (c := d + 1) h.p1 h.pq n
      show 0 ≤ _ + (wtF p q (d + 1) n + 0)
      omega
  have := h2 d
  show 0 < _ + (wtF p q (d + 1) d + 0)
  omega
theorem wt_bound {p q c i : Nat} (h : IsRat p q) (hc : c ≤ 40) (hi : i < c) : (wtF p q c i).natAbs < 2 ^ 197 := by
  have hq := h.q30
  have hp := h.pq
  unfold wtF
  have h1 := pow_small (p := p) (t := i) (by omega)
  have h2 := pow_small (p := q) (t := c - 1 - i) hq
  exact bd_up (bd_mul h1 h2) (by omega)
theorem sumW_bound {p q c : Nat} (h : IsRat p q) (hc : c ≤ 40) : (sumW (wtF p q c) c).natAbs < 2 ^ 240 := by
  have h2 : ∀ n, n ≤ c → (((List.range n).map (wtF p q c)).sum).natAbs ≤ n * 2 ^ 197 := fun n hn => by
    induction n with
    | zero => simp
    | succ n ih =>
      rw [List.range_succ, List.map_append, List.sum_append]
      have h3 := wt_bound h hc (show n < c by omega)
      have h4 := ih (by omega)
      show (_ + (wtF p q c n + 0)).natAbs ≤ _
      rw [Nat.add_mul]
      omega
  unfold sumW
  refine Nat.lt_of_le_of_lt (h2 c (Nat.le_refl _)) ?_
  exact Nat.lt_of_le_of_lt (Nat.mul_le_mul_right _ (show c ≤ 2 ^ 6 by omega)) (by rw [← Nat.pow_add]; exact Nat.pow_lt_pow_right (by decide) (by decide))
def costR (p q : Nat) (ls : List Nat) : Rat := Rat.divInt ((prodZ (wtF p q ls.length) 0 ls).sum) (sumW (wtF p q ls.length) ls.length)
def sp_cost (K : PySem.W.Frag) : Sp := fun vs H Q _ => ∃ (a b : Addr) (p q : Nat) (ls : List Nat), vs = [.ref a, .ref b] ∧ SqT K H a (ls.map fun n => V.int (n : Nat)) ∧ IsLens ls ∧ SqT K H b [.int (p : Nat), .int (q : Nat)] ∧ IsRat p q ∧
  ∀ (r : Addr) (H' : Hp), Same H H' → H r = none → RatAt K H' r (costR p q ls) → Q (.ref r) H'
section
variable {P : Program} {w : World} {K : PySem.W.Frag} {mg : Str → Option Value} {base : Heap}
theorem ok_cost (A : At K mg "cost" s_cost ["lengths", "ratio"]) (B : Bn mg) (H_check_lengths : CalE P w K mg base "check_lengths" ["thing"] 2 (sp_check_lengths K)) (H_check_ratio : CalE P w K mg base "check_ratio" ["thing"] 3 (sp_check_ratio K)) (H_chance_weights : CalE P w K mg base "chance_weights" ["ratio", "count"] 1 (sp_chance_weights K)) (H_fraction : CalE P w K mg base "fraction" ["number", "parts"] 2 (sp_fraction K)) : CalE P w K mg base "cost" ["lengths", "ratio"] 4 (sp_cost K) := by
  obtain ⟨f, fd, F, gF, bF⟩ := A
  obtain ⟨f_check_lengths, fd_check_lengths, G_check_lengths⟩ := H_check_lengths
  obtain ⟨f_check_ratio, fd_check_ratio, G_check_ratio⟩ := H_check_ratio
  obtain ⟨f_chance_weights, fd_chance_weights, G_chance_weights⟩ := H_chance_weights
  obtain ⟨f_fraction, fd_fraction, G_fraction⟩ := H_fraction
  refine ⟨f, fd, F.ok sc_cost (fun vs H Q E h => ?_) (fun cdv A outer s H vs Q E hr h => ?_), gF, F.kp, bF⟩
  · repeat (first | (obtain ⟨rfl, _⟩ := h; rfl) | (obtain ⟨_, h⟩ := h))
  · obtain ⟨a, b, p, q, ls, rfl, hS, hL, hB, hr0, k⟩ := h
    have hsz := sizeLine_eq
    have h1 := hL.l1
    have h40 := hL.l40
    have lm : (ls.map fun n => V.int (n : Nat)).length = ls.length := List.length_map _
    have lw : (wtsV p q ls.length).length = ls.length := by unfold wtsV; rw [List.length_map, List.length_range]
    refine ⟨_, (pss_cons (ps_expr (pe_call G_check_lengths.ok (hr.mono (by first | decide | exact Nat.le_refl _)) (by rfl) G_check_lengths.g G_check_lengths.kp G_check_lengths.b .nil pass0 (pa_cons (pv 0) pa_nil)))
      (pss_cons (ps_expr (pe_call G_check_ratio.ok (hr.mono (by first | decide | exact Nat.le_refl _)) (by rfl) G_check_ratio.g G_check_ratio.kp G_check_ratio.b .nil pass0 (pa_cons (pv 1) pa_nil)))
      (pss_cons (ps_set (i := 2) sc_cost.nd rfl (.inl rfl) (pe_call G_chance_weights.ok (hr.mono (by first | decide | exact Nat.le_refl _)) (by rfl) G_chance_weights.g G_chance_weights.kp G_chance_weights.b .nil pass0 (pa_cons (pv 1) (pa_cons (pe_callB (call_len_seq_ K) (by rfl) B.len_ (by decide +kernel) (pa_cons (pv 0) pa_nil)) pa_nil))))
      (pss_one (ps_ret (pe_call G_fraction.ok (hr.mono (by first | decide | exact Nat.le_refl _)) (by rfl) G_fraction.g G_fraction.kp G_fraction.b .nil pass0 (pa_cons (pe_callB (cr_sum_ K rfl) (by rfl) B.sum_ (by decide +kernel) (pa_cons (pe_lc (own := [("weight", 3), ("length", 4)]) (g := (gTup K 2 (gCons (gName 3) (gCons (gName 4) gNil)))) (tt := tYes) rfl sc_cost.nd (pi_zipM (by rfl) B.zip_ (pa_cons (pv 2) (pa_cons (pv 0) pa_nil))) (blkOk_by (own := [("weight", 3), ("length", 4)]) (N := ["lengths", "ratio", "rows", "weight", "length"]) (sc := defScope s_cost) (by decide +kernel)) (fun _ _ _ _ _ => (pg_tup (by rfl) (pgs_cons (pg_name (i := 3) sc_cost.nd rfl (.inl rfl)) (pgs_cons (pg_name (i := 4) sc_cost.nd rfl (.inl rfl)) pgs_nil)))) (fun _ _ _ _ _ => pts_nil) (fun _ _ _ _ _ => (pe_op op_mul (pv 3) (pv 4)))) pa_nil)) (pa_cons (pe_callB (cr_sum_ K rfl) (by rfl) B.sum_ (by decide +kernel) (pa_cons (pv 2) pa_nil)) pa_nil)))))))), ?_⟩
    refine ⟨_, rfl, a, ls, rfl, hS, hL, fun H1 s1 => ?_⟩
    refine ⟨_, rfl, b, p, q, rfl, Same.seqT s1 hB, hr0, ?_⟩
    refine ⟨_, rfl, _, rfl, a, _, rfl, .inr (Same.seqT s1 hS), b, p, q, ls.length, ?_, Same.seqT s1 hB, hr0, h1, h40, fun Z H2 s2 nZ eZ => ?_⟩
    · rw [lm]
      rfl
    have S2 := s1.trans s2
    refine ⟨_, rfl, _, rfl, Z, a, _, _, rfl, .inl (.inl eZ), Same.seqT S2 hS, fun D nD => ?_⟩
    refine lc_zipM (K := K) (a := Z) (b := a) (xs := wtsV p q ls.length) (ys := ls.map fun n => V.int (n : Nat)) (by rw [lw, lm]) (fun j H3 => Same H2 H3 ∧ H3 D = some (.lst (((prodZ (wtF p q ls.length) 0 ls).take j).map V.int))) ⟨same_new nD _, by rw [List.take_zero]; exact upd_same⟩ (fun j H3 _ h3 => ⟨.inl (.inl (h3.1 _ _ eZ)), Same.seqT (S2.trans h3.1) hS⟩) ?_ ?_
    · rintro j x y H3 T hx hy ⟨s3, eD⟩ nT
      have hj : j < ls.length := lm ▸ (List.getElem?_eq_some_iff.mp hy).1
      have ex : x = V.int (wtF p q ls.length j) := by
        unfold wtsV at hx
        rw [List.getElem?_map, List.getElem?_range hj] at hx
        exact (Option.some.inj hx).symm
      obtain ⟨l, hl, rfl⟩ := geti_nat hy
      subst ex
      have l60 := hL.l60 l (List.mem_of_getElem? hl)
      have s4 := same_new nT (.tup [.int (wtF p q ls.length j), .int (l : Nat)])
      refine ⟨T, _, rfl, .inl (.inl upd_same), rfl, _, _, rfl, _, _, rfl, rfl, rfl, ?_⟩
      refine ⟨_, rfl, _, rfl, _, _, rfl, rfl, .inr (by omega), _, s4 _ _ eD, ?_, fun b o ho => ?_, ?_⟩
      · rw [List.length_map, List.length_take]
        omega
      · rw [upd_ne (ne_of_none ho nD)]
        exact s4 _ _ (s3 _ _ ho)
      · have hg := prodZ_get (wtF p q ls.length) ls 0 j l hl
        rw [Nat.zero_add] at hg
        rw [upd_same, take_more hg, List.map_append]
        rfl
    rintro H3 ⟨s3, eD⟩
    rw [lw, List.take_of_length_le (by rw [prodZ_len]; exact Nat.le_refl _)] at eD
    have eZ3 := s3 _ _ eZ
    have ez : wtsV p q ls.length = ((List.range ls.length).map (wtF p q ls.length)).map V.int := by
      unfold wtsV
      rw [List.map_map]
      rfl
    rw [ez] at eZ3
    refine ⟨D, _, rfl, .inl (.inl eD), _, rfl, Z, _, rfl, .inl (.inl eZ3), _, _, 240, rfl, sumW_pos hr0 h1, sumW_bound hr0 h40, by decide, fun r H4 s4 nr Rr => ?_⟩
    exact k r H4 (S2.trans (s3.trans s4)) ((S2.trans s3).free nr) Rr
end

abbrev s__law_frac : Stmt := topS 33
theorem sc__law_frac : FnScope ["_law_number", "_law_parts", "_law_one", "_law_two"] ["_law_number", "_law_parts"] (defScope s__law_frac) := ⟨rfl, rfl, rfl, by decide +kernel, rfl, by decide +kernel, by decide +kernel⟩
def sp__law_frac (K : PySem.W.Frag) : Sp := fun vs H Q _ => ∃ (n d : Int) (b : Nat), vs = [.int n, .int d] ∧ 0 < d ∧ d.natAbs < 2 ^ b ∧ b ≤ 8900 ∧
  ∀ (r : Addr) (H' : Hp), Same H H' → H r = none → RatAt K H' r (Rat.divInt n d) → Q (.ref r) H'
theorem gcd_step (a b : Nat) : Nat.gcd b (a % b) = Nat.gcd a b := by
  rw [Nat.gcd_comm b (a % b), ← Nat.gcd_rec, Nat.gcd_comm]
section
variable {P : Program} {w : World} {K : PySem.W.Frag} {mg : Str → Option Value} {base : Heap}
theorem ok__law_frac (A : At K mg "_law_frac" s__law_frac ["_law_number", "_law_parts"]) (B : Bn mg) : CalE P w K mg base "_law_frac" ["_law_number", "_law_parts"] 1 (sp__law_frac K) := by
  obtain ⟨f, fd, F, gF, bF⟩ := A
  refine ⟨f, fd, F.ok sc__law_frac (fun vs H Q E h => ?_) (fun cdv A outer s H vs Q E hr h => ?_), gF, F.kp, bF⟩
  · repeat (first | (obtain ⟨rfl, _⟩ := h; rfl) | (obtain ⟨_, h⟩ := h))
  · obtain ⟨n, d, b, rfl, d0, hb, b9, k⟩ := h
    refine ⟨_, (pss_cons (ps_par (i := 2) (j := 3) (by rfl) sc__law_frac.nd rfl rfl (by decide) rfl rfl (pa_cons (pe_callB call_abs (by rfl) B.abs_ (by decide +kernel) (pa_cons (pv 0) pa_nil)) (pa_cons (pe_callB call_abs (by rfl) B.abs_ (by decide +kernel) (pa_cons (pv 1) pa_nil)) pa_nil)) (by rfl))
      (pss_cons (ps_while PassesOwn.never (pt_cmpR op_gt (pv 3) pe_int (nomark _))
      (pss_one (ps_par (i := 2) (j := 3) (by rfl) sc__law_frac.nd rfl rfl (by decide) rfl rfl (pa_cons (pv 3) (pa_cons (pe_op op_mod (pe_callTy call_int1 (by rfl) B.int_ (by decide +kernel) (pa_cons (pv 2) pa_nil)) (pv 3)) pa_nil)) (by rfl))))
      (pss_cons (ps_if (pt_cmpR op_lt (pv 1) pe_int (nomark _))
      (pss_one (ps_set (i := 2) sc__law_frac.nd rfl (.inl rfl) (pe_un un_neg (pv 2))))
      pss_nil)
      (pss_one (ps_ret (pe_tup (pa_cons (pe_op op_fdivW (pv 0) (pv 2)) (pa_cons (pe_op op_fdivW (pv 1) (pv 2)) pa_nil)))))))), ?_⟩
    -- one, two = abs(number), abs(parts)
    refine ⟨_, rfl, _, rfl, _, rfl, _, rfl, _, _, rfl, ?_⟩
    refine ⟨fun m σ H2 => ∃ (x y : Nat), m = y ∧ σ = [some (.int n), some (.int d), some (.int x), some (.int y)] ∧ Nat.gcd x y = Int.gcd n d ∧ H2 = H, ⟨d.natAbs, n.natAbs, d.natAbs, rfl, ?_, rfl, rfl⟩, ?_⟩
    · have e1 : (if n < 0 then -n else n) = (n.natAbs : Int) := by split <;> omega
      have e2 : (if d < 0 then -d else d) = (d.natAbs : Int) := by split <;> omega
      show [_, _, some (V.int (if n < 0 then -n else n)), some (V.int (if d < 0 then -d else d))] = _
      rw [e1, e2]
    rintro m σ H2 ⟨x, y, rfl, rfl, hg, rfl⟩
    refine ⟨_, rfl, _, _, rfl, rfl, _, rfl, ?_⟩
    refine ite2 (fun c => ?_) (fun c => ?_)
    · have c' : 0 < m := Int.ofNat_lt.mp (of_decide_eq_true c)
      refine ⟨fun σ' H' => ∃ (x y : Nat), y < m ∧ σ' = [some (.int n), some (.int d), some (.int x), some (.int y)] ∧ Nat.gcd x y = Int.gcd n d ∧ H' = H2, fun σ' H' ⟨x, y, l, e1, e2, e3⟩ => ⟨y, l, x, y, rfl, e1, e2, e3⟩, ?_⟩
      refine ⟨_, rfl, _, rfl, .inl ⟨_, rfl, _, rfl, _, _, rfl, rfl, (by omega : (0 : Int) < (m : Int)), _, _, rfl, ?_⟩⟩
      exact ⟨m, x % m, Nat.mod_lt _ c', rfl, by rw [gcd_step, hg], rfl⟩
    · have c' : m = 0 := by
        have : ¬ ((0 : Int) < (m : Int)) := fun z => c (decide_eq_true z)
        omega
      subst c'
      rw [Nat.gcd_zero_right] at hg
      subst hg
      -- if parts < 0
      refine ⟨_, rfl, _, _, rfl, rfl, _, rfl, iteDF (by omega) ?_⟩
      have hg0 : (0 : Int) < (Int.gcd n d : Int) := Int.ofNat_lt.mpr (Int.gcd_pos_of_ne_zero_right n (by omega))
      have hgb : ((Int.gcd n d : Int)).natAbs < 2 ^ (b + 1) := by
        rw [Int.natAbs_natCast]
        refine Nat.lt_of_le_of_lt (Nat.le_of_dvd (by omega) (Int.gcd_dvd_natAbs_right n d)) (Nat.lt_of_lt_of_le hb (Nat.pow_le_pow_right (by decide) (by omega)))
      have hw : ∀ z, CDivW z (Int.gcd n d : Int) := fun z => wide_div hg0 hgb (by omega) (by omega)
      refine ⟨_, rfl, _, rfl, _, _, rfl, rfl, hw _, _, rfl, _, rfl, _, _, rfl, rfl, hw _, (by show 2 ≤ sizeLine; decide), fun p np => ?_⟩
      refine k p _ (same_new np _) np ?_
      unfold RatAt
      rw [frac_num d0, frac_den d0]
      exact .inl (.inl upd_same)
end

abbrev s__law_next : Stmt := topS 30
theorem sc__law_next : FnScope ["_law_h", "_law_cap", "_law_cell"] ["_law_h", "_law_cap"] (defScope s__law_next) := ⟨rfl, rfl, rfl, by decide +kernel, rfl, by decide +kernel, by decide +kernel⟩
def sp__law_next (K : PySem.W.Frag) : Sp := fun vs H Q _ => ∃ (h q : Addr) (cap : Int), vs = [.ref h, .int cap] ∧ LawH H h q ∧ 0 < cap ∧ cap < 2 ^ 300 ∧
  ∀ (k : Int) (H' : Hp), 0 ≤ k → k < cap → LawH H' h q → Sm h q H H' → Q (.int k) H'
theorem cap_wide {cap : Int} (h : 0 < cap) (h' : cap < 2 ^ 300) : CDivW z cap := wide_div (b := 300) h (by omega) (by decide) (by decide)
section
variable {P : Program} {w : World} {K : PySem.W.Frag} {mg : Str → Option Value} {base : Heap}
theorem ok__law_next (A : At K mg "_law_next" s__law_next ["_law_h", "_law_cap"]) (B : Bn mg) : CalE P w K mg base "_law_next" ["_law_h", "_law_cap"] 1 (sp__law_next K) := by
  obtain ⟨f, fd, F, gF, bF⟩ := A
  refine ⟨f, fd, F.ok sc__law_next (fun vs H Q E h => ?_) (fun cdv A outer s H vs Q E hr h => ?_), gF, F.kp, bF⟩
  · repeat (first | (obtain ⟨rfl, _⟩ := h; rfl) | (obtain ⟨_, h⟩ := h))
  · obtain ⟨h, q, cap, rfl, L, c0, c1, k⟩ := h
    refine ⟨_, (pss_cons (ps_set (i := 2) sc__law_next.nd rfl (.inl rfl) (pe_ix (ix_list_ K) (pe_op op_cat (pe_ix (ix_list_ K) (pv 0) pe_int (fun _ _ => rfl)) (pe_lst (pa_cons pe_int pa_nil))) (pe_op op_mod (pe_callTy call_int1 (by rfl) B.int_ (by decide +kernel) (pa_cons (pe_ix (ix_list_ K) (pv 0) pe_int (fun _ _ => rfl)) pa_nil)) (pe_callB (call_max2 rfl) (by rfl) B.max_ (by decide +kernel) (pa_cons pe_int (pa_cons (pe_callB (call_len_seq_ K) (by rfl) B.len_ (by decide +kernel) (pa_cons (pe_ix (ix_list_ K) (pv 0) pe_int (fun _ _ => rfl)) pa_nil)) pa_nil)))) (fun _ _ => rfl)))
      (pss_cons (ps_if (pt_cmpR op_ge (pv 2) (pe_op op_pow pe_int pe_int) (nomark _))
      (pss_cons (ps_asg (pe_op op_fdivW (pv 2) (pv 1)) (pg_sub (pe_ix (ix_list_ K) (pv 0) pe_int (fun _ _ => rfl)) (pe_op op_mod (pe_callTy call_int1 (by rfl) B.int_ (by decide +kernel) (pa_cons (pe_ix (ix_list_ K) (pv 0) pe_int (fun _ _ => rfl)) pa_nil)) (pe_callB (call_len_seq_ K) (by rfl) B.len_ (by decide +kernel) (pa_cons (pe_ix (ix_list_ K) (pv 0) pe_int (fun _ _ => rfl)) pa_nil))) set_list))
      (pss_one (ps_ret (pe_op op_mod (pe_callTy call_int1 (by rfl) B.int_ (by decide +kernel) (pa_cons (pv 2) pa_nil)) (pv 1)))))
      pss_nil)
      (pss_cons (ps_asg (pe_op op_mod (pe_callTy call_int1 (by rfl) B.int_ (by decide +kernel) (pa_cons (pe_op op_add (pe_op op_add (pe_op op_mul (pe_ix (ix_list_ K) (pv 0) pe_int (fun _ _ => rfl)) pe_int) (pe_op op_mul (pv 2) pe_int)) pe_int) pa_nil)) pe_int) (pg_sub (pv 0) pe_int set_list))
      (pss_cons (ps_asg (pe_op op_add (pe_ix (ix_list_ K) (pv 0) pe_int (fun _ _ => rfl)) pe_int) (pg_sub (pv 0) pe_int set_list))
      (pss_one (ps_ret (pe_op op_mod (pe_callTy call_int1 (by rfl) B.int_ (by decide +kernel) (pa_cons (pe_op op_fdiv (pe_ix (ix_list_ K) (pv 0) pe_int (fun _ _ => rfl)) pe_int) pa_nil)) (pv 1)))))))), ?_⟩
    obtain ⟨hne, st, ix, cells, eh, eq, hl⟩ := id L
    have sL : SqL K H h [.int st, .ref q, .int ix] := .inl (.inl eh)
    have sQ : SqL K H q (cells.map V.int) := .inl (.inl eq)
    have l3 : ([V.int 0] : List V).length ≤ sizeLine := by show 1 ≤ sizeLine; decide
    have lm : (cells.map V.int).length = cells.length := List.length_map _
    -- (h[1] + [0])[h[2] % max(1, len(h[1]))]
    refine ⟨_, rfl, h, _, 1, _, rfl, rfl, sL, rfl, l3, fun z nz => ?_⟩
    have s1 : Same H (upd H z (.lst [.int 0])) := same_new nz _
    have lq : (cells.map V.int).length + ([V.int 0] : List V).length ≤ sizeLine := by
      rw [lm]
      show cells.length + 1 ≤ sizeLine
      have := sizeLine_eq
      omega
    refine ⟨q, z, _, _, rfl, rfl, s1 _ _ eq, upd_same, lq, fun z2 nz2 => ?_⟩
    have s2 := s1.trans (same_new nz2 (.lst (cells.map V.int ++ [.int 0])))
    have e2 : (upd (upd H z (.lst [.int 0])) z2 (.lst (cells.map V.int ++ [.int 0]))) z2 = some (.lst (cells.map V.int ++ [.int 0])) := upd_same
    generalize upd (upd H z (.lst [.int 0])) z2 (.lst (cells.map V.int ++ [.int 0])) = H2 at *
    obtain ⟨m, em, hm⟩ : ∃ m : Int, (if ((cells.map V.int).length : Int) > 1 then ((cells.map V.int).length : Int) else 1) = m ∧ (0 < m ∧ m ≤ cells.length + 1 ∧ (cells = [] → m = 1) ∧ (cells ≠ [] → m = cells.length)) := by
      refine ⟨_, rfl, ?_⟩
      rw [lm]
      cases cells with
      | nil => simp
      | cons c r =>
        simp only [List.length_cons]
        split
        · exact ⟨by omega, by omega, (fun z => by cases z), fun _ => rfl⟩
        · exact ⟨by omega, by omega, (fun z => by cases z), fun _ => by omega⟩
    obtain ⟨m0, m1, m2, m3⟩ := hm
    have j0 : 0 ≤ ix % m := Int.emod_nonneg _ (by omega)
    have j1 : ix % m < m := Int.emod_lt_of_pos _ m0
    obtain ⟨j, ej⟩ : ∃ j : Nat, ix % m = (j : Int) := ⟨(ix % m).toNat, by omega⟩
    obtain ⟨c, ec, hc⟩ : ∃ c : Int, (cells.map V.int ++ [V.int 0])[j]? = some (.int c) ∧ (10 ^ 18 ≤ c → j < cells.length ∧ cells ≠ []) := by
      by_cases hj : j < cells.length
      · refine ⟨cells[j], ?_, fun _ => ⟨hj, fun z => by rw [z] at hj; cases hj⟩⟩
        rw [List.getElem?_append_left (by rw [lm]; exact hj), List.getElem?_map, List.getElem?_eq_getElem hj]
        rfl
      · have hn : j = cells.length := by
          by_cases hc : cells = []
          · have := m2 hc
            subst hc
            simp
            omega
          · have := m3 hc
            omega
        subst hn
        refine ⟨0, ?_, fun z => by omega⟩
        rw [List.getElem?_append_right (by rw [lm]; exact Nat.le_refl _), lm, Nat.sub_self]
        rfl
    refine ⟨_, rfl, h, _, 2, _, rfl, rfl, s2.seq sL, rfl, .inl ⟨ix, rfl, _, rfl, h, _, 1, _, rfl, rfl, s2.seq sL, rfl, q, _, rfl, .inl (s2.seq sQ), 1, _, rfl, ?_⟩⟩
    show rI (fun _ j => 0 < j) (fun i j => V.int (i % j)) (V.int ix) (.int (if ((cells.map V.int).length : Int) > 1 then ((cells.map V.int).length : Int) else 1)) H2 _
    rw [em]
    refine ⟨_, _, rfl, rfl, m0, z2, _, _, _, rfl, rfl, .inl (.inl e2), by rw [ej]; exact atI_nat ec, ?_⟩
    -- if _law_cell >= 10 ** 18
    refine ⟨_, rfl, _, _, rfl, rfl, ⟨by decide, by decide, by decide⟩, _, _, rfl, rfl, _, rfl, ?_⟩
    have h2 := s2.seq sL
    have q2 := s2.seq sQ
    have eh2 := s2 _ _ eh
    have eq2 := s2 _ _ eq
    refine ite2 (fun b => ?_) (fun b => ?_)
    · have b' : 10 ^ 18 ≤ c := of_decide_eq_true b
      obtain ⟨hj, hne0⟩ := hc b'
      have m4 := m3 hne0
      refine ⟨_, rfl, _, rfl, _, _, rfl, rfl, cap_wide c0 c1, ?_⟩
      refine ⟨_, rfl, h, _, 1, _, rfl, rfl, h2, rfl, _, rfl, h, _, 2, _, rfl, rfl, h2, rfl, .inl ⟨ix, rfl, _, rfl, h, _, 1, _, rfl, rfl, h2, rfl, q, _, rfl, .inl q2, _, _, rfl, rfl, ?_, ?_⟩⟩
      · show (0 : Int) < ((cells.map V.int).length : Int)
        rw [lm]
        omega
      refine ⟨q, _, _, j, rfl, rfl, eq2, ?_, ?_⟩
      · rw [lm, ← m4, ej]
        unfold ixN
        rw [if_pos (by omega), if_pos (by omega), Int.toNat_natCast]
      refine ⟨_, rfl, .inl ⟨_, rfl, _, rfl, _, _, rfl, rfl, c0, ?_⟩⟩
      refine k _ _ (Int.emod_nonneg _ (by omega)) (Int.emod_lt_of_pos _ c0) ⟨hne, st, ix, cells.set j (c / cap), by rw [upd_ne hne]; exact eh2, by rw [upd_same, List.map_set], by rw [List.length_set]; exact hl⟩ (fun b o e n1 n2 => ?_)
      rw [upd_ne n2]
      exact s2 _ _ e
    · refine ⟨_, rfl, h, _, 0, _, rfl, rfl, h2, rfl, _, _, rfl, rfl, .inr (by omega), _, rfl, _, _, rfl, rfl, .inr (by omega), _, _, rfl, rfl, _, _, rfl, rfl, .inl ⟨_, rfl, _, _, rfl, rfl, (by decide : (0 : Int) < 2147483647), ?_⟩⟩
      refine ⟨_, rfl, h, _, 0, 0, rfl, rfl, eh2, rfl, ?_⟩
      have e3 := @upd_same H2 h (.lst [.int ((st * 48271 + c * 69621 + 11) % 2147483647), .ref q, .int ix])
      refine ⟨_, rfl, h, _, 2, _, rfl, rfl, .inl (.inl e3), rfl, _, _, rfl, rfl, _, rfl, h, _, 2, 2, rfl, rfl, e3, rfl, ?_⟩
      refine ⟨_, rfl, h, _, 0, _, rfl, rfl, .inl (.inl upd_same), rfl, _, _, rfl, rfl, ⟨by decide, by decide⟩, .inl ⟨_, rfl, _, rfl, _, _, rfl, rfl, c0, ?_⟩⟩
      refine k _ _ (Int.emod_nonneg _ (by omega)) (Int.emod_lt_of_pos _ c0) ⟨hne, _, _, cells, upd_same, by rw [upd_ne hne.symm, upd_ne hne.symm]; exact eq2, hl⟩ (fun b o e n1 n2 => ?_)
      rw [upd_ne n1, upd_ne n1]
      exact s2 _ _ e
end

abbrev s__law_pick : Stmt := topS 32
theorem sc__law_pick : FnScope ["_law_h", "_law_things"] ["_law_h", "_law_things"] (defScope s__law_pick) := ⟨rfl, rfl, rfl, by decide +kernel, rfl, by decide +kernel, by decide +kernel⟩
def sp__law_pick (K : PySem.W.Frag) : Sp := fun vs H Q _ => ∃ (h q t : Addr) (xs : List V), vs = [.ref h, .ref t] ∧ LawH H h q ∧ SqL K H t xs ∧ t ≠ h ∧ t ≠ q ∧ xs ≠ [] ∧ xs.length ≤ 1000 ∧
  ∀ (k : Nat) (x : V) (H' : Hp), xs[k]? = some x → LawH H' h q → Sm h q H H' → Q x H'
theorem pickI {K : PySem.W.Frag} {H0 : Hp} {h q t : Addr} {xs : List V} {Q : VK} (L : LawH H0 h q) (nt : H0 t = none) (hx : xs ≠ []) (hl : xs.length ≤ 1000) (k : ∀ x ∈ xs, ∀ H', LawH H' h q → Sm h q H0 H' → Q x H') : sp__law_pick K [.ref h, .ref t] (upd H0 t (.lst xs)) Q E0 := by
  have s3 := same_new nt (.lst xs)
  obtain ⟨hne, st, ix, cells, eh, eq, _⟩ := id L
  exact ⟨h, q, t, _, rfl, L.same s3, .inl (.inl upd_same), ne_new eh nt, ne_new eq nt, hx, hl, fun j x H3 ex L3 S3 => k x (List.mem_of_getElem? ex) H3 L3 (Sm.trans (Sm.of s3) S3)⟩
section
variable {P : Program} {w : World} {K : PySem.W.Frag} {mg : Str → Option Value} {base : Heap}
theorem ok__law_pick (A : At K mg "_law_pick" s__law_pick ["_law_h", "_law_things"]) (B : Bn mg) (H__law_next : CalE P w K mg base "_law_next" ["_law_h", "_law_cap"] 1 (sp__law_next K)) : CalE P w K mg base "_law_pick" ["_law_h", "_law_things"] 2 (sp__law_pick K) := by
  obtain ⟨f, fd, F, gF, bF⟩ := A
  obtain ⟨f__law_next, fd__law_next, G__law_next⟩ := H__law_next
  refine ⟨f, fd, F.ok sc__law_pick (fun vs H Q E h => ?_) (fun cdv A outer s H vs Q E hr h => ?_), gF, F.kp, bF⟩
  · repeat (first | (obtain ⟨rfl, _⟩ := h; rfl) | (obtain ⟨_, h⟩ := h))
  · obtain ⟨h, q, t, xs, rfl, L, hS, n1, n2, hx, hl, k⟩ := h
    have hp : 0 < xs.length := List.length_pos_iff.mpr hx
    refine ⟨_, (pss_one (ps_ret (pe_ix (ix_list_ K) (pv 1) (pe_call G__law_next.ok (hr.mono (by first | decide | exact Nat.le_refl _)) (by rfl) G__law_next.g G__law_next.kp G__law_next.b .nil pass0 (pa_cons (pv 0) (pa_cons (pe_callB (call_len_seq_ K) (by rfl) B.len_ (by decide +kernel) (pa_cons (pv 1) pa_nil)) pa_nil))) (fun _ _ => rfl)))), ?_⟩
    refine ⟨_, rfl, _, rfl, _, rfl, t, xs, rfl, .inl hS, h, q, _, rfl, L, by omega, by omega, fun j H' j0 j1 L' S' => ?_⟩
    obtain ⟨i, rfl⟩ : ∃ i : Nat, j = (i : Int) := ⟨j.toNat, by omega⟩
    have hi : i < xs.length := by omega
    have ex : xs[i]? = some xs[i] := List.getElem?_eq_getElem hi
    exact ⟨t, xs, _, _, rfl, rfl, S'.seq n1 n2 hS, atI_nat ex, k i _ H' ex L' S'⟩
end

abbrev s__law_ratio : Stmt := topS 35
theorem sc__law_ratio : FnScope ["_law_h", "_law_q"] ["_law_h"] (defScope s__law_ratio) := ⟨rfl, rfl, rfl, by decide +kernel, rfl, by decide +kernel, by decide +kernel⟩
def sp__law_ratio (K : PySem.W.Frag) : Sp := fun vs H Q _ => ∃ (h q : Addr), vs = [.ref h] ∧ LawH H h q ∧
  ∀ (r : Addr) (x y : Nat) (H' : Hp), IsRat x y → LawH H' h q → Sm h q H H' → H' r = some (.tup [.int (x : Nat), .int (y : Nat)]) → Q (.ref r) H'
section
variable {P : Program} {w : World} {K : PySem.W.Frag} {mg : Str → Option Value} {base : Heap}
theorem ok__law_ratio (A : At K mg "_law_ratio" s__law_ratio ["_law_h"]) (B : Bn mg) (H__law_next : CalE P w K mg base "_law_next" ["_law_h", "_law_cap"] 1 (sp__law_next K)) (H__law_pick : CalE P w K mg base "_law_pick" ["_law_h", "_law_things"] 2 (sp__law_pick K)) : CalE P w K mg base "_law_ratio" ["_law_h"] 3 (sp__law_ratio K) := by
  obtain ⟨f, fd, F, gF, bF⟩ := A
  obtain ⟨f__law_next, fd__law_next, G__law_next⟩ := H__law_next
  obtain ⟨f__law_pick, fd__law_pick, G__law_pick⟩ := H__law_pick
  refine ⟨f, fd, F.ok sc__law_ratio (fun vs H Q E h => ?_) (fun cdv A outer s H vs Q E hr h => ?_), gF, F.kp, bF⟩
  · repeat (first | (obtain ⟨rfl, _⟩ := h; rfl) | (obtain ⟨_, h⟩ := h))
  · obtain ⟨h, q, rfl, L, k⟩ := h
    refine ⟨_, (pss_cons (ps_set (i := 1) sc__law_ratio.nd rfl (.inl rfl) (pe_op op_add pe_int (pe_call G__law_next.ok (hr.mono (by first | decide | exact Nat.le_refl _)) (by rfl) G__law_next.g G__law_next.kp G__law_next.b .nil pass0 (pa_cons (pv 0) (pa_cons (pe_call G__law_pick.ok (hr.mono (by first | decide | exact Nat.le_refl _)) (by rfl) G__law_pick.g G__law_pick.kp G__law_pick.b .nil pass0 (pa_cons (pv 0) (pa_cons (pe_lst (pa_cons pe_int (pa_cons pe_int (pa_cons pe_int pa_nil)))) pa_nil))) pa_nil)))))
      (pss_one (ps_ret (pe_ifExp (pt_cmpR op_eq (pe_call G__law_next.ok (hr.mono (by first | decide | exact Nat.le_refl _)) (by rfl) G__law_next.g G__law_next.kp G__law_next.b .nil pass0 (pa_cons (pv 0) (pa_cons pe_int pa_nil))) pe_int (nomark _)) (pe_tup (pa_cons (pe_op op_add pe_int (pe_call G__law_next.ok (hr.mono (by first | decide | exact Nat.le_refl _)) (by rfl) G__law_next.g G__law_next.kp G__law_next.b .nil pass0 (pa_cons (pv 0) (pa_cons (pe_op op_sub (pv 1) pe_int) pa_nil)))) (pa_cons (pv 1) pa_nil))) (pe_tup (pa_cons (pe_op op_sub (pv 1) pe_int) (pa_cons (pv 1) pa_nil))))))), ?_⟩
    refine ⟨_, rfl, _, rfl, (by show 3 ≤ sizeLine; decide), fun t nt => pickI L nt (fun z => by cases z) (by show 3 ≤ 1000; decide) fun x hx H1 L1 S1 => ?_⟩
    obtain ⟨c, rfl, c0, c1⟩ : ∃ c : Int, x = .int c ∧ 2 ≤ c ∧ c ≤ 29 := by
      simp only [List.mem_cons, List.not_mem_nil, or_false] at hx
      rcases hx with rfl | rfl | rfl <;> exact ⟨_, rfl, by decide, by decide⟩
    refine ⟨h, q, c, rfl, L1, by omega, by omega, fun z H2 z0 z1 L2 S2 => ?_⟩
    obtain ⟨y, rfl⟩ : ∃ y : Nat, z = (y : Int) := ⟨z.toNat, by omega⟩
    refine ⟨_, _, rfl, rfl, ?_⟩
    -- next(h, 2) == 0
    refine ⟨_, rfl, h, q, 2, rfl, L2, by decide, by decide, fun u H3 u0 u1 L3 S3 => ?_⟩
    have ey : (2 + (y : Int)) = ((2 + y : Nat) : Int) := by omega
    refine ⟨rfl, _, rfl, ite2 (fun _ => ?_) (fun _ => ?_)⟩
    · refine ⟨_, rfl, _, rfl, _, _, rfl, rfl, h, q, _, rfl, L3, by omega, by omega, fun v H4 v0 v1 L4 S4 => ?_⟩
      obtain ⟨p, rfl⟩ : ∃ p : Nat, v = (p : Int) := ⟨v.toNat, by omega⟩
      refine ⟨_, _, rfl, rfl, _, rfl, (by show 2 ≤ sizeLine; decide), fun r nr => ?_⟩
      have s5 := same_new nr (.tup [.int (1 + (p : Int)), .int (2 + (y : Int))])
      refine k r (1 + p) (2 + y) _ ⟨by omega, by omega, by omega⟩ (L4.same s5) (S1.trans (S2.trans (S3.trans (S4.trans (Sm.of s5))))) ?_
      rw [upd_same]
      show some (HO.tup [V.int (1 + (p : Int)), V.int (2 + (y : Int))]) = _
      rw [ey, show (1 + (p : Int)) = ((1 + p : Nat) : Int) by omega]
    · refine ⟨_, rfl, _, _, rfl, rfl, _, rfl, (by show 2 ≤ sizeLine; decide), fun r nr => ?_⟩
      have s5 := same_new nr (.tup [.int (2 + (y : Int) - 1), .int (2 + (y : Int))])
      refine k r (1 + y) (2 + y) _ ⟨by omega, by omega, by omega⟩ (L3.same s5) (S1.trans (S2.trans (S3.trans (Sm.of s5)))) ?_
      rw [upd_same]
      show some (HO.tup [V.int (2 + (y : Int) - 1), V.int (2 + (y : Int))]) = _
      rw [ey, show (((2 + y : Nat) : Int) - 1) = ((1 + y : Nat) : Int) by omega]
end

abbrev s__law_weights : Stmt := topS 37
theorem sc__law_weights : FnScope ["_law_ratio_here", "_law_count", "_law_found", "_law_k", "_law_one"] ["_law_ratio_here", "_law_count"] (defScope s__law_weights) := ⟨rfl, rfl, rfl, by decide +kernel, rfl, by decide +kernel, by decide +kernel⟩
def sp__law_weights (K : PySem.W.Frag) : Sp := fun vs H Q _ => ∃ (a : Addr) (p q c : Nat), vs = [.ref a, .int (c : Nat)] ∧ SqT K H a [.int (p : Nat), .int (q : Nat)] ∧ IsRat p q ∧ 1 ≤ c ∧ c ≤ 40 ∧
  ∀ (D : Addr) (H' : Hp), Same H H' → H D = none → H' D = some (.lst (wtsV p q c)) → Q (.ref D) H'
theorem wts_step (p q k : Nat) : ((wtsV p q (k + 1)).map fun v => match v with | .int z => V.int (z * (q : Int)) | v => v) ++ [V.int ((p : Int) ^ k * (p : Int))] = wtsV p q (k + 2) := by
  unfold wtsV
  rw [List.range_succ (n := k + 1), List.map_append, List.map_map]
  congr 1
  · refine List.map_congr_left fun i hi => ?_
    have := List.mem_range.mp hi
    show V.int (wtF p q (k + 1) i * (q : Int)) = V.int (wtF p q (k + 2) i)
    unfold wtF
    rw [show k + 2 - 1 - i = (k + 1 - 1 - i) + 1 by omega, Int.pow_succ, Int.mul_assoc]
  · show [V.int ((p : Int) ^ k * (p : Int))] = [V.int (wtF p q (k + 2) (k + 1))]
    unfold wtF
    rw [show k + 2 - 1 - (k + 1) = 0 by omega, Int.pow_succ, Int.pow_zero, Int.mul_one]
section
variable {P : Program} {w : World} {K : PySem.W.Frag} {mg : Str → Option Value} {base : Heap}
theorem ok__law_weights (A : At K mg "_law_weights" s__law_weights ["_law_ratio_here", "_law_count"]) (B : Bn mg) : CalE P w K mg base "_law_weights" ["_law_ratio_here", "_law_count"] 1 (sp__law_weights K) := by
  obtain ⟨f, fd, F, gF, bF⟩ := A
  refine ⟨f, fd, F.ok sc__law_weights (fun vs H Q E h => ?_) (fun cdv A outer s H vs Q E hr h => ?_), gF, F.kp, bF⟩
  · repeat (first | (obtain ⟨rfl, _⟩ := h; rfl) | (obtain ⟨_, h⟩ := h))
  · obtain ⟨a, p, q, c, rfl, hS, hr0, hc1, hc, k⟩ := h
    have hsz := sizeLine_eq
    have hq := hr0.q30
    have hp := hr0.p1
    have hpq := hr0.pq
    have lw : ∀ n, (wtsV p q n).length = n := fun n => by unfold wtsV; rw [List.length_map, List.length_range]
    refine ⟨_, (pss_cons (ps_set (i := 2) sc__law_weights.nd rfl (.inl rfl) (pe_lst (pa_cons pe_int pa_nil)))
      (pss_cons (ps_for PassesOwn.never rfl (pi_range1 (by rfl) B.range_ (pa_cons (pe_op op_sub (pv 1) pe_int) pa_nil)) (pg_name (i := 3) sc__law_weights.nd rfl (.inl rfl))
      (pss_one (ps_set (i := 2) sc__law_weights.nd rfl (.inl rfl) (pe_op op_cat (pe_lc (own := [("_law_one", 4)]) (g := gName 4) (tt := tYes) rfl sc__law_weights.nd (pi_list (pv 2)) (blkOk_by (own := [("_law_one", 4)]) (N := ["_law_ratio_here", "_law_count", "_law_found", "_law_k", "_law_one"]) (sc := defScope s__law_weights) (by decide +kernel)) (fun _ _ _ _ _ => (pg_name (i := 4) sc__law_weights.nd rfl (.inl rfl))) (fun _ _ _ _ _ => pts_nil) (fun _ _ _ _ _ => (pe_op op_mul (pv 4) (pe_ix (ix_tup_ K) (pv 0) pe_int (fun _ _ => rfl))))) (pe_lst (pa_cons (pe_op op_mul (pe_ix (ix_list_ K) (pv 2) (pe_un un_neg pe_int) (fun _ _ => rfl)) (pe_ix (ix_tup_ K) (pv 0) pe_int (fun _ _ => rfl))) pa_nil))))))
      (pss_one (ps_ret (pv 2))))), ?_⟩
    refine ⟨(by show 1 ≤ sizeLine; omega), fun D nD => ?_⟩
    refine ⟨_, rfl, _, _, rfl, rfl, _, rfl, by omega, by omega, ?_⟩
    rw [show (((c : Int) - 1).toNat) = c - 1 by omega]
    refine for_range (lo := 0) (n := c - 1) (fun j σ H2 => ∃ (F : Addr) (v3 v4 : Option V), σ = [some (.ref a), some (.int (c : Nat)), some (.ref F), v3, v4] ∧ Same H H2 ∧ H F = none ∧ H2 F = some (.lst (wtsV p q (j + 1)))) ⟨D, _, _, rfl, same_new nD _, nD, ?_⟩ ?_ ?_
    · rw [upd_same]
      rfl
    · rintro j σ H2 hj ⟨F, v3, v4, rfl, s2, nF, eF⟩
      have hS2 : ∀ {H' : Hp}, Same H2 H' → SqT K H' a [.int (p : Nat), .int (q : Nat)] := fun s => Same.seqT (s2.trans s) hS
      refine ⟨_, rfl, F, rfl, ⟨_, .inl (.inl eF)⟩, fun L nL => ?_⟩
      refine lc_list (K := K) (a := F) (xs := wtsV p q (j + 1)) (fun i H3 => Same H2 H3 ∧ H3 L = some (.lst (((wtsV p q (j + 1)).take i).map fun v => match v with | .int z => V.int (z * (q : Int)) | v => v))) ⟨same_new nL _, upd_same⟩ (fun i H3 _ h => .inl (.inl (h.1 _ _ eF))) ?_ ?_
      · rintro i x H3 hx ⟨s3, eL⟩
        have hi : i < j + 1 := lw (j + 1) ▸ (List.getElem?_eq_some_iff.mp hx).1
        have ex : x = V.int (wtF p q (j + 1) i) := by
          have hx' := hx
          unfold wtsV at hx'
          rw [List.getElem?_map, List.getElem?_range hi] at hx'
          exact (Option.some.inj hx').symm
        subst ex
        refine ⟨rfl, _, rfl, _, rfl, a, _, 1, _, rfl, rfl, hS2 s3, rfl, _, _, rfl, rfl, .inr (by omega), _, eL, ?_, fun b o ho => ?_, ?_⟩
        · rw [List.length_map, List.length_take]
          omega
        · rw [upd_ne (ne_of_none ho nL)]
          exact s3 _ _ ho
        · rw [upd_same, take_more hx, List.map_append]
          rfl
      rintro H3 ⟨s3, eL⟩
      rw [List.take_length] at eL
      have elast : atI (wtsV p q (j + 1)) (-1) = some (V.int ((p : Int) ^ j)) := by
        have e : wtsV p q (j + 1) = (List.range j).map (fun i => V.int (wtF p q (j + 1) i)) ++ [V.int ((p : Int) ^ j)] := by
          unfold wtsV
          rw [List.range_succ, List.map_append]
          congr 1
          show [V.int (wtF p q (j + 1) j)] = _
          unfold wtF
          rw [show j + 1 - 1 - j = 0 by omega, Int.pow_zero, Int.mul_one]
        rw [e]
        exact atI_last _ _
      refine ⟨_, rfl, _, rfl, F, _, _, _, rfl, rfl, .inl (.inl (s3 _ _ eF)), elast, _, rfl, a, _, 0, _, rfl, rfl, hS2 s3, rfl, _, _, rfl, rfl, .inr (by omega), (by show 1 ≤ sizeLine; omega), fun M nM => ?_⟩
      have s4 := same_new nM (.lst [.int ((p : Int) ^ j * (p : Int))])
      refine ⟨L, M, _, _, rfl, rfl, s4 _ _ eL, upd_same, by rw [List.length_map, lw]; show j + 1 + 1 ≤ sizeLine; omega, fun N nN => ?_⟩
      have s5 := (s3.trans s4).trans (same_new nN (.lst (((wtsV p q (j + 1)).map fun v => match v with | .int z => V.int (z * (q : Int)) | v => v) ++ [.int ((p : Int) ^ j * (p : Int))])))
      refine ⟨N, _, _, rfl, s2.trans s5, s2.free ((s3.trans s4).free nN), ?_⟩
      rw [upd_same, ← wts_step]
    · rintro σ H2 ⟨F, v3, v4, rfl, s2, nF, eF⟩
      rw [show c - 1 + 1 = c by omega] at eF
      exact ⟨_, rfl, k F H2 s2 nF eF⟩
end

abbrev s_check_count : Stmt := topS 21
theorem sc_check_count : FnScope ["thing"] ["thing"] (defScope s_check_count) := ⟨rfl, rfl, rfl, by decide +kernel, rfl, by decide +kernel, by decide +kernel⟩
def sp_check_count (K : PySem.W.Frag) : Sp := fun vs H Q _ => ∃ m : Nat, vs = [.int (m : Nat)] ∧ 1 ≤ m ∧ m ≤ 40 ∧ Q .non H
section
variable {P : Program} {w : World} {K : PySem.W.Frag} {mg : Str → Option Value} {base : Heap}
theorem ok_check_count (A : At K mg "check_count" s_check_count ["thing"]) (B : Bn mg) (H_is_integer : CalE P w K mg base "is_integer" ["thing", "low", "high"] 1 (sp_is_integer K)) (K_MOST_COUNT : ∃ v, mg "MOST_COUNT" = some v ∧ RelV (.int 40) v) : CalE P w K mg base "check_count" ["thing"] 2 (sp_check_count K) := by
  obtain ⟨f, fd, F, gF, bF⟩ := A
  obtain ⟨f_is_integer, fd_is_integer, G_is_integer⟩ := H_is_integer
  obtain ⟨v_MOST_COUNT, C_MOST_COUNT⟩ := K_MOST_COUNT
  refine ⟨f, fd, F.ok sc_check_count (fun vs H Q E h => ?_) (fun cdv A outer s H vs Q E hr h => ?_), gF, F.kp, bF⟩
  · repeat (first | (obtain ⟨rfl, _⟩ := h; rfl) | (obtain ⟨_, h⟩ := h))
  · obtain ⟨m, rfl, h1, h2, k⟩ := h
    obtain ⟨_, rfl⟩ := C_MOST_COUNT.2
    refine ⟨_, (pss_one (ps_if (pt_not (pt_val (pe_call G_is_integer.ok (hr.mono (by first | decide | exact Nat.le_refl _)) (by rfl) G_is_integer.g G_is_integer.kp G_is_integer.b .nil pass0 (pa_cons (pv 0) (pa_cons pe_int (pa_cons (pe_glob (by rfl) C_MOST_COUNT.1 C_MOST_COUNT.2) pa_nil))))))
      (pss_one ps_never)
      pss_nil)), ?_⟩
    refine ⟨_, rfl, _, _, _, rfl, .int _, ?_⟩
    rw [isI_yes (by omega) (by omega)]
    exact ⟨_, rfl, iteF k⟩
end

abbrev s_best_lengths : Stmt := topS 22
theorem sc_best_lengths : FnScope ["ratio", "count", "rows", "found", "one", "other", "number", "weight"] ["ratio", "count"] (defScope s_best_lengths) := ⟨rfl, rfl, rfl, by decide +kernel, rfl, by decide +kernel, by decide +kernel⟩
def BInv (p q c : Nat) (a F : Addr) (H4 : Hp) (n : Nat) (σ : List (Option V)) (H5 : Hp) : Prop := ∃ (R : Addr) (ps : List (Addr × RowB)) (g : Nat → Nat) (j : Nat) (v4 v5 v6 v7 : Option V), n = ps.length ∧ σ = [some (.ref a), some (.int (c : Nat)), some (.ref R), some (.ref F), v4, v5, v6, v7] ∧ H5 R = some (.lst (ps.map fun p => V.ref p.1)) ∧ (∀ p ∈ ps, RowAt F H5 p.1 p.2) ∧ H5 F = some (.lst (natL g c)) ∧ MInv (wtF p q c) c 60 j (ps.map (·.2)) g ∧ (∀ b o, b ≠ F → H4 b = some o → H5 b = some o) ∧ 1 ≤ ps.length ∧ R ≠ F ∧ (∃ f, ps.length ≤ f + 1 ∧ bestG (wtF p q c) c = mrun c f (ps.map (·.2)) g)
def sp_best_lengths (K : PySem.W.Frag) : Sp := fun vs H Q _ => ∃ (a : Addr) (p q c : Nat), vs = [.ref a, .int (c : Nat)] ∧ SqT K H a [.int (p : Nat), .int (q : Nat)] ∧ IsRat p q ∧ 1 ≤ c ∧ c ≤ 40 ∧
  ∀ (T : Addr) (ls : List Nat) (H' : Hp), ls.Perm ((List.range c).map (bestG (wtF p q c) c)) → ls.Pairwise (· ≤ ·) → Same H H' → H' T = some (.tup (ls.map fun n => V.int (n : Nat))) → Q (.ref T) H'
section
variable {P : Program} {w : World} {K : PySem.W.Frag} {mg : Str → Option Value} {base : Heap}
theorem ok_best_lengths (A : At K mg "best_lengths" s_best_lengths ["ratio", "count"]) (B : Bn mg) (H_check_ratio : CalE P w K mg base "check_ratio" ["thing"] 3 (sp_check_ratio K)) (H_check_count : CalE P w K mg base "check_count" ["thing"] 2 (sp_check_count K)) (H_chance_weights : CalE P w K mg base "chance_weights" ["ratio", "count"] 1 (sp_chance_weights K)) : CalE P w K mg base "best_lengths" ["ratio", "count"] 4 (sp_best_lengths K) := by
  obtain ⟨f, fd, F, gF, bF⟩ := A
  obtain ⟨f_check_ratio, fd_check_ratio, G_check_ratio⟩ := H_check_ratio
  obtain ⟨f_check_count, fd_check_count, G_check_count⟩ := H_check_count
  obtain ⟨f_chance_weights, fd_chance_weights, G_chance_weights⟩ := H_chance_weights
  refine ⟨f, fd, F.ok sc_best_lengths (fun vs H Q E h => ?_) (fun cdv A outer s H vs Q E hr h => ?_), gF, F.kp, bF⟩
  · repeat (first | (obtain ⟨rfl, _⟩ := h; rfl) | (obtain ⟨_, h⟩ := h))
  · obtain ⟨a, p, q, c, rfl, hS, hr0, hc1, hc, k⟩ := h
    have hsz := sizeLine_eq
    refine ⟨_, (pss_cons (ps_expr (pe_call G_check_ratio.ok (hr.mono (by first | decide | exact Nat.le_refl _)) (by rfl) G_check_ratio.g G_check_ratio.kp G_check_ratio.b .nil pass0 (pa_cons (pv 0) pa_nil)))
      (pss_cons (ps_expr (pe_call G_check_count.ok (hr.mono (by first | decide | exact Nat.le_refl _)) (by rfl) G_check_count.g G_check_count.kp G_check_count.b .nil pass0 (pa_cons (pv 1) pa_nil)))
      (pss_cons (ps_setLc (i := 2) (own := [("number", 6), ("weight", 7)]) (g := (gTup K 2 (gCons (gName 6) (gCons (gName 7) gNil)))) (tt := tYes) rfl sc_best_lengths.nd rfl rfl (sw_true rfl rfl rfl (by decide +kernel)) (pi_enum (by rfl) B.enumerate_ (pa_cons (pe_call G_chance_weights.ok (hr.mono (by first | decide | exact Nat.le_refl _)) (by rfl) G_chance_weights.g G_chance_weights.kp G_chance_weights.b .nil pass0 (pa_cons (pv 0) (pa_cons (pv 1) pa_nil))) pa_nil)) (blkOk_by (own := [("number", 6), ("weight", 7)]) (N := ["ratio", "count", "rows", "found", "one", "other", "number", "weight"]) (sc := defScope s_best_lengths) (by decide +kernel)) (fun _ _ _ _ _ => (pg_tup (by rfl) (pgs_cons (pg_name (i := 6) sc_best_lengths.nd rfl (.inl rfl)) (pgs_cons (pg_name (i := 7) sc_best_lengths.nd rfl (.inl rfl)) pgs_nil)))) (fun _ _ _ _ _ => pts_nil) (fun _ _ _ _ _ => (pe_tup (pa_cons (pv 7) (pa_cons (pv 6) (pa_cons (pe_lst (pa_cons (pv 6) pa_nil)) pa_nil))))))
      (pss_cons (ps_set (i := 3) sc_best_lengths.nd rfl (.inl rfl) (pe_op op_rep (pe_lst (pa_cons pe_int pa_nil)) (pv 1)))
      (pss_cons (ps_while PassesOwn.never (pt_cmpR op_gt (pe_callB (call_len_seq_ K) (by rfl) B.len_ (by decide +kernel) (pa_cons (pv 2) pa_nil)) pe_int (nomark _))
      (pss_cons (ps_set (i := 2) sc_best_lengths.nd rfl (.inl rfl) (pe_callB (cr_sortedD_ K hr.units) (by rfl) B.sorted_ (by decide +kernel) (pa_cons (pv 2) pa_nil)))
      (pss_cons (ps_par (i := 4) (j := 5) (by rfl) sc_best_lengths.nd rfl rfl (by decide) rfl rfl (pa_cons (pe_ix (ix_list_ K) (pv 2) pe_int (fun _ _ => rfl)) (pa_cons (pe_ix (ix_list_ K) (pv 2) pe_int (fun _ _ => rfl)) pa_nil)) (by rfl))
      (pss_cons (ps_for PassesOwn.never rfl (pi_list (pe_op op_cat (pe_ix (ix_tup_ K) (pv 4) pe_int (fun _ _ => rfl)) (pe_ix (ix_tup_ K) (pv 5) pe_int (fun _ _ => rfl)))) (pg_name (i := 6) sc_best_lengths.nd rfl (.inl rfl))
      (pss_one (ps_augS (pv 3) (pv 6) (pget_list K) pe_int ip_add set_list)))
      (pss_one (ps_set (i := 2) sc_best_lengths.nd rfl (.inl rfl) (pe_op op_cat (pe_slice (sl_list_ K) (pv 2) (po_some pe_int) po_none) (pe_lst (pa_cons (pe_tup (pa_cons (pe_op op_add (pe_ix (ix_tup_ K) (pv 4) pe_int (fun _ _ => rfl)) (pe_ix (ix_tup_ K) (pv 5) pe_int (fun _ _ => rfl))) (pa_cons (pe_op op_add (pv 1) (pe_callB (call_len_seq_ K) (by rfl) B.len_ (by decide +kernel) (pa_cons (pv 2) pa_nil))) (pa_cons (pe_op op_cat (pe_ix (ix_tup_ K) (pv 4) pe_int (fun _ _ => rfl)) (pe_ix (ix_tup_ K) (pv 5) pe_int (fun _ _ => rfl))) pa_nil)))) pa_nil)))))))))
      (pss_one (ps_ret (pe_callTy (call_tuple_of_ K) (by rfl) B.tuple_ (by decide +kernel) (pa_cons (pe_callB cr_sorted (by rfl) B.sorted_ (by decide +kernel) (pa_cons (pv 3) pa_nil)) pa_nil))))))))), ?_⟩
    refine ⟨_, rfl, a, p, q, rfl, hS, hr0, ?_⟩
    refine ⟨_, rfl, c, rfl, hc1, hc, ?_⟩
    -- the rows
    refine ⟨_, rfl, _, rfl, a, p, q, c, rfl, hS, hr0, hc1, hc, fun Z H1 s1 nZ eZ => ?_⟩
    have lw : (wtsV p q c).length = c := by unfold wtsV; rw [List.length_map, List.length_range]
    refine ⟨Z, _, rfl, .inl (.inl eZ), fun D nD => ?_⟩
    refine lc_enum (K := K) (a := Z) (xs := wtsV p q c) (fun j H2 => ∃ ts : List Addr, ts.length = j ∧ Same H1 H2 ∧ H2 D = some (.lst (ts.map V.ref)) ∧ ∀ (i : Nat) t, ts[i]? = some t → RowAt D H2 t ⟨wtF p q c i, i, [i]⟩) ⟨[], rfl, same_new nD _, upd_same, fun i t h => by cases h⟩ (fun j H2 _ ⟨_, _, s, _⟩ => .inl (.inl (s _ _ eZ))) ?_ ?_
    · rintro j x H2 T hx ⟨ts, hts, s2, eD, he⟩ nT
      have hj : j < c := lw ▸ (List.getElem?_eq_some_iff.mp hx).1
      have ex : x = V.int (wtF p q c j) := by
        unfold wtsV at hx
        rw [List.getElem?_map, List.getElem?_range hj] at hx
        exact (Option.some.inj hx).symm
      subst ex
      refine ⟨T, _, rfl, .inl (.inl upd_same), rfl, _, _, rfl, _, _, rfl, rfl, rfl, ?_⟩
      have s3 := same_new nT (.tup [.int (j : Nat), .int (wtF p q c j)])
      generalize upd H2 T (.tup [.int (j : Nat), .int (wtF p q c j)]) = H3 at *
      refine ⟨_, rfl, _, rfl, _, rfl, (by show 1 ≤ sizeLine; omega), fun L nL => ?_⟩
      have s4 := same_new nL (.lst [.int (j : Nat)])
      have eL : (upd H3 L (.lst [.int (j : Nat)])) L = some (.lst (natsV [j])) := upd_same
      have eD4 := s4 _ _ (s3 _ _ eD)
      have nLD : L ≠ D := fun z => by rw [z, s3 _ _ eD] at nL; cases nL
      generalize upd H3 L (.lst [.int (j : Nat)]) = H4 at *
      refine ⟨(by show 3 ≤ sizeLine; omega), fun U nU => ?_⟩
      have s5 := same_new nU (.tup [.int (wtF p q c j), .int (j : Nat), .ref L])
      have eU : (upd H4 U (.tup [.int (wtF p q c j), .int (j : Nat), .ref L])) U = some (.tup [.int (wtF p q c j), .int (j : Nat), .ref L]) := upd_same
      have eD5 := s5 _ _ eD4
      have eL5 := s5 _ _ eL
      have S5 := s3.trans (s4.trans s5)
      generalize upd H4 U (.tup [.int (wtF p q c j), .int (j : Nat), .ref L]) = H5 at *
      refine ⟨_, eD5, by rw [List.length_map]; omega, ts ++ [U], by rw [List.length_append, hts]; rfl, fun b o ho => ?_, ?_, fun i t ht => ?_⟩
      · rw [upd_ne (ne_of_none ho nD)]
        exact S5 _ _ (s2 _ _ ho)
      · rw [upd_same, List.map_append]
        rfl
      · by_cases hi : i < ts.length
        · rw [List.getElem?_append_left hi] at ht
          exact RowAt.updF eD5 ((he i t ht).same S5)
        · have hi2 := (List.getElem?_eq_some_iff.mp ht).1
          rw [List.length_append, List.length_singleton] at hi2
          have : i = ts.length := by omega
          subst this
          rw [List.getElem?_append_right (Nat.le_refl _), Nat.sub_self] at ht
          cases Option.some.inj ht
          rw [hts]
          exact RowAt.updF eD5 ⟨L, nLD, eU, eL5⟩
    rintro H2 ⟨ts, hts, s2, eD, he⟩
    rw [lw] at hts
    have S2 := s1.trans s2
    -- found
    refine ⟨(by show 1 ≤ sizeLine; omega), fun E1 nE1 => ?_⟩
    have s3 := same_new nE1 (.lst [.int 0])
    refine ⟨_, rfl, E1, _, _, rfl, rfl, upd_same, by omega, by omega, (by show 1 * _ ≤ sizeLine; omega), fun F nF => ?_⟩
    rw [Int.toNat_natCast]
    have s4 := s3.trans (same_new nF (.lst ((List.replicate c [V.int 0]).flatten)))
    have nF2 : H2 F = none := s3.free nF
    have eF : (upd (upd H2 E1 (.lst [.int 0])) F (.lst ((List.replicate c [V.int 0]).flatten))) F = some (.lst (natL (fun _ => 0) c)) := by
      rw [upd_same]
      have e : ∀ n, (List.replicate n [V.int 0]).flatten = natL (fun _ => 0) n := fun n => by
        induction n with
        | zero => rfl
        | succ n ih =>
          unfold natL at ih ⊢
          rw [List.replicate_succ', List.flatten_append, ih, List.range_succ, List.map_append]
          rfl
      rw [e c]
    have he4 : ∀ (i : Nat) t, ts[i]? = some t → RowAt F (upd (upd H2 E1 (.lst [.int 0])) F (.lst ((List.replicate c [V.int 0]).flatten))) t ⟨wtF p q c i, i, [i]⟩ := fun i t h => ((he i t h).other nF2).same s4
    have eD4 := s4 _ _ eD
    have S4 := S2.trans s4
    have nFH : H F = none := S2.free nF2
    generalize upd (upd H2 E1 (.lst [.int 0])) F (.lst ((List.replicate c [V.int 0]).flatten)) = H4 at *
    have nDF : D ≠ F := fun z => by rw [← z, eD] at nF2; cases nF2
    clear he eD s2 s3 s4 s1 eZ nE1 nF nZ
    -- the merging
    have lr : (rows0 (wtF p q c) c).length = c := by unfold rows0; rw [List.length_map, List.length_range]
    have z1 : (ts.zip (rows0 (wtF p q c) c)).map (·.1) = ts := List.map_fst_zip (by omega)
    have z2 : (ts.zip (rows0 (wtF p q c) c)).map (·.2) = rows0 (wtF p q c) c := List.map_snd_zip (by omega)
    have zl : (ts.zip (rows0 (wtF p q c) c)).length = c := by rw [List.length_zip, hts, lr, Nat.min_self]
    refine ⟨BInv p q c a F H4, ⟨_, D, (ts.zip (rows0 (wtF p q c) c)), fun _ => 0, 0, _, _, _, _, rfl, rfl, ?_, ?_, eF, by rw [z2]; exact minv0 _ _ _, fun b o _ h => h, by omega, nDF, c, by omega, by rw [z2]; rfl⟩, ?_⟩
    · rw [eD4]
      congr 2
      conv => lhs; rw [← z1, List.map_map]
      rfl
    · intro p' hp'
      obtain ⟨i, hi⟩ := List.getElem?_of_mem hp'
      have h1 : (ts.zip (rows0 (wtF p q c) c)).map (·.1) = ts := z1
      have i1 : ts[i]? = some p'.1 := by
        rw [← z1, List.getElem?_map, hi]
        rfl
      have i2 : (rows0 (wtF p q c) c)[i]? = some p'.2 := by
        rw [← z2, List.getElem?_map, hi]
        rfl
      have hic : i < c := hts ▸ (List.getElem?_eq_some_iff.mp i1).1
      unfold rows0 at i2
      rw [List.getElem?_map, List.getElem?_range hic] at i2
      rw [← Option.some.inj i2]
      exact he4 i _ i1
    clear z1 z2 zl he4 hts eD4 eF nDF
    rintro n σ H5 ⟨R, ps, g, j, v4, v5, v6, v7, rfl, rfl, eR, hrow, eF5, hinv, keep, hl1, nRF, f, hf, hbest⟩
    refine ⟨_, rfl, R, _, rfl, .inl (.inl (.inl eR)), _, _, rfl, rfl, _, rfl, ?_⟩
    rw [List.length_map]
    have hlen := hinv.len
    rw [List.length_map] at hlen
    by_cases c1 : 1 < ps.length
    · refine iteDT (by omega) ?_
      refine ⟨BInv p q c a F H4 (ps.length - 1), fun σ' H' h => ⟨ps.length - 1, by omega, h⟩, ?_⟩
      have apart : ∀ x ∈ ps, ∀ y ∈ ps, x.2.n = y.2.n → x.2 = y.2 := fun x hx y hy e => hinv.apart (List.mem_map_of_mem hx) (List.mem_map_of_mem hy) e
      obtain ⟨sr1, sr2⟩ := sort_rows hrow apart
      have mems : ∀ x ∈ ps.map (fun p => V.ref p.1), ∃ pr ∈ ps, x = V.ref pr.1 := fun x hx => by
        obtain ⟨pr, h1, rfl⟩ := List.mem_map.mp hx
        exact ⟨pr, h1, rfl⟩
      refine ⟨_, rfl, R, _, fun v => encRow (rowOf H5 v), rfl, .inl (.inl eR), fun x hx => ?_, ?_, ?_, fun x hx => enc_depth _, fun Pn nP => ?_⟩
      · obtain ⟨pr, h1, rfl⟩ := mems x hx
        show Dp K H5 (.ref pr.1) (encRow (rowOf H5 (.ref pr.1)))
        rw [(hrow pr h1).of]
        exact (hrow pr h1).dp
      · exact PySem.W.AllAlike.of fun b b' => enc_alike _ _
      · exact PySem.W.Sortable.tuples fun b => ⟨_, _, rfl⟩
      rw [sr1]
      have s6 := same_new nP (.lst ((ps.mergeSort fun a b => rowLe a.2 b.2).map fun p => V.ref p.1))
      have eP : (upd H5 Pn (.lst ((ps.mergeSort fun a b => rowLe a.2 b.2).map fun p => V.ref p.1))) Pn = some (.lst ((ps.mergeSort fun a b => rowLe a.2 b.2).map fun p => V.ref p.1)) := upd_same
      have hperm := List.mergeSort_perm ps fun a b => rowLe a.2 b.2
      have hrow6 : ∀ pr ∈ (ps.mergeSort fun a b => rowLe a.2 b.2), RowAt F (upd H5 Pn (.lst ((ps.mergeSort fun a b => rowLe a.2 b.2).map fun p => V.ref p.1))) pr.1 pr.2 := fun pr h => (hrow pr (hperm.mem_iff.mp h)).same s6
      have hql := hperm.length_eq
      generalize (ps.mergeSort fun a b => rowLe a.2 b.2) = qs at *
      have eF6 := s6 _ _ eF5
      have nPF : Pn ≠ F := fun z => by rw [z, eF5] at nP; cases nP
      have keep6 : ∀ b o, b ≠ F → H4 b = some o → (upd H5 Pn (.lst (qs.map fun p => V.ref p.1))) b = some o := fun b o hb ho => s6 _ _ (keep b o hb ho)
      generalize upd H5 Pn (.lst (qs.map fun p => V.ref p.1)) = H6 at *
      clear s6 nP eR hrow keep eF5 mems
      match qs, hql, sr2, hperm, eP, hrow6 with
      | [], h, _, _, _, _ => rw [List.length_nil] at h; omega
      | [x], h, _, _, _, _ => rw [List.length_singleton] at h; omega
      | x :: y :: r, hql, sr2, hperm, eP, hrow6 =>
        obtain ⟨hsorted, hmin⟩ := hinv.sorted
        have sr3 : (ps.map (·.2)).mergeSort rowLe = x.2 :: y.2 :: r.map (·.2) := sr2.symm
        obtain ⟨m1, m2⟩ := hmin _ _ _ sr3
        rw [sr3] at hsorted
        have hstep := hsorted.step (by omega) m1 m2
        rw [List.length_map] at hstep
        have hmsl : x.2.ms.length + y.2.ms.length ≤ c := by
          have h := hsorted.part.length_eq
          rw [List.flatMap_cons, List.flatMap_cons, List.length_append, List.length_append, List.length_range] at h
          omega
        have hmsc : ∀ k ∈ x.2.ms ++ y.2.ms, k < c := fun k hk => by
          have h := hsorted.part
          rw [List.flatMap_cons, List.flatMap_cons, ← List.append_assoc] at h
          exact List.mem_range.mp (h.mem_iff.mp (List.mem_append_left _ hk))
        rw [List.length_cons, List.length_cons] at hql
        obtain ⟨Lx, nx, ex, eLx⟩ := hrow6 x List.mem_cons_self
        obtain ⟨Ly, ny, ey, eLy⟩ := hrow6 y (List.mem_cons_of_mem _ List.mem_cons_self)
        have lnx : (natsV x.2.ms).length = x.2.ms.length := by unfold natsV; rw [List.length_map]
        have lny : (natsV y.2.ms).length = y.2.ms.length := by unfold natsV; rw [List.length_map]
        refine ⟨_, rfl, Pn, _, _, _, rfl, rfl, .inl (.inl eP), at_of (j := 0) rfl rfl, _, rfl, Pn, _, _, _, rfl, rfl, .inl (.inl eP), at_of (j := 1) rfl rfl, _, _, rfl, ?_⟩
        refine ⟨_, rfl, x.1, _, _, _, rfl, rfl, .inl (.inl ex), at_of (j := 2) rfl rfl, _, rfl, y.1, _, _, _, rfl, rfl, .inl (.inl ey), at_of (j := 2) rfl rfl, Lx, Ly, _, _, rfl, rfl, eLx, eLy, by rw [lnx, lny]; omega, fun C nC => ?_⟩
        have eC : (upd H6 C (.lst (natsV x.2.ms ++ natsV y.2.ms))) C = some (.lst (natsV (x.2.ms ++ y.2.ms))) := by
          rw [upd_same]
          unfold natsV
          rw [List.map_append]
        have s7 := same_new nC (.lst (natsV x.2.ms ++ natsV y.2.ms))
        have nCF : C ≠ F := fun z => by rw [z, eF6] at nC; cases nC
        generalize upd H6 C (.lst (natsV x.2.ms ++ natsV y.2.ms)) = H7 at *
        refine ⟨C, rfl, ⟨_, .inl (.inl eC)⟩, for_list (K := K) (a := C) (xs := natsV (x.2.ms ++ y.2.ms)) (fun i σ H8 => ∃ v6, σ = [some (.ref a), some (.int (c : Nat)), some (.ref Pn), some (.ref F), some (.ref x.1), some (.ref y.1), v6, v7] ∧ H8 F = some (.lst (natL (bump g ((x.2.ms ++ y.2.ms).take i)) c)) ∧ ∀ b o, b ≠ F → H7 b = some o → H8 b = some o) ⟨_, rfl, s7 _ _ eF6, fun b o _ h => h⟩ (fun i σ H8 _ ⟨_, _, _, s⟩ => .inl (.inl (s _ _ nCF eC))) ?_ ?_⟩
        · rintro i z σ H8 hz ⟨v6, rfl, eF8, s8⟩
          unfold natsV at hz
          rw [List.getElem?_map] at hz
          cases hk : (x.2.ms ++ y.2.ms)[i]? with
          | none => rw [hk] at hz; cases hz
          | some k =>
            rw [hk] at hz
            cases Option.some.inj hz
            have hkc := hmsc k (List.mem_of_getElem? hk)
            refine ⟨_, rfl, _, rfl, F, _, k, _, rfl, rfl, .inl (.inl eF8), natL_get _ hkc, _, _, rfl, rfl, F, _, _, k, rfl, rfl, eF8, ?_, _, rfl, ?_, fun b o hb ho => ?_⟩
            · unfold ixN
              rw [if_pos (by omega), if_pos (by rw [natL_len]; omega), Int.toNat_natCast]
            · rw [upd_same, natL_set _ hkc, bump_take hk]
            · rw [upd_ne hb]
              exact s8 b o hb ho
        rintro σ H8 ⟨v6, rfl, eF8, s8⟩
        rw [List.take_of_length_le (by unfold natsV; rw [List.length_map]; exact Nat.le_refl _)] at eF8
        have ne_l : ∀ {t : Addr} {l : List V}, H7 t = some (.tup l) → H8 t = some (.tup l) := fun {t l} h => s8 _ _ (fun z => by rw [z, s7 _ _ eF6] at h; cases h) h
        have ex8 := ne_l (s7 _ _ ex)
        have ey8 := ne_l (s7 _ _ ey)
        have eLx8 := s8 _ _ nx (s7 _ _ eLx)
        have eLy8 := s8 _ _ ny (s7 _ _ eLy)
        have eP8 := s8 _ _ nPF (s7 _ _ eP)
        have hrow8 : ∀ pr ∈ r, RowAt F H8 pr.1 pr.2 := fun pr h => by
          obtain ⟨L, a1, a2, a3⟩ := (hrow6 pr (List.mem_cons_of_mem _ (List.mem_cons_of_mem _ h))).same s7
          exact ⟨L, a1, ne_l a2, s8 _ _ a1 a3⟩
        have keep8 : ∀ b o, b ≠ F → H4 b = some o → H8 b = some o := fun b o hb ho => s8 _ _ hb (s7 _ _ (keep6 b o hb ho))
        clear ex ey eLx eLy eP hrow6 keep6 s7 s8 eC nC eF6 ne_l
        -- the new row
        refine ⟨_, rfl, _, rfl, Pn, _, rfl, .inl (.inl eP8), fun S nS => ?_⟩
        have ecut : cutV ((x :: y :: r).map fun p => V.ref p.1) (some (2 : Int)) none = r.map fun p => V.ref p.1 := cutV_from _ 2
        rw [ecut]
        have s9 := same_new nS (.lst (r.map fun p => V.ref p.1))
        have eS : (upd H8 S (.lst (r.map fun p => V.ref p.1))) S = some (.lst (r.map fun p => V.ref p.1)) := upd_same
        generalize upd H8 S (.lst (r.map fun p => V.ref p.1)) = H9 at *
        refine ⟨_, rfl, x.1, _, _, _, rfl, rfl, .inl (.inl (s9 _ _ ex8)), at_of (j := 0) rfl rfl, _, rfl, y.1, _, _, _, rfl, rfl, .inl (.inl (s9 _ _ ey8)), at_of (j := 0) rfl rfl, _, _, rfl, rfl, _, rfl, _, rfl, Pn, _, rfl, .inl (.inl (.inl (s9 _ _ eP8))), _, _, rfl, rfl, ?_⟩
        refine ⟨_, rfl, x.1, _, _, _, rfl, rfl, .inl (.inl (s9 _ _ ex8)), at_of (j := 2) rfl rfl, _, rfl, y.1, _, _, _, rfl, rfl, .inl (.inl (s9 _ _ ey8)), at_of (j := 2) rfl rfl, Lx, Ly, _, _, rfl, rfl, s9 _ _ eLx8, s9 _ _ eLy8, by rw [lnx, lny]; omega, fun C2 nC2 => ?_⟩
        have eC2 : (upd H9 C2 (.lst (natsV x.2.ms ++ natsV y.2.ms))) C2 = some (.lst (natsV (x.2.ms ++ y.2.ms))) := by
          rw [upd_same]
          unfold natsV
          rw [List.map_append]
        have s10 := same_new nC2 (.lst (natsV x.2.ms ++ natsV y.2.ms))
        have nC2F : C2 ≠ F := fun z => by rw [z, s9 _ _ eF8] at nC2; cases nC2
        generalize upd H9 C2 (.lst (natsV x.2.ms ++ natsV y.2.ms)) = H10 at *
        refine ⟨(by show 3 ≤ sizeLine; omega), fun U nU => ?_⟩
        have eU : (upd H10 U (.tup [.int (x.2.w + y.2.w), .int ((c : Int) + ((((x :: y :: r).map fun p => V.ref p.1).length : Nat) : Int)), .ref C2])) U = some (.tup [.int (x.2.w + y.2.w), .int ((c + (r.length + 2) : Nat) : Int), .ref C2]) := by
          have el : (c : Int) + ((((x :: y :: r).map fun p => V.ref p.1).length : Nat) : Int) = ((c + (r.length + 2) : Nat) : Int) := by
            rw [List.length_map, List.length_cons, List.length_cons]
            omega
          rw [upd_same, el]
        have s11 := same_new nU (.tup [.int (x.2.w + y.2.w), .int ((c : Int) + ((((x :: y :: r).map fun p => V.ref p.1).length : Nat) : Int)), .ref C2])
        refine ⟨(by show 1 ≤ sizeLine; omega), fun V1 nV => ?_⟩
        have s12 := s11.trans (same_new nV (.lst [.ref U]))
        have eU := same_new nV (.lst [.ref U]) _ _ eU
        have eV : (upd (upd H10 U (.tup [.int (x.2.w + y.2.w), .int ((c : Int) + ((((x :: y :: r).map fun p => V.ref p.1).length : Nat) : Int)), .ref C2])) V1 (.lst [.ref U])) V1 = some (.lst [.ref U]) := upd_same
        refine ⟨S, V1, _, _, rfl, rfl, s12 _ _ (s10 _ _ eS), eV, by rw [List.length_map]; show r.length + 1 ≤ sizeLine; omega, fun R' nR' => ?_⟩
        have s13 := (s10.trans s12).trans (same_new nR' (.lst ((r.map fun p => V.ref p.1) ++ [.ref U])))
        have S13 := s9.trans s13
        have nRF' : R' ≠ F := fun z => by rw [z] at nR'; rw [s12 _ _ (s10 _ _ (s9 _ _ eF8))] at nR'; cases nR'
        refine ⟨R', r ++ [(U, ⟨x.2.w + y.2.w, c + (r.length + 2), x.2.ms ++ y.2.ms⟩)], bump g (x.2.ms ++ y.2.ms), j + 1, _, _, _, _, ?_, rfl, ?_, fun pr hpr => ?_, S13 _ _ eF8, ?_, fun b o hb ho => S13 _ _ (keep8 b o hb ho), by rw [List.length_append]; show 1 ≤ _ + 1; omega, nRF', f - 1, by rw [List.length_append]; show r.length + 1 ≤ _; omega, ?_⟩
        · rw [List.length_append]
          show _ = r.length + 1
          omega
        · rw [upd_same, List.map_append]
          rfl
        · rcases List.mem_append.mp hpr with hpr | hpr
          · exact (hrow8 pr hpr).same S13
          · rw [List.mem_singleton.mp hpr]
            exact ⟨C2, nC2F, same_new nR' _ _ _ eU, same_new nR' _ _ _ (s12 _ _ eC2)⟩
        · rw [List.map_append]
          exact hstep
        · rw [hbest, show f = (f - 1) + 1 by omega, mrun_more sr3, List.map_append, List.length_map, Nat.add_sub_cancel]
          rfl
    · refine iteDF (by omega) ?_
      have h1 : ps.length = 1 := by omega
      rw [mrun_one _ _ _ _ (by rw [List.length_map]; exact h1)] at hbest
      have hints : natL g c = (((List.range c).map g).map fun n => ((n : Nat) : Int)).map V.int := by
        unfold natL
        rw [List.map_map, List.map_map]
        rfl
      rw [hints] at eF5
      refine ⟨_, rfl, F, _, rfl, .inl (.inl eF5), by rw [List.length_map, List.length_map, List.length_range]; omega, fun ns' pp perm pw np => ?_⟩
      have hnn : ns' = (ns'.map Int.toNat).map fun n => ((n : Nat) : Int) := by
        rw [List.map_map]
        have e : ∀ z ∈ ns', (((fun n : Nat => (n : Int)) ∘ Int.toNat) z) = z := fun z hz => by
          obtain ⟨n, _, rfl⟩ := List.mem_map.mp (perm.mem_iff.mp hz)
          show (((n : Nat) : Int).toNat : Int) = _
          rw [Int.toNat_natCast]
        rw [List.map_congr_left e, List.map_id']
      have hp2 : (ns'.map Int.toNat).Perm ((List.range c).map (bestG (wtF p q c) c)) := by
        rw [hbest]
        have h := perm.map Int.toNat
        rw [List.map_map] at h
        have e : ((List.range c).map g).map (Int.toNat ∘ fun n : Nat => ((n : Nat) : Int)) = (List.range c).map g := by
          rw [List.map_congr_left (fun n _ => show (Int.toNat ∘ fun n : Nat => ((n : Nat) : Int)) n = n from Int.toNat_natCast n), List.map_id']
        rw [e] at h
        exact h
      have hpw : (ns'.map Int.toNat).Pairwise (· ≤ ·) := List.pairwise_map.mpr (pw.imp fun h => Int.toNat_le_toNat h)
      refine ⟨pp, _, rfl, .inl ⟨.inl (.inl upd_same), fun T nT => ?_⟩⟩
      have sA := same_new np (.lst (ns'.map V.int))
      refine k T (ns'.map Int.toNat) _ hp2 hpw (fun b o ho => same_new nT _ _ _ (sA _ _ (keep b o (ne_of_none ho nFH) (S4 _ _ ho)))) ?_
      rw [upd_same]
      congr 2
      conv => lhs; rw [hnn, List.map_map]
      rfl
end

abbrev s__law_alike : Stmt := topS 31
theorem sc__law_alike : FnScope ["_law_found", "_law_due", "_law_k"] ["_law_found", "_law_due"] (defScope s__law_alike) := ⟨rfl, rfl, rfl, by decide +kernel, rfl, by decide +kernel, by decide +kernel⟩
def tnD : PyData → String
  | .none => "NoneType" | .bool _ => "bool" | .int _ => "int" | .str _ => "str" | .list _ => "list" | .tuple _ => "tuple" | .dict _ => "dict"
theorem Dp.ty {K : PySem.W.Frag} {H : Hp} {v : V} {d : PyData} (h : Dp K H v d) : TyX K H v (.type (tnD d)) := by
  cases h with
  | non => exact .base .non
  | bl b => exact .base (.bl b)
  | int i => exact .base (.int i)
  | str x => exact .base (.str x)
  | lst h _ => exact tyL h
  | tup h _ => exact tyT h
def isLD : PyData → Bool
  | .list _ => true | _ => false
theorem kaTL {K : PySem.W.Frag} (d : PyData) : PySem.W.kitAny K (.type (tnD d)) [.type "tuple", .type "list"] = some (isTL d) := by
  have no : ∀ T : String, kitB T "tuple" = some false → kitB T "list" = some false → PySem.W.kitAny K (.type T) [.type "tuple", .type "list"] = some false := fun T h1 h2 =>
    kitAny_cons (b := false) (kit_ty h1) (fun _ => kitAny_cons (b := false) (kit_ty h2) (fun _ => rfl) (fun z => nomatch z)) (fun z => nomatch z)
  have c1 : kitB "tuple" "tuple" = some true := by decide +kernel
  have c2 : kitB "list" "tuple" = some false := by decide +kernel
  have c3 : kitB "list" "list" = some true := by decide +kernel
  cases d with
  | none => exact no "NoneType" (by decide +kernel) (by decide +kernel)
  | bool b => exact no "bool" (by decide +kernel) (by decide +kernel)
  | int b => exact no "int" (by decide +kernel) (by decide +kernel)
  | str b => exact no "str" (by decide +kernel) (by decide +kernel)
  | dict b => exact no "dict" (by decide +kernel) (by decide +kernel)
  | tuple b => exact kitAny_cons (b := true) (kit_ty c1) (fun z => nomatch z) (fun _ => rfl)
  | list b => exact kitAny_cons (b := false) (kit_ty c2) (fun _ => kitAny_cons (b := true) (kit_ty c3) (fun z => nomatch z) (fun _ => rfl)) (fun z => nomatch z)
theorem kaL {K : PySem.W.Frag} (d : PyData) : PySem.W.kitOne K (.type (tnD d)) (.type "list") = some (isLD d) := by
  have c1 : kitB "NoneType" "list" = some false := by decide +kernel
  have c2 : kitB "bool" "list" = some false := by decide +kernel
  have c3 : kitB "int" "list" = some false := by decide +kernel
  have c4 : kitB "str" "list" = some false := by decide +kernel
  have c5 : kitB "list" "list" = some true := by decide +kernel
  have c6 : kitB "tuple" "list" = some false := by decide +kernel
  have c7 : kitB "dict" "list" = some false := by decide +kernel
  cases d <;> first | exact kit_ty c1 | exact kit_ty c2 | exact kit_ty c3 | exact kit_ty c4 | exact kit_ty c5 | exact kit_ty c6 | exact kit_ty c7
theorem kit_of_names {K : PySem.W.Frag} (c : String) (g : PyData → Bool) (h : ∀ d, kitB (tnD d) c = some (g d)) (d : PyData) : PySem.W.kitOne K (.type (tnD d)) (.type c) = some (g d) := kit_ty (h d)
def isSD : PyData → Bool
  | .str _ => true | _ => false
def isID : PyData → Bool
  | .int _ => true | .bool _ => true | _ => false
def isBD : PyData → Bool
  | .bool _ => true | _ => false
theorem tab {c : String} {b1 b2 b3 b4 b5 b6 b7 : Bool} (h : kitB "NoneType" c = some b1 ∧ kitB "bool" c = some b2 ∧ kitB "int" c = some b3 ∧ kitB "str" c = some b4 ∧ kitB "list" c = some b5 ∧ kitB "tuple" c = some b6 ∧ kitB "dict" c = some b7) (d : PyData) :
    kitB (tnD d) c = some (match d with | .none => b1 | .bool _ => b2 | .int _ => b3 | .str _ => b4 | .list _ => b5 | .tuple _ => b6 | .dict _ => b7) := by
  obtain ⟨h1, h2, h3, h4, h5, h6, h7⟩ := h
  cases d <;> assumption
theorem kS {K : PySem.W.Frag} (d : PyData) : PySem.W.kitOne K (.type (tnD d)) (.type "str") = some (isSD d) := by
  have := kit_ty (K := K) (tab (c := "str") (by decide +kernel : kitB "NoneType" "str" = some false ∧ kitB "bool" "str" = some false ∧ kitB "int" "str" = some false ∧ kitB "str" "str" = some true ∧ kitB "list" "str" = some false ∧ kitB "tuple" "str" = some false ∧ kitB "dict" "str" = some false) d)
  cases d <;> exact this
theorem kI {K : PySem.W.Frag} (d : PyData) : PySem.W.kitOne K (.type (tnD d)) (.type "int") = some (isID d) := by
  have := kit_ty (K := K) (tab (c := "int") (by decide +kernel : kitB "NoneType" "int" = some false ∧ kitB "bool" "int" = some true ∧ kitB "int" "int" = some true ∧ kitB "str" "int" = some false ∧ kitB "list" "int" = some false ∧ kitB "tuple" "int" = some false ∧ kitB "dict" "int" = some false) d)
  cases d <;> exact this
theorem kB {K : PySem.W.Frag} (d : PyData) : PySem.W.kitOne K (.type (tnD d)) (.type "bool") = some (isBD d) := by
  have := kit_ty (K := K) (tab (c := "bool") (by decide +kernel : kitB "NoneType" "bool" = some false ∧ kitB "bool" "bool" = some true ∧ kitB "int" "bool" = some false ∧ kitB "str" "bool" = some false ∧ kitB "list" "bool" = some false ∧ kitB "tuple" "bool" = some false ∧ kitB "dict" "bool" = some false) d)
  cases d <;> exact this
def spA (K : PySem.W.Frag) (n : Nat) : Sp := fun vs H Q _ => ∃ (x y : V) (d : PyData) (m : Nat), vs = [x, y] ∧ n = m + 1 ∧ Dp K H x d ∧ Dp K H y d ∧ OkD m d ∧ ∀ H', Same H H' → Q (.bl true) H'
def sp__law_alike (K : PySem.W.Frag) : Sp := spA K 5
section
variable {P : Program} {w : World} {K : PySem.W.Frag} {mg : Str → Option Value} {base : Heap}
theorem ok__law_alike (A : At K mg "_law_alike" s__law_alike ["_law_found", "_law_due"]) (B : Bn mg) : CalE P w K mg base "_law_alike" ["_law_found", "_law_due"] 5 (sp__law_alike K) := by
  obtain ⟨f, fd, F, gF, bF⟩ := A
  have key : ∀ n, FnOk P w K mg base CX0 n f fd ["_law_found", "_law_due"] (spA K n) := by
    intro n
    induction n with
    | zero =>
      have no : ∀ vs H Q E, ¬ spA K 0 vs H Q E := fun vs H Q E h => by
        obtain ⟨x, y, d, m, _, h1, _⟩ := h
        omega
      exact ⟨fun vs H Q E h => absurd h (no vs H Q E), fun A outer s H args us vs Q E _ _ _ _ h => absurd h (no vs H Q E)⟩
    | succ n ih =>
      have G__law_alike : Cal P w K mg base "_law_alike" ["_law_found", "_law_due"] n (spA K n) f fd := ⟨ih, gF, F.kp, bF⟩
      refine F.ok sc__law_alike (fun vs H Q E h => ?_) (fun cdv A outer s H vs Q E hr h => ?_)
      · obtain ⟨x, y, d, m, rfl, _⟩ := h
        rfl
      obtain ⟨x, y, d, m, rfl, em, hx, hy, hd, q⟩ := h
      have em' : n = m := Nat.succ.inj em
      subst em'
      refine ⟨_, (pss_cons (ps_if (pt_val (pe_callB (call_isiT_ K) (by rfl) B.isinstance_ (by decide +kernel) (pa_cons (pv 1) (pa_cons (pe_tup (pa_cons (pe_bltn (v := .ty "tuple") (by rfl) B.tuple_ (by decide +kernel) rfl) (pa_cons (pe_bltn (v := .ty "list") (by rfl) B.list_ (by decide +kernel) rfl) pa_nil))) pa_nil))))
      (pss_cons (ps_if (PW.pt (pw_or (pt_not (pt_val (pe_callB (call_isiT_ K) (by rfl) B.isinstance_ (by decide +kernel) (pa_cons (pv 0) (pa_cons (pe_tup (pa_cons (pe_bltn (v := .ty "tuple") (by rfl) B.tuple_ (by decide +kernel) rfl) (pa_cons (pe_bltn (v := .ty "list") (by rfl) B.list_ (by decide +kernel) rfl) pa_nil))) pa_nil))))) (pw_or1 (pt_cmpR op_ne (pe_callB (call_isi_ K) (by rfl) B.isinstance_ (by decide +kernel) (pa_cons (pv 0) (pa_cons (pe_bltn (v := .ty "list") (by rfl) B.list_ (by decide +kernel) rfl) pa_nil))) (pe_callB (call_isi_ K) (by rfl) B.isinstance_ (by decide +kernel) (pa_cons (pv 1) (pa_cons (pe_bltn (v := .ty "list") (by rfl) B.list_ (by decide +kernel) rfl) pa_nil))) (nomark _)))))
      (pss_one (ps_ret pe_bl))
      pss_nil)
      (pss_cons (ps_if (pt_cmpR op_ne (pe_callB (call_len_ K) (by rfl) B.len_ (by decide +kernel) (pa_cons (pv 0) pa_nil)) (pe_callB (call_len_ K) (by rfl) B.len_ (by decide +kernel) (pa_cons (pv 1) pa_nil)) (nomark _))
      (pss_one (ps_ret pe_bl))
      pss_nil)
      (pss_one (ps_ret (pe_cmpR (op_eqD_ K hr.units) (pe_lc (own := [("_law_k", 2)]) (g := gName 2) (tt := _) rfl sc__law_alike.nd (pi_range1 (by rfl) B.range_ (pa_cons (pe_callB (call_len_ K) (by rfl) B.len_ (by decide +kernel) (pa_cons (pv 1) pa_nil)) pa_nil)) (blkOk_by (own := [("_law_k", 2)]) (N := ["_law_found", "_law_due", "_law_k"]) (sc := defScope s__law_alike) (by decide +kernel)) (fun _ _ _ _ _ => (pg_name (i := 2) sc__law_alike.nd rfl (.inl rfl))) (fun _ _ _ _ _ => (pts_one (pt_not (pt_val (pe_call G__law_alike.ok (hr.mono (by first | decide | exact Nat.le_refl _)) (by rfl) G__law_alike.g G__law_alike.kp G__law_alike.b .nil pass0 (pa_cons (pe_ix (ix_seq_ K) (pv 0) (pv 2) (fun _ _ => rfl)) (pa_cons (pe_ix (ix_seq_ K) (pv 1) (pv 2) (fun _ _ => rfl)) pa_nil))))))) (fun _ _ _ _ _ => (pv 2))) (pe_lst pa_nil) (nomark _))))))
      pss_nil)
      (pss_cons (ps_if (PW.pt (pw_or (pt_cmp (pc_isN (pv 1))) (pw_or1 (pt_val (pe_callB (call_isi_ K) (by rfl) B.isinstance_ (by decide +kernel) (pa_cons (pv 1) (pa_cons (pe_bltn (v := .ty "str") (by rfl) B.str_ (by decide +kernel) rfl) pa_nil)))))))
      (pss_one (ps_ret (pe_and (pe_cmpR op_eq (pv 0) (pv 1) (nomark _)) (pe_one (pe_cmpR op_eq (pe_callB (call_isi_ K) (by rfl) B.isinstance_ (by decide +kernel) (pa_cons (pv 0) (pa_cons (pe_bltn (v := .ty "str") (by rfl) B.str_ (by decide +kernel) rfl) pa_nil))) (pe_callB (call_isi_ K) (by rfl) B.isinstance_ (by decide +kernel) (pa_cons (pv 1) (pa_cons (pe_bltn (v := .ty "str") (by rfl) B.str_ (by decide +kernel) rfl) pa_nil))) (nomark _))))))
      pss_nil)
      (pss_one (ps_ret (pe_and (pe_callB (call_isi_ K) (by rfl) B.isinstance_ (by decide +kernel) (pa_cons (pv 0) (pa_cons (pe_bltn (v := .ty "int") (by rfl) B.int_ (by decide +kernel) rfl) pa_nil))) (pe_and (pe_cmpR op_eq (pe_callB (call_isi_ K) (by rfl) B.isinstance_ (by decide +kernel) (pa_cons (pv 0) (pa_cons (pe_bltn (v := .ty "bool") (by rfl) B.bool_ (by decide +kernel) rfl) pa_nil))) (pe_callB (call_isi_ K) (by rfl) B.isinstance_ (by decide +kernel) (pa_cons (pv 1) (pa_cons (pe_bltn (v := .ty "bool") (by rfl) B.bool_ (by decide +kernel) rfl) pa_nil))) (nomark _)) (pe_one (pe_cmpR op_eq (pv 0) (pv 1) (nomark _))))))))), ?_⟩
      -- isinstance(due, (tuple, list))
      refine ⟨_, rfl, (by show 2 ≤ sizeLine; decide), fun p np => ?_⟩
      have s1 := same_new np (.tup [.ty "tuple", .ty "list"])
      have x1 := Dp.same s1 hx
      have y1 := Dp.same s1 hy
      have two : ([V.ty "tuple", V.ty "list"] : List V).length ≤ sizeLine := by show 2 ≤ sizeLine; decide
      refine ⟨_, p, _, _, _, _, rfl, upd_same, .cons (.ty _) (.cons (.ty _) .nil), Dp.ty y1, kaTL d, _, rfl, ?_⟩
      have flat : isTL d = false → (d = .none ∨ (∃ b, d = .bool b) ∨ (∃ i, d = .int i) ∨ ∃ z, d = .str z) := by
        intro h
        cases d with
        | none => exact .inl rfl
        | bool b => exact .inr (.inl ⟨b, rfl⟩)
        | int i => exact .inr (.inr (.inl ⟨i, rfl⟩))
        | str z => exact .inr (.inr (.inr ⟨z, rfl⟩))
        | list _ => cases h
        | tuple _ => cases h
        | dict _ => cases hy
      cases hd0 : isTL d with
      | true =>
        refine iteT ?_
        -- not isinstance(found, (tuple, list)) or isinstance(found, list) != isinstance(due, list)
        refine ⟨_, rfl, two, fun p2 np2 => ?_⟩
        have s2 := same_new np2 (.tup [.ty "tuple", .ty "list"])
        refine ⟨_, p2, _, _, _, _, rfl, upd_same, .cons (.ty _) (.cons (.ty _) .nil), Dp.ty (Dp.same s2 x1), kaTL d, _, rfl, ?_⟩
        have x2 := Dp.same s2 x1
        have y2 := Dp.same s2 y1
        have s3 := s1.trans s2
        generalize upd (upd H p (.tup [.ty "tuple", .ty "list"])) p2 (.tup [.ty "tuple", .ty "list"]) = H2 at *
        rw [hd0]
        refine iteF ?_
        refine ⟨_, rfl, _, _, _, _, _, rfl, .ty _, Dp.ty x2, kaL d, _, rfl, _, _, _, _, _, rfl, .ty _, Dp.ty y2, kaL d, rfl, _, rfl, ?_⟩
        refine iteNS rfl ?_
        obtain ⟨a, xs, ds, rfl, ha, da⟩ := Dp.seq x2 hd0
        obtain ⟨b, ys, es, rfl, hb, db⟩ := Dp.seq y2 hd0
        have ee : es = ds := by
          rcases ha with ⟨e1, _⟩ | ⟨e1, _⟩ <;> rcases hb with ⟨e2, _⟩ | ⟨e2, _⟩
          · exact PyData.list.inj (e2.symm.trans e1)
          · cases e2.symm.trans e1
          · cases e2.symm.trans e1
          · exact PyData.tuple.inj (e2.symm.trans e1)
        subst ee
        have qa : SqL K H2 a xs ∨ SqT K H2 a xs := ha.elim (fun z => .inl z.2) (fun z => .inr z.2)
        have qb : SqL K H2 b ys ∨ SqT K H2 b ys := hb.elim (fun z => .inl z.2) (fun z => .inr z.2)
        have lx : xs.length = es.length := DpAll.length da
        have ly : ys.length = es.length := DpAll.length db
        obtain ⟨n', rfl, hsz, hok⟩ : ∃ n', n = n' + 1 ∧ es.length ≤ 1000000 ∧ ∀ d ∈ es, OkD n' d := by
          cases n with
          | zero => rcases ha with ⟨rfl, _⟩ | ⟨rfl, _⟩ <;> exact absurd hd id
          | succ n' => rcases ha with ⟨rfl, _⟩ | ⟨rfl, _⟩ <;> exact ⟨n', rfl, hd.1, hd.2⟩
        have La : ∀ H3, Same H2 H3 → LenV K (.ref a) H3 es.length := fun H3 s => qa.elim (fun z => .inl ⟨_, s.seq z, lx.symm⟩) (fun z => .inr ⟨_, Same.seqT s z, lx.symm⟩)
        have Lb : ∀ H3, Same H2 H3 → LenV K (.ref b) H3 es.length := fun H3 s => qb.elim (fun z => .inl ⟨_, s.seq z, ly.symm⟩) (fun z => .inr ⟨_, Same.seqT s z, ly.symm⟩)
        -- len(found) != len(due)
        refine ⟨_, rfl, _, es.length, rfl, La _ (Same.refl _), _, rfl, _, es.length, rfl, Lb _ (Same.refl _), rfl, _, rfl, iteNS rfl ?_⟩
        -- the comprehension
        refine ⟨_, rfl, _, es.length, rfl, Lb _ (Same.refl _), (es.length : Int), rfl, by omega, by omega, fun D nD => ?_⟩
        refine lc_range (lo := 0) (n := es.length) (fun i H' => Same H2 H' ∧ H' D = some (.lst [])) ⟨same_new nD _, upd_same⟩ ?_ ?_
        · rintro i H3 hi ⟨s4, eD⟩
          have hdi : es[i]? = some es[i] := List.getElem?_eq_getElem hi
          obtain ⟨u, hu, du⟩ := DpAll.get da hdi
          obtain ⟨v, hv, dv⟩ := DpAll.get db hdi
          have ei : (0 : Int) + (i : Int) = ((i : Nat) : Int) := Int.zero_add _
          refine ⟨rfl, _, rfl, _, rfl, ?_⟩
          have g1 : rIx K (.ref a) (.int (0 + (i : Int))) H3 = fun Q => rIx K (.ref a) (.int (0 + (i : Int))) H3 Q := rfl
          have ra : ∀ Q : VK, Q u H3 → rIx K (.ref a) (.int (0 + (i : Int))) H3 Q := fun Q q => qa.elim (fun z => .inl ⟨a, xs, _, u, rfl, rfl, s4.seq z, at_of ei hu, q⟩) (fun z => .inr (.inl ⟨a, xs, _, u, rfl, rfl, Same.seqT s4 z, at_of ei hu, q⟩))
          have rb : ∀ Q : VK, Q v H3 → rIx K (.ref b) (.int (0 + (i : Int))) H3 Q := fun Q q => qb.elim (fun z => .inl ⟨b, ys, _, v, rfl, rfl, s4.seq z, at_of ei hv, q⟩) (fun z => .inr (.inl ⟨b, ys, _, v, rfl, rfl, Same.seqT s4 z, at_of ei hv, q⟩))
          refine ra _ ?_
          refine ⟨_, rfl, _, rfl, rb _ ?_⟩
          refine ⟨u, v, es[i], n', rfl, rfl, Dp.same s4 du, Dp.same s4 dv, hok _ (List.getElem_mem hi), fun H4 s5 => ?_⟩
          refine ⟨_, rfl, iteF ?_⟩
          exact ⟨s4.trans s5, s5 _ _ eD⟩
        · rintro H3 ⟨s4, eD⟩
          refine ⟨(by show 0 ≤ sizeLine; decide), fun l nl => ?_⟩
          have s5 := same_new nl (.lst [])
          refine ⟨.list [], .list [], .lst (.inl (.inl (s5 _ _ eD))) .nil, .lst (.inl (.inl upd_same)) .nil, by decide +kernel, by decide +kernel, ?_⟩
          have e : PyData.eqv (.list []) (.list []) = true := by decide +kernel
          rw [e]
          exact q _ (s3.trans (s4.trans s5))
      | false =>
        refine iteF ?_
        have cS : ∀ H3 (Q : VK), Same H H3 → Q (.bl true) H3 → (tOp rEq (tCB (rIsi K) (tCons (tVar 0) (tCons (tC (V.ty "str")) tNil))) (tCB (rIsi K) (tCons (tVar 1) (tCons (tC (V.ty "str")) tNil)))) [some x, some y, none] H3 Q := fun H3 Q s q => by
          refine ⟨_, rfl, _, _, _, _, _, rfl, .ty _, Dp.ty (Dp.same s hx), kS d, _, rfl, _, _, _, _, _, rfl, .ty _, Dp.ty (Dp.same s hy), kS d, rfl, ?_⟩
          rw [decide_eq_true rfl]
          exact q
        have cB : ∀ H3 (Q : VK), Same H H3 → Q (.bl true) H3 → (tOp rEq (tCB (rIsi K) (tCons (tVar 0) (tCons (tC (V.ty "bool")) tNil))) (tCB (rIsi K) (tCons (tVar 1) (tCons (tC (V.ty "bool")) tNil)))) [some x, some y, none] H3 Q := fun H3 Q s q => by
          refine ⟨_, rfl, _, _, _, _, _, rfl, .ty _, Dp.ty (Dp.same s hx), kB d, _, rfl, _, _, _, _, _, rfl, .ty _, Dp.ty (Dp.same s hy), kB d, rfl, ?_⟩
          rw [decide_eq_true rfl]
          exact q
        have exy : x = y ∧ scal x y = true := by
          rcases flat hd0 with rfl | ⟨b, rfl⟩ | ⟨i, rfl⟩ | ⟨z, rfl⟩ <;> cases hx <;> cases hy <;> exact ⟨rfl, rfl⟩
        obtain ⟨rfl, hsc⟩ := exy
        -- due is None or isinstance(due, str)
        refine ⟨_, rfl, _, rfl, ?_⟩
        have fin : ∀ b : Bool, (b = true → isSD d = true ∨ x = .non) → (b = false → isID d = true) → (fun b H1 => if b = true then tRet (tAndV (tOp rEq (tVar 0) (tVar 1)) (tOp rEq (tCB (rIsi K) (tCons (tVar 0) (tCons (tC (V.ty "str")) tNil))) (tCB (rIsi K) (tCons (tVar 1) (tCons (tC (V.ty "str")) tNil)))))
            { nx := fun _ _ => False, rt := Q } [some x, some x, none] H1 else tRet (tAndV (tCB (rIsi K) (tCons (tVar 0) (tCons (tC (V.ty "int")) tNil))) (tAndV (tOp rEq (tCB (rIsi K) (tCons (tVar 0) (tCons (tC (V.ty "bool")) tNil))) (tCB (rIsi K) (tCons (tVar 1) (tCons (tC (V.ty "bool")) tNil)))) (tOp rEq (tVar 0) (tVar 1)))) { nx := fun _ _ => False, rt := Q } [some x, some x, none] H1) b (upd H p (.tup [.ty "tuple", .ty "list"])) := by
          intro b h1 h2
          cases b with
          | true =>
            refine iteT ?_
            refine ⟨_, rfl, _, rfl, hsc, _, rfl, iteDT rfl ?_⟩
            exact cS _ _ s1 (q _ s1)
          | false =>
            refine iteF ?_
            refine ⟨_, rfl, _, _, _, _, _, rfl, .ty _, Dp.ty x1, kI d, _, rfl, ?_⟩
            rw [h2 rfl]
            refine iteT (cB _ _ s1 ⟨_, rfl, iteT ⟨_, rfl, _, rfl, hsc, ?_⟩⟩)
            rw [decide_eq_true rfl]
            exact q _ s1
        by_cases c : x = .non
        · exact iteDT c (fin true (fun _ => .inr c) (fun z => nomatch z))
        · refine iteDF c ?_
          refine ⟨_, rfl, _, _, _, _, _, rfl, .ty _, Dp.ty y1, kS d, _, rfl, fin _ (fun z => .inl z) (fun z => ?_)⟩
          rcases flat hd0 with rfl | ⟨b, rfl⟩ | ⟨i, rfl⟩ | ⟨w, rfl⟩
          · cases hx
            exact absurd rfl c
          · rfl
          · rfl
          · cases z
  exact ⟨f, fd, key 5, gF, F.kp, bF⟩
end

abbrev s_power_of_two : Stmt := topS 11
theorem sc_power_of_two : FnScope ["times"] ["times"] (defScope s_power_of_two) := ⟨rfl, rfl, rfl, by decide +kernel, rfl, by decide +kernel, by decide +kernel⟩
def sp_power_of_two (K : PySem.W.Frag) : Sp := fun vs H Q _ => ∃ t : Nat, vs = [.int (t : Nat)] ∧ t ≤ 1000 ∧ Q (.int ((2 ^ t : Nat) : Int)) H
section
variable {P : Program} {w : World} {K : PySem.W.Frag} {mg : Str → Option Value} {base : Heap}
theorem ok_power_of_two (A : At K mg "power_of_two" s_power_of_two ["times"]) (B : Bn mg) : CalE P w K mg base "power_of_two" ["times"] 1 (sp_power_of_two K) := by
  obtain ⟨f, fd, F, gF, bF⟩ := A
  refine ⟨f, fd, F.ok sc_power_of_two (fun vs H Q E h => ?_) (fun cdv A outer s H vs Q E hr h => ?_), gF, F.kp, bF⟩
  · repeat (first | (obtain ⟨rfl, _⟩ := h; rfl) | (obtain ⟨_, h⟩ := h))
  · obtain ⟨t, rfl, ht, k⟩ := h
    refine ⟨_, (pss_one (ps_ret (pe_op op_shl pe_int (pv 0)))), ?_⟩
    refine ⟨_, rfl, _, _, rfl, rfl, ⟨by omega, by omega, by decide⟩, ?_⟩
    have e : (1 : Int) * 2 ^ ((t : Int)).toNat = ((2 ^ t : Nat) : Int) := by
      rw [Int.one_mul, Int.toNat_natCast, Int.natCast_pow]
      rfl
    show Q (.int ((1 : Int) * 2 ^ ((t : Int)).toNat)) H
    rw [e]
    exact k
end

abbrev s_room_left : Stmt := topS 25
theorem sc_room_left : FnScope ["lengths", "length"] ["lengths"] (defScope s_room_left) := ⟨rfl, rfl, rfl, by decide +kernel, rfl, by decide +kernel, by decide +kernel⟩
def sp_room_left (K : PySem.W.Frag) : Sp := fun vs H Q _ => ∃ (a : Addr) (ls : List Nat), vs = [.ref a] ∧ SqT K H a (ls.map fun n => V.int (n : Nat)) ∧ IsLens ls ∧ ∀ H', Same H H' → Q (.int (((2 ^ 60 : Nat) : Int) - ((roomN ls : Nat) : Int))) H'
section
variable {P : Program} {w : World} {K : PySem.W.Frag} {mg : Str → Option Value} {base : Heap}
theorem ok_room_left (A : At K mg "room_left" s_room_left ["lengths"]) (B : Bn mg) (H_power_of_two : CalE P w K mg base "power_of_two" ["times"] 1 (sp_power_of_two K)) (K_MOST_LENGTH : ∃ v, mg "MOST_LENGTH" = some v ∧ RelV (.int 60) v) : CalE P w K mg base "room_left" ["lengths"] 2 (sp_room_left K) := by
  obtain ⟨f, fd, F, gF, bF⟩ := A
  obtain ⟨f_power_of_two, fd_power_of_two, G_power_of_two⟩ := H_power_of_two
  obtain ⟨v_MOST_LENGTH, C_MOST_LENGTH⟩ := K_MOST_LENGTH
  refine ⟨f, fd, F.ok sc_room_left (fun vs H Q E h => ?_) (fun cdv A outer s H vs Q E hr h => ?_), gF, F.kp, bF⟩
  · repeat (first | (obtain ⟨rfl, _⟩ := h; rfl) | (obtain ⟨_, h⟩ := h))
  · obtain ⟨a, ns, rfl, hS, ⟨hl1, hl, hn⟩, k⟩ := h
    obtain ⟨_, rfl⟩ := C_MOST_LENGTH.2
    have hsz := sizeLine_eq
    have lm : (ns.map fun n => V.int (n : Nat)).length = ns.length := List.length_map _
    refine ⟨_, (pss_one (ps_ret (pe_op op_sub (pe_call G_power_of_two.ok (hr.mono (by first | decide | exact Nat.le_refl _)) (by rfl) G_power_of_two.g G_power_of_two.kp G_power_of_two.b .nil pass0 (pa_cons (pe_glob (by rfl) C_MOST_LENGTH.1 C_MOST_LENGTH.2) pa_nil)) (pe_callB (cr_sum_ K rfl) (by rfl) B.sum_ (by decide +kernel) (pa_cons (pe_lc (own := [("length", 1)]) (g := gName 1) (tt := tYes) rfl sc_room_left.nd (pi_tup (pv 0)) (blkOk_by (own := [("length", 1)]) (N := ["lengths", "length"]) (sc := defScope s_room_left) (by decide +kernel)) (fun _ _ _ _ _ => (pg_name (i := 1) sc_room_left.nd rfl (.inl rfl))) (fun _ _ _ _ _ => pts_nil) (fun _ _ _ _ _ => (pe_call G_power_of_two.ok (hr.mono (by first | decide | exact Nat.le_refl _)) (by rfl) G_power_of_two.g G_power_of_two.kp G_power_of_two.b .nil pass0 (pa_cons (pe_op op_sub (pe_glob (by rfl) C_MOST_LENGTH.1 C_MOST_LENGTH.2) (pv 1)) pa_nil)))) pa_nil))))), ?_⟩
    refine ⟨60, rfl, by decide, ?_⟩
    refine ⟨_, rfl, a, rfl, ⟨_, hS⟩, fun L nL => ?_⟩
    refine lc_tup (K := K) (a := a) (xs := ns.map fun n => V.int (n : Nat)) (fun j H4 => Same H H4 ∧ H4 L = some (.lst (((ns.take j).map fun n => ((2 ^ (60 - n) : Nat) : Int)).map V.int))) ⟨same_new nL _, by rw [upd_same]; rfl⟩ (fun j H4 _ h4 => Same.seqT h4.1 hS) ?_ ?_
    · rintro j x H4 hx ⟨s4, eL⟩
      obtain ⟨z, hz, rfl⟩ := geti_nat hx
      have hzb := hn z (List.mem_of_getElem? hz)
      refine ⟨rfl, _, rfl, _, _, rfl, rfl, 60 - z, ?_, by omega, _, eL, ?_, ?_, ?_⟩
      · show [V.int (60 - (z : Int))] = _
        rw [show (60 - (z : Int)) = ((60 - z : Nat) : Int) by omega]
      · rw [List.length_map, List.length_map, List.length_take]
        omega
      · intro b o ho
        rw [upd_ne (ne_of_none ho nL)]
        exact s4 b o ho
      · rw [upd_same, take_more hz, List.map_append, List.map_append]
        rfl
    rintro H4 ⟨s4, eL⟩
    rw [lm, List.take_length] at eL
    refine ⟨L, _, rfl, .inl (.inl eL), _, _, rfl, rfl, ?_⟩
    show Q (.int (((2 ^ 60 : Nat) : Int) - (ns.map fun n => ((2 ^ (60 - n) : Nat) : Int)).sum)) H4
    rw [sum_natInt]
    exact k H4 s4
end

abbrev s_is_whole : Stmt := topS 27
theorem sc_is_whole : FnScope ["lengths"] ["lengths"] (defScope s_is_whole) := ⟨rfl, rfl, rfl, by decide +kernel, rfl, by decide +kernel, by decide +kernel⟩
def sp_is_whole (K : PySem.W.Frag) : Sp := fun vs H Q _ => ∃ (a : Addr) (ls : List Nat), vs = [.ref a] ∧ SqT K H a (ls.map fun n => V.int (n : Nat)) ∧ IsLens ls ∧
  roomN ls ≤ 2 ^ 60 ∧ ∀ H', Same H H' → Q (.bl (decide (roomN ls = 2 ^ 60))) H'
section
variable {P : Program} {w : World} {K : PySem.W.Frag} {mg : Str → Option Value} {base : Heap}
theorem ok_is_whole (A : At K mg "is_whole" s_is_whole ["lengths"]) (B : Bn mg) (H_check_lengths : CalE P w K mg base "check_lengths" ["thing"] 2 (sp_check_lengths K)) (H_room_left : CalE P w K mg base "room_left" ["lengths"] 2 (sp_room_left K)) : CalE P w K mg base "is_whole" ["lengths"] 3 (sp_is_whole K) := by
  obtain ⟨f, fd, F, gF, bF⟩ := A
  obtain ⟨f_check_lengths, fd_check_lengths, G_check_lengths⟩ := H_check_lengths
  obtain ⟨f_room_left, fd_room_left, G_room_left⟩ := H_room_left
  refine ⟨f, fd, F.ok sc_is_whole (fun vs H Q E h => ?_) (fun cdv A outer s H vs Q E hr h => ?_), gF, F.kp, bF⟩
  · repeat (first | (obtain ⟨rfl, _⟩ := h; rfl) | (obtain ⟨_, h⟩ := h))
  · obtain ⟨a, ls, rfl, hS, hL, hroom, k⟩ := h
    refine ⟨_, (pss_cons (ps_expr (pe_call G_check_lengths.ok (hr.mono (by first | decide | exact Nat.le_refl _)) (by rfl) G_check_lengths.g G_check_lengths.kp G_check_lengths.b .nil pass0 (pa_cons (pv 0) pa_nil)))
      (pss_cons (ps_if (pt_cmpR op_lt (pe_call G_room_left.ok (hr.mono (by first | decide | exact Nat.le_refl _)) (by rfl) G_room_left.g G_room_left.kp G_room_left.b .nil pass0 (pa_cons (pv 0) pa_nil)) pe_int (nomark _))
      (pss_one ps_never)
      pss_nil)
      (pss_one (ps_ret (pe_cmpR op_eq (pe_call G_room_left.ok (hr.mono (by first | decide | exact Nat.le_refl _)) (by rfl) G_room_left.g G_room_left.kp G_room_left.b .nil pass0 (pa_cons (pv 0) pa_nil)) pe_int (nomark _)))))), ?_⟩
    refine ⟨_, rfl, a, ls, rfl, hS, hL, fun H1 s1 => ?_⟩
    refine ⟨_, rfl, a, ls, rfl, Same.seqT s1 hS, hL, fun H2 s2 => ?_⟩
    refine ⟨_, _, rfl, rfl, _, rfl, ?_⟩
    · refine iteDF (by omega) ?_
      refine ⟨_, rfl, a, ls, rfl, Same.seqT (s1.trans s2) hS, hL, fun H3 s3 => ?_⟩
      refine ⟨rfl, ?_⟩
      have e : decide (V.int (((2 ^ 60 : Nat) : Int) - ((roomN ls : Nat) : Int)) = V.int 0) = decide (roomN ls = 2 ^ 60) := by
        refine decide_eq_decide.mpr ⟨fun z => ?_, fun z => ?_⟩
        · have := V.int.inj z
          omega
        · rw [z, Int.sub_self]
      have := k H3 (s1.trans (s2.trans s3))
      rw [← e] at this
      exact this
end

abbrev s_figures : Stmt := topS 12
theorem sc_figures : FnScope ["number", "many", "found", "place"] ["number", "many"] (defScope s_figures) := ⟨rfl, rfl, rfl, by decide +kernel, rfl, by decide +kernel, by decide +kernel⟩
def sp_figures (K : PySem.W.Frag) : Sp := fun vs H Q _ => ∃ n c : Nat, vs = [.int (n : Nat), .int (c : Nat)] ∧ c ≤ 1000 ∧ Q (.str (tx (fig n c))) H
section
variable {P : Program} {w : World} {K : PySem.W.Frag} {mg : Str → Option Value} {base : Heap}
theorem ok_figures (A : At K mg "figures" s_figures ["number", "many"]) (B : Bn mg) : CalE P w K mg base "figures" ["number", "many"] 1 (sp_figures K) := by
  obtain ⟨f, fd, F, gF, bF⟩ := A
  refine ⟨f, fd, F.ok sc_figures (fun vs H Q E h => ?_) (fun cdv A outer s H vs Q E hr h => ?_), gF, F.kp, bF⟩
  · repeat (first | (obtain ⟨rfl, _⟩ := h; rfl) | (obtain ⟨_, h⟩ := h))
  · obtain ⟨n, c, rfl, hc, k⟩ := h
    have hsz := sizeLine_eq
    refine ⟨_, (pss_cons (ps_set (i := 2) sc_figures.nd rfl (.inl rfl) pe_str)
      (pss_cons (ps_for PassesOwn.never rfl (pi_range3 (by rfl) B.range_ (pa_cons (pe_op op_sub (pv 1) pe_int) (pa_cons (pe_un un_neg pe_int) (pa_cons (pe_un un_neg pe_int) pa_nil)))) (pg_name (i := 3) sc_figures.nd rfl (.inl rfl))
      (pss_one (ps_aug (i := 2) sc_figures.nd rfl (.inl rfl) (pe_ifExp (pt_cmpR op_eq (pe_op op_mod (pe_op op_shr (pv 0) (pv 3)) pe_int) pe_int (nomark _)) pe_str pe_str) ip_add_str)))
      (pss_one (ps_ret (pv 2))))), ?_⟩
    refine ⟨_, rfl, _, _, rfl, rfl, _, rfl, _, rfl, (c : Int) - 1, -1, -1, c, rfl, ?_, ?_⟩
    · have := RgC.neg (i := (c : Int) - 1) (j := -1) (by omega) (by omega) (by omega) (by omega)
      rw [show ((c : Int) - 1 - -1).toNat = c by omega] at this
      exact this
    refine for_rangeC (lo := (c : Int) - 1) (c := -1) (n := c) (fun i σ H2 => ∃ v, σ = [some (.int (n : Nat)), some (.int (c : Nat)), some (.str (tx ((fig n c).take i))), v] ∧ H2 = H) ⟨_, by rw [tx_nil]; rfl, rfl⟩ ?_ ?_
    · rintro i σ H2 hi ⟨v, rfl, rfl⟩
      have ft := fig_take n c i hi
      have ei : (c : Int) - 1 + (i : Int) * -1 = ((c - 1 - i : Nat) : Int) := by omega
      have ll : ((fig n c).take i).length ≤ c := by rw [List.length_take, fig_len]; omega
      refine ⟨_, rfl, _, rfl, _, rfl, _, _, rfl, rfl, by omega, _, _, rfl, rfl, (by decide : (0 : Int) < 2), rfl, _, rfl, ?_⟩
      have bi : ((n : Int) / 2 ^ ((c : Int) - 1 + (i : Int) * -1).toNat % 2 = 1) ↔ (n / 2 ^ (c - 1 - i) % 2 == 1) = true := by
        rw [ei, Int.toNat_natCast]
        have := bit_int n (c - 1 - i)
        rw [Int.natCast_pow] at this
        exact this
      have go : ∀ b : Bool, b = (n / 2 ^ (c - 1 - i) % 2 == 1) → tx ((fig n c).take i) ++ tx [b] = tx ((fig n c).take (i + 1)) := by
        rintro b rfl
        rw [tx_app, ft]
      refine ite2 (fun z => ?_) (fun z => ?_)
      · have z' := bi.mp (V.int.inj (of_decide_eq_true z))
        refine ⟨_, _, rfl, rfl, by rw [tx_one, tx_len, tx_len]; show _ + 1 ≤ sizeLine; omega, some (.int ((c : Int) - 1 + (i : Int) * -1)), ?_, rfl⟩
        show [some (V.int (n : Int)), some (V.int (c : Int)), some (V.str (tx ((fig n c).take i) ++ ("1" : Str))), some (.int ((c : Int) - 1 + (i : Int) * -1))] = _
        rw [tx_one, go true z'.symm]
      · have z' : (n / 2 ^ (c - 1 - i) % 2 == 1) = false := Bool.eq_false_iff.mpr fun y => z (decide_eq_true (congrArg V.int (bi.mpr y)))
        refine ⟨_, _, rfl, rfl, by rw [tx_zero, tx_len, tx_len]; show _ + 1 ≤ sizeLine; omega, some (.int ((c : Int) - 1 + (i : Int) * -1)), ?_, rfl⟩
        show [some (V.int (n : Int)), some (V.int (c : Int)), some (V.str (tx ((fig n c).take i) ++ ("0" : Str))), some (.int ((c : Int) - 1 + (i : Int) * -1))] = _
        rw [tx_zero, go false z'.symm]
    · rintro σ H2 ⟨v, rfl, rfl⟩
      refine ⟨_, rfl, ?_⟩
      rw [List.take_of_length_le (by rw [fig_len]; exact Nat.le_refl _)]
      exact k
end

abbrev s_book : Stmt := topS 26
theorem sc_book : FnScope ["lengths", "order", "found", "next_word", "length", "number"] ["lengths"] (defScope s_book) := ⟨rfl, rfl, rfl, by decide +kernel, rfl, by decide +kernel, by decide +kernel⟩
def sp_book (K : PySem.W.Frag) : Sp := fun vs H Q E => ∃ (a : Addr) (ls : List Nat), vs = [.ref a] ∧ SqT K H a (ls.map fun n => V.int (n : Nat)) ∧ IsLens ls ∧
  (roomN ls ≤ 2 ^ 60 → ∀ (T : Addr) (H' : Hp) (o : List (Nat × Nat)), IsOrd ls o → Same H H' → H' T = some (.tup ((wordsO o 0 (List.replicate ls.length [])).map fun w => V.str (tx w))) → Q (.ref T) H') ∧
  (2 ^ 60 < roomN ls → ∀ (C : Addr) (H' : Hp), ClsAt K "NoBook" C → Same H H' → E (.ref C) none H')
section
variable {P : Program} {w : World} {K : PySem.W.Frag} {mg : Str → Option Value} {base : Heap}
theorem ok_book (A : At K mg "book" s_book ["lengths"]) (B : Bn mg) (H_check_lengths : CalE P w K mg base "check_lengths" ["thing"] 2 (sp_check_lengths K)) (H_room_left : CalE P w K mg base "room_left" ["lengths"] 2 (sp_room_left K)) (H_figures : CalE P w K mg base "figures" ["number", "many"] 1 (sp_figures K)) (H_power_of_two : CalE P w K mg base "power_of_two" ["times"] 1 (sp_power_of_two K)) (K_MOST_LENGTH : ∃ v, mg "MOST_LENGTH" = some v ∧ RelV (.int 60) v) (HT_NoBook : ∃ C, ExT K mg "NoBook" C) : CalX P w K mg base "book" ["lengths"] 3 (sp_book K) := by
  obtain ⟨f, fd, F, gF, bF⟩ := A
  obtain ⟨f_check_lengths, fd_check_lengths, G_check_lengths⟩ := H_check_lengths
  obtain ⟨f_room_left, fd_room_left, G_room_left⟩ := H_room_left
  obtain ⟨f_figures, fd_figures, G_figures⟩ := H_figures
  obtain ⟨f_power_of_two, fd_power_of_two, G_power_of_two⟩ := H_power_of_two
  obtain ⟨v_MOST_LENGTH, C_MOST_LENGTH⟩ := K_MOST_LENGTH
  obtain ⟨A_NoBook, T_NoBook⟩ := HT_NoBook
  refine ⟨f, fd, F.okX sc_book (fun vs H Q E h => ?_) (fun cdv A outer s H vs Q E hr h => ?_), gF, F.kp, bF⟩
  · repeat (first | (obtain ⟨rfl, _⟩ := h; rfl) | (obtain ⟨_, h⟩ := h))
  · obtain ⟨a, ls, rfl, hS, hL, k, kR⟩ := h
    obtain ⟨_, rfl⟩ := C_MOST_LENGTH.2
    have hsz := sizeLine_eq
    have lm : (ls.map fun n => V.int (n : Nat)).length = ls.length := List.length_map _
    refine ⟨_, (pss_cons (ps_expr (pe_call G_check_lengths.ok (hr.mono (by first | decide | exact Nat.le_refl _)) (by rfl) G_check_lengths.g G_check_lengths.kp G_check_lengths.b .nil pass0 (pa_cons (pv 0) pa_nil)))
      (pss_cons (ps_if (pt_cmpR op_lt (pe_call G_room_left.ok (hr.mono (by first | decide | exact Nat.le_refl _)) (by rfl) G_room_left.g G_room_left.kp G_room_left.b .nil pass0 (pa_cons (pv 0) pa_nil)) pe_int (nomark _))
      (pss_one (ps_raise0 (takes_of rfl rfl rfl rfl) T_NoBook (by rfl)))
      pss_nil)
      (pss_cons (ps_set (i := 1) sc_book.nd rfl (.inl rfl) (pe_callB cr_sortedPO (by rfl) B.sorted_ (by decide +kernel) (pa_cons (pe_lc (own := [("number", 5), ("length", 4)]) (g := (gTup K 2 (gCons (gName 5) (gCons (gName 4) gNil)))) (tt := tYes) rfl sc_book.nd (pi_enumT (by rfl) B.enumerate_ (pa_cons (pv 0) pa_nil)) (blkOk_by (own := [("number", 5), ("length", 4)]) (N := ["lengths", "order", "found", "next_word", "length", "number"]) (sc := defScope s_book) (by decide +kernel)) (fun _ _ _ _ _ => (pg_tup (by rfl) (pgs_cons (pg_name (i := 5) sc_book.nd rfl (.inl rfl)) (pgs_cons (pg_name (i := 4) sc_book.nd rfl (.inl rfl)) pgs_nil)))) (fun _ _ _ _ _ => pts_nil) (fun _ _ _ _ _ => (pe_tup (pa_cons (pv 4) (pa_cons (pv 5) pa_nil))))) pa_nil)))
      (pss_cons (ps_par (i := 2) (j := 3) (by rfl) sc_book.nd rfl rfl (by decide) rfl rfl (pa_cons (pe_op op_rep (pe_lst (pa_cons pe_str pa_nil)) (pe_callB (call_len_seq_ K) (by rfl) B.len_ (by decide +kernel) (pa_cons (pv 0) pa_nil))) (pa_cons pe_int pa_nil)) (by rfl))
      (pss_cons (ps_for (passes_of rfl) rfl (pi_list (pv 1)) (pg_tup (by rfl) (pgs_cons (pg_name (i := 4) sc_book.nd rfl (.inl rfl)) (pgs_cons (pg_name (i := 5) sc_book.nd rfl (.inl rfl)) pgs_nil)))
      (pss_cons (ps_asg (pe_call G_figures.ok (hr.mono (by first | decide | exact Nat.le_refl _)) (by rfl) G_figures.g G_figures.kp G_figures.b .nil pass0 (pa_cons (pe_op op_shr (pv 3) (pe_op op_sub (pe_glob (by rfl) C_MOST_LENGTH.1 C_MOST_LENGTH.2) (pv 4))) (pa_cons (pv 4) pa_nil))) (pg_sub (pv 2) (pv 5) set_list))
      (pss_one (ps_aug (i := 3) sc_book.nd rfl (.inl rfl) (pe_call G_power_of_two.ok (hr.mono (by first | decide | exact Nat.le_refl _)) (by rfl) G_power_of_two.g G_power_of_two.kp G_power_of_two.b .nil pass0 (pa_cons (pe_op op_sub (pe_glob (by rfl) C_MOST_LENGTH.1 C_MOST_LENGTH.2) (pv 4)) pa_nil)) ip_add))))
      (pss_one (ps_ret (pe_callTy (call_tuple_of_ K) (by rfl) B.tuple_ (by decide +kernel) (pa_cons (pv 2) pa_nil))))))))), ?_⟩
    refine ⟨_, rfl, a, ls, rfl, hS, hL, fun H1 s1 => ?_⟩
    refine ⟨_, rfl, a, ls, rfl, Same.seqT s1 hS, hL, fun H2 s2 => ?_⟩
    refine ⟨_, _, rfl, rfl, _, rfl, ?_⟩
    by_cases c : 2 ^ 60 < roomN ls
    · exact iteDT (by omega) (kR c _ _ T_NoBook.n (s1.trans s2))
    refine iteDF (by omega) ?_
    have k := k (by omega)
    have S2 := s1.trans s2
    have hS2 := Same.seqT S2 hS
    have k : ∀ (T : Addr) (H' : Hp) (o : List (Nat × Nat)), IsOrd ls o → Same H2 H' → H' T = some (.tup ((wordsO o 0 (List.replicate ls.length [])).map fun w => V.str (tx w))) → Q (.ref T) H' := fun T H' o ho s => k T H' o ho (S2.trans s)
    refine ⟨_, rfl, a, _, rfl, hS2, fun L nL => ?_⟩
    refine lc_enumT (K := K) (a := a) (xs := ls.map fun n => V.int (n : Nat)) (fun j H4 => ∃ ts : List Addr, ts.length = j ∧ Same H2 H4 ∧ H4 L = some (.lst (ts.map V.ref)) ∧ ∀ (i : Nat) (t : Addr), ts[i]? = some t → ∃ l : Nat, ls[i]? = some l ∧ H4 t = some (.tup [.int (l : Nat), .int (i : Nat)])) ⟨[], rfl, same_new nL _, upd_same, fun i t h => by cases h⟩ (fun j H4 _ ⟨_, _, s, _⟩ => Same.seqT s hS2) ?_ ?_
    · rintro j x H4 T hx ⟨ts, hts, s4, eL, he⟩ nT
      obtain ⟨z, hz, rfl⟩ := geti_nat hx
      have hj : j < ls.length := (List.getElem?_eq_some_iff.mp hz).1
      have h40 := hL.l40
      refine ⟨T, _, rfl, .inl (.inl upd_same), rfl, _, _, rfl, _, _, rfl, rfl, rfl, ?_⟩
      refine ⟨_, rfl, _, rfl, (by show 2 ≤ sizeLine; omega), fun U nU => ?_⟩
      have s5 := (same_new nT (.tup [.int (j : Nat), .int (z : Nat)])).trans (same_new nU (.tup [.int (z : Nat), .int (j : Nat)]))
      have eU : (upd (upd H4 T (.tup [.int (j : Nat), .int (z : Nat)])) U (.tup [.int (z : Nat), .int (j : Nat)])) U = some (.tup [.int (z : Nat), .int (j : Nat)]) := upd_same
      generalize upd (upd H4 T (.tup [.int (j : Nat), .int (z : Nat)])) U (.tup [.int (z : Nat), .int (j : Nat)]) = H5 at *
      have eL5 := s5 _ _ eL
      refine ⟨_, eL5, by rw [List.length_map]; omega, ts ++ [U], by rw [List.length_append, hts]; rfl, ?_, ?_, ?_⟩
      · intro b o ho
        rw [upd_ne (ne_of_none ho nL)]
        exact s5 _ _ (s4 _ _ ho)
      · rw [upd_same, List.map_append]
        rfl
      · intro i t ht
        have keep : ∀ {l : Nat}, H5 t = some (.tup [.int (l : Nat), .int (i : Nat)]) → (upd H5 L (.lst (ts.map V.ref ++ [V.ref U]))) t = some (.tup [.int (l : Nat), .int (i : Nat)]) := fun h => by
          rw [upd_ne (fun y => by rw [y, eL5] at h; cases h)]
          exact h
        by_cases hi : i < ts.length
        · rw [List.getElem?_append_left hi] at ht
          obtain ⟨l, h1, h2⟩ := he i t ht
          exact ⟨l, h1, keep (s5 _ _ h2)⟩
        · have hi2 := (List.getElem?_eq_some_iff.mp ht).1
          rw [List.length_append, List.length_singleton] at hi2
          have : i = ts.length := by omega
          subst this
          rw [List.getElem?_append_right (Nat.le_refl _), Nat.sub_self] at ht
          cases Option.some.inj ht
          rw [hts] at keep ⊢
          exact ⟨z, hz, keep eU⟩
    rintro H4 ⟨ts, hts, s4, eL, he⟩
    rw [lm] at hts
    refine ⟨L, _, kOf H4, rfl, .inl (.inl eL), ?_, fun ys p hsd hst np => ?_⟩
    · intro x hx
      obtain ⟨t, ht, rfl⟩ := List.mem_map.mp hx
      obtain ⟨i, hi⟩ := List.getElem?_of_mem ht
      obtain ⟨l, h1, h2⟩ := he i t hi
      refine ⟨t, rfl, ?_⟩
      rw [kOf_at h2]
      exact h2
    have hord : IsOrd ls (ys.map (pairOf H4)) := by
      refine ord_of (xs := ts.map V.ref) (PrO_map (by rw [List.length_map, List.length_zipIdx, hts]) fun i p hp => ?_) ?_ hsd hst
      · rw [List.getElem?_zipIdx] at hp
        cases e : ls[i]? with
        | none => rw [e] at hp; cases hp
        | some l =>
          rw [e] at hp
          cases Option.some.inj hp
          have hi := (List.getElem?_eq_some_iff.mp e).1
          have ht : ts[i]? = some ts[i] := List.getElem?_eq_getElem (by omega)
          obtain ⟨l', h1, h2⟩ := he i _ ht
          rw [e] at h1
          cases Option.some.inj h1
          refine ⟨ts[i], by rw [List.getElem?_map, ht]; rfl, ?_⟩
          rw [Nat.zero_add]
          exact h2
      · intro x hx
        obtain ⟨t, ht, rfl⟩ := List.mem_map.mp hx
        obtain ⟨i, hi⟩ := List.getElem?_of_mem ht
        obtain ⟨l, h1, h2⟩ := he i t hi
        exact ⟨t, l, i, rfl, h2⟩
    have yl : ys.length = ls.length := by rw [hst.len, List.length_map, hts]
    have s5 := s4.trans (same_new np (.lst ys))
    have ep : (upd H4 p (.lst ys)) p = some (.lst ys) := upd_same
    have hys : ∀ x ∈ ys, ∃ (t : Addr) (l n : Nat), x = V.ref t ∧ (upd H4 p (.lst ys)) t = some (.tup [.int (l : Nat), .int (n : Nat)]) ∧ pairOf H4 x = (l, n) ∧ l ≤ 60 ∧ n < ls.length := by
      intro x hx
      obtain ⟨t, ht, rfl⟩ := List.mem_map.mp (hst.perm.mem_iff.mp hx)
      obtain ⟨i, hi⟩ := List.getElem?_of_mem ht
      obtain ⟨l, h1, h2⟩ := he i t hi
      exact ⟨t, l, i, rfl, same_new np _ _ _ h2, pairOf_at h2, hL.l60 l (List.mem_of_getElem? h1), (List.getElem?_eq_some_iff.mp h1).1⟩
    generalize pairOf H4 = pf at *
    generalize upd H4 p (.lst ys) = H5 at *
    clear he eL hsd hst
    refine ⟨(by show 1 ≤ sizeLine; omega), fun E1 nE1 => ?_⟩
    have s6 := same_new nE1 (.lst [.str ("" : Str)])
    refine ⟨_, rfl, a, _, rfl, .inr (Same.seqT (s5.trans s6) hS2), ?_⟩
    rw [lm]
    have h40 := hL.l40
    refine ⟨E1, _, _, rfl, rfl, upd_same, by omega, by omega, (by show 1 * _ ≤ sizeLine; omega), fun F nF => ?_⟩
    have s7 := s6.trans (same_new nF (.lst ((List.replicate ls.length [V.str ("" : Str)]).flatten)))
    have eF : (upd (upd H5 E1 (.lst [.str ("" : Str)])) F (.lst ((List.replicate ls.length [V.str ("" : Str)]).flatten))) F = some (.lst ((List.replicate ls.length ([] : List Bool)).map fun w => V.str (tx w))) := by rw [upd_same, rep_empty]
    have npF : p ≠ F := fun z => by rw [← z, s6 _ _ ep] at nF; cases nF
    have ep := s7 _ _ ep
    have hys : ∀ x ∈ ys, ∃ (t : Addr) (l n : Nat), x = V.ref t ∧ (upd (upd H5 E1 (.lst [.str ("" : Str)])) F (.lst ((List.replicate ls.length [V.str ("" : Str)]).flatten))) t = some (.tup [.int (l : Nat), .int (n : Nat)]) ∧ pf x = (l, n) ∧ l ≤ 60 ∧ n < ls.length := fun x hx => by
      obtain ⟨t, l, n, h1, h2, h3⟩ := hys x hx
      exact ⟨t, l, n, h1, s7 _ _ h2, h3⟩
    have S7 := s5.trans s7
    have nF2 : H2 F = none := (s5.trans s6).free nF
    rw [Int.toNat_natCast]
    generalize upd (upd H5 E1 (.lst [.str ("" : Str)])) F (.lst ((List.replicate ls.length [V.str ("" : Str)]).flatten)) = H6 at *
    refine ⟨_, _, rfl, ?_⟩
    refine ⟨_, rfl, p, rfl, ⟨_, .inl (.inl ep)⟩, for_list (K := K) (a := p) (xs := ys) (fun i σ H7 => ∃ (c : Nat) (f : List (List Bool)) (v4 v5 : Option V), σ = [some (.ref a), some (.ref p), some (.ref F), some (.int (c : Nat)), v4, v5] ∧ f.length = ls.length ∧ H7 F = some (.lst (f.map fun w => V.str (tx w))) ∧ (∀ b o, b ≠ F → H6 b = some o → H7 b = some o) ∧ wordsO (ys.map pf) 0 (List.replicate ls.length []) = wordsO ((ys.map pf).drop i) c f) ⟨0, List.replicate ls.length [], _, _, rfl, List.length_replicate, eF, fun b o _ h => h, rfl⟩ (fun i σ H7 _ ⟨_, _, _, _, _, _, _, s, _⟩ => .inl (.inl (s _ _ npF ep))) ?_ ?_⟩
    · rintro i x σ H7 hx ⟨c, f, v4, v5, rfl, hf, eF7, keep, hw⟩
      obtain ⟨t, l, n, rfl, et, epf, l60, hn⟩ := hys x (List.mem_of_getElem? hx)
      have etF : t ≠ F := fun z => by rw [z, eF] at et; cases et
      have et7 := keep _ _ etF et
      have hi := (List.getElem?_eq_some_iff.mp hx).1
      have hd : (ys.map pf).drop i = (l, n) :: (ys.map pf).drop (i + 1) := by
        rw [List.drop_eq_getElem_cons (by rw [List.length_map]; exact hi), List.getElem_map, (List.getElem?_eq_some_iff.mp hx).2, epf]
      rw [hd] at hw
      have el : (60 : Int) - (l : Int) = ((60 - l : Nat) : Int) := by omega
      refine ⟨t, _, rfl, .inl (.inl et7), rfl, _, _, rfl, _, _, rfl, rfl, ?_⟩
      refine ⟨_, rfl, _, rfl, _, _, rfl, rfl, _, _, rfl, rfl, by omega, _, rfl, c / 2 ^ (60 - l), l, ?_, by omega, ?_⟩
      · show [V.int ((c : Int) / 2 ^ ((60 : Int) - (l : Int)).toNat), V.int (l : Int)] = _
        rw [el, Int.toNat_natCast, Int.natCast_ediv, Int.natCast_pow]
        rfl
      refine ⟨_, rfl, _, rfl, F, _, _, n, rfl, rfl, eF7, ?_, ?_⟩
      · unfold ixN
        rw [if_pos (by omega), if_pos (by rw [List.length_map]; omega), Int.toNat_natCast]
      rw [set_map_tx]
      have eF8 : (upd H7 F (.lst ((f.set n (fig (c / 2 ^ (60 - l)) l)).map fun w => V.str (tx w)))) F = some (.lst ((f.set n (fig (c / 2 ^ (60 - l)) l)).map fun w => V.str (tx w))) := upd_same
      have keep8 : ∀ b o, b ≠ F → H6 b = some o → (upd H7 F (.lst ((f.set n (fig (c / 2 ^ (60 - l)) l)).map fun w => V.str (tx w)))) b = some o := fun b o hb ho => by
        rw [upd_ne hb]
        exact keep b o hb ho
      generalize upd H7 F (.lst ((f.set n (fig (c / 2 ^ (60 - l)) l)).map fun w => V.str (tx w))) = H8 at *
      refine ⟨_, rfl, _, rfl, _, _, rfl, rfl, 60 - l, ?_, by omega, _, _, rfl, rfl, ?_⟩
      · show [V.int ((60 : Int) - (l : Int))] = _
        rw [el]
      refine ⟨c + 2 ^ (60 - l), f.set n (fig (c / 2 ^ (60 - l)) l), some (.int (l : Nat)), some (.int (n : Nat)), ?_, by rw [List.length_set]; exact hf, eF8, keep8, hw⟩
      rw [Int.natCast_add]
      rfl
    · rintro σ H7 ⟨c, f, v4, v5, rfl, hf, eF7, keep, hw⟩
      rw [List.drop_eq_nil_of_le (by rw [List.length_map]; exact Nat.le_refl _)] at hw
      refine ⟨_, rfl, F, _, rfl, .inl ⟨.inl (.inl eF7), fun T nT => ?_⟩⟩
      refine k T _ (ys.map pf) hord (fun b o ho => ?_) ?_
      · exact same_new nT _ _ _ (keep _ _ (ne_of_none ho nF2) (S7 _ _ ho))
      · rw [upd_same, hw]
        rfl
end

abbrev s__law_book : Stmt := topS 38
theorem sc__law_book : FnScope ["_law_lengths", "_law_found", "error"] ["_law_lengths"] (defScope s__law_book) := ⟨rfl, rfl, rfl, by decide +kernel, rfl, by decide +kernel, by decide +kernel⟩
def sp__law_book (K : PySem.W.Frag) : Sp := fun vs H Q _ => ∃ (a : Addr) (ls : List Nat), vs = [.ref a] ∧ SqT K H a (ls.map fun n => V.int (n : Nat)) ∧ IsLens ls ∧
  (roomN ls ≤ 2 ^ 60 → ∀ (T : Addr) (H' : Hp) (o : List (Nat × Nat)), IsOrd ls o → Same H H' → H' T = some (.tup ((wordsO o 0 (List.replicate ls.length [])).map fun w => V.str (tx w))) → Q (.ref T) H') ∧
  (2 ^ 60 < roomN ls → ∀ H', Same H H' → Q .non H')
section
variable {P : Program} {w : World} {K : PySem.W.Frag} {mg : Str → Option Value} {base : Heap}
theorem ok__law_book (A : At K mg "_law_book" s__law_book ["_law_lengths"]) (B : Bn mg) (H_book : CalX P w K mg base "book" ["lengths"] 3 (sp_book K)) (HT_NoBook : ∃ C, ExT K mg "NoBook" C) (HT_StepError : ∃ C, ExT K mg "StepError" C) (HE_NoBook : ∀ C, ClsAt K "NoBook" C → ExcC K C) (HK_NoBook_StepError : ∀ C D, ClsAt K "NoBook" C → ClsAt K "StepError" D → PySem.W.kitOne K (.ref C) (.ref D) = some true) : CalE P w K mg base "_law_book" ["_law_lengths"] 4 (sp__law_book K) := by
  obtain ⟨f, fd, F, gF, bF⟩ := A
  obtain ⟨f_book, fd_book, G_book⟩ := H_book
  obtain ⟨A_NoBook, T_NoBook⟩ := HT_NoBook
  obtain ⟨A_StepError, T_StepError⟩ := HT_StepError
  have E_NoBook := HE_NoBook _ T_NoBook.n
  have KT_NoBook_StepError := HK_NoBook_StepError _ _ T_NoBook.n T_StepError.n
  refine ⟨f, fd, F.ok sc__law_book (fun vs H Q E h => ?_) (fun cdv A outer s H vs Q E hr h => ?_), gF, F.kp, bF⟩
  · repeat (first | (obtain ⟨rfl, _⟩ := h; rfl) | (obtain ⟨_, h⟩ := h))
  · obtain ⟨a, ls, rfl, hS, hL, k0, kN⟩ := h
    refine ⟨_, (pss_cons (ps_set (i := 1) sc__law_book.nd rfl (.inl rfl) pe_non)
      (pss_cons (ps_try_as (i := 2) (Wout := fun _ _ _ _ => False) rfl rfl sc__law_book.nd rfl rfl ⟨rfl, by decide, .inl T_NoBook.g⟩ takes0 (fun W pn xe tk po => (pss_one (ps_set (i := 1) sc__law_book.nd rfl (.inl rfl) (pe_callS G_book.ok (hr.mono (by first | decide | exact Nat.le_refl _)) (by rfl) G_book.g G_book.kp G_book.b (fun σ => passAt tk σ) (pa_cons (pv 0) pa_nil))))) (fun a_ oe cls d pn hz hf => (pss_one (ps_set (i := 1) sc__law_book.nd rfl (.inl rfl) (pe_ifExp (pt_val (pe_callB (call_isX E_NoBook hz hf) (by rfl) B.isinstance_ (by decide +kernel) (pa_cons (pv 2) (pa_cons (pe_glob (v := .ref A_StepError) (by rfl) T_StepError.g rfl) pa_nil)))) pe_non (pe_tup pa_nil))))))
      (pss_one (ps_ret (pv 1))))), ?_⟩
    refine ⟨_, rfl, a, ls, rfl, hS, hL, fun hr T H1 o ho s1 eT => ⟨_, rfl, k0 hr T H1 o ho s1 eT⟩, fun hr C H1 hC s1 => ?_⟩
    cases ClsAt.one T_NoBook.n hC
    refine ⟨true, T_NoBook.te, fun _ a0 na => ?_, fun q => nomatch q⟩
    refine ⟨_, rfl, rfl, rfl, _, _, true, rfl, fun u hu => hu, KT_NoBook_StepError, _, rfl, iteT ?_⟩
    exact ⟨_, rfl, kN hr H1 s1⟩
end

abbrev s__law_most : Stmt := topS 34
theorem sc__law_most : FnScope ["_law_one", "_law_two"] ["_law_one", "_law_two"] (defScope s__law_most) := ⟨rfl, rfl, rfl, by decide +kernel, rfl, by decide +kernel, by decide +kernel⟩
def sp__law_most (K : PySem.W.Frag) : Sp := fun vs H Q _ => ∃ (u v : Addr) (r s : Rat) (b c : Nat), vs = [.ref u, .ref v] ∧ RatAt K H u r ∧ RatAt K H v s ∧ Bd r b ∧ Bd s c ∧ b + c ≤ 8900 ∧ Q (.bl (decide (r ≤ s))) H
section
variable {P : Program} {w : World} {K : PySem.W.Frag} {mg : Str → Option Value} {base : Heap}
theorem ok__law_most (A : At K mg "_law_most" s__law_most ["_law_one", "_law_two"]) (B : Bn mg) : CalE P w K mg base "_law_most" ["_law_one", "_law_two"] 1 (sp__law_most K) := by
  obtain ⟨f, fd, F, gF, bF⟩ := A
  refine ⟨f, fd, F.ok sc__law_most (fun vs H Q E h => ?_) (fun cdv A outer s H vs Q E hr h => ?_), gF, F.kp, bF⟩
  · repeat (first | (obtain ⟨rfl, _⟩ := h; rfl) | (obtain ⟨_, h⟩ := h))
  · obtain ⟨u, v, r, s, b, c, rfl, hu, hv, br, bs, hbc, k⟩ := h
    refine ⟨_, (pss_one (ps_ret (pe_cmpR op_le (pe_op op_mulW (pe_ix (ix_tup_ K) (pv 0) pe_int (fun _ _ => rfl)) (pe_ix (ix_tup_ K) (pv 1) pe_int (fun _ _ => rfl))) (pe_op op_mulW (pe_ix (ix_tup_ K) (pv 1) pe_int (fun _ _ => rfl)) (pe_ix (ix_tup_ K) (pv 0) pe_int (fun _ _ => rfl))) (nomark _)))), ?_⟩
    have hu' := hu
    have hv' := hv
    unfold RatAt at hu' hv'
    refine ⟨_, rfl, u, _, 0, _, rfl, rfl, hu', rfl, _, rfl, v, _, 1, _, rfl, rfl, hv', rfl, _, _, rfl, rfl, bd_w br.1 (bd_den bs) (by omega), ?_⟩
    refine ⟨_, rfl, v, _, 0, _, rfl, rfl, hv', rfl, _, rfl, u, _, 1, _, rfl, rfl, hu', rfl, _, _, rfl, rfl, bd_w bs.1 (bd_den br) (by omega), _, _, rfl, rfl, ?_⟩
    show Q (.bl (decide _)) H
    rw [decide_eq_decide.mpr (le_iff_int r s)]
    exact k
end

abbrev s__law_merged : Stmt := topS 36
theorem sc__law_merged : FnScope ["_law_weights_here", "_law_left", "_law_found", "_law_both"] ["_law_weights_here"] (defScope s__law_merged) := ⟨rfl, rfl, rfl, by decide +kernel, rfl, by decide +kernel, by decide +kernel⟩
def castR (l : List Int) : List Rat := l.map fun z : Int => (z : Rat)
def sp__law_merged (K : PySem.W.Frag) : Sp := fun vs H Q _ => ∃ (a : Addr) (ws : List Int), vs = [.ref a] ∧ SqL K H a (ws.map V.int) ∧ ws.length < 64 ∧
  ∀ (c : Int) (H' : Hp), (c : Rat) = mgR (castR ws) → Same H H' → Q (.int c) H'
section
variable {P : Program} {w : World} {K : PySem.W.Frag} {mg : Str → Option Value} {base : Heap}
theorem ok__law_merged (A : At K mg "_law_merged" s__law_merged ["_law_weights_here"]) (B : Bn mg) : CalE P w K mg base "_law_merged" ["_law_weights_here"] 1 (sp__law_merged K) := by
  obtain ⟨f, fd, F, gF, bF⟩ := A
  refine ⟨f, fd, F.ok sc__law_merged (fun vs H Q E h => ?_) (fun cdv A outer s H vs Q E hr h => ?_), gF, F.kp, bF⟩
  · repeat (first | (obtain ⟨rfl, _⟩ := h; rfl) | (obtain ⟨_, h⟩ := h))
  · obtain ⟨a, ws, rfl, hS, hl, k⟩ := h
    have hsz := sizeLine_eq
    refine ⟨_, (pss_cons (ps_par (i := 1) (j := 2) (by rfl) sc__law_merged.nd rfl rfl (by decide) rfl rfl (pa_cons (pe_callB cr_sorted (by rfl) B.sorted_ (by decide +kernel) (pa_cons (pv 0) pa_nil)) (pa_cons pe_int pa_nil)) (by rfl))
      (pss_cons (ps_while PassesOwn.never (pt_cmpR op_gt (pe_callB (call_len_seq_ K) (by rfl) B.len_ (by decide +kernel) (pa_cons (pv 1) pa_nil)) pe_int (nomark _))
      (pss_cons (ps_set (i := 3) sc__law_merged.nd rfl (.inl rfl) (pe_op op_add (pe_ix (ix_list_ K) (pv 1) pe_int (fun _ _ => rfl)) (pe_ix (ix_list_ K) (pv 1) pe_int (fun _ _ => rfl))))
      (pss_cons (ps_set (i := 2) sc__law_merged.nd rfl (.inl rfl) (pe_op op_add (pv 2) (pv 3)))
      (pss_one (ps_set (i := 1) sc__law_merged.nd rfl (.inl rfl) (pe_callB cr_sorted (by rfl) B.sorted_ (by decide +kernel) (pa_cons (pe_op op_cat (pe_slice (sl_list_ K) (pv 1) (po_some pe_int) po_none) (pe_lst (pa_cons (pv 3) pa_nil))) pa_nil)))))))
      (pss_one (ps_ret (pv 2))))), ?_⟩
    refine ⟨_, rfl, a, ws, rfl, hS, hl, fun l1 D1 p1 w1 n1 => ?_⟩
    refine ⟨_, _, rfl, ?_⟩
    refine ⟨fun n σ H2 => ∃ (ls : List Int) (D : Addr) (f : Int) (v3 : Option V), n = ls.length ∧ σ = [some (.ref a), some (.ref D), some (.int f), v3] ∧ ls.Pairwise (· ≤ ·) ∧ ls.length < 64 ∧ (f : Rat) + mgR (castR ls) = mgR (castR ws) ∧ Same H H2 ∧ H2 D = some (.lst (ls.map V.int)), ⟨l1.length, l1, D1, 0, _, rfl, rfl, w1, by rw [p1.length_eq]; exact hl, ?_, same_new n1 _, upd_same⟩, ?_⟩
    · rw [show mgR (castR l1) = mgR (castR ws) from mg_perm (p1.map _), show ((0 : Int) : Rat) = 0 from rfl, Rat.zero_add]
    rintro n σ H2 ⟨ls, D, f, v3, rfl, rfl, hs, h64, hf, s2, eD⟩
    refine ⟨_, rfl, D, _, rfl, .inl (.inl (.inl eD)), _, _, rfl, rfl, _, rfl, ?_⟩
    rw [List.length_map]
    match ls, hs, h64, hf, eD with
    | [], _, _, hf, _ =>
      refine iteDF (by show ¬ ((0 : Nat) : Int) > 1; decide) ?_
      refine ⟨_, rfl, k f H2 ?_ s2⟩
      rw [← hf, show mgR (castR []) = 0 from rfl, Rat.add_zero]
    | [x], _, _, hf, _ =>
      refine iteDF (by show ¬ ((1 : Nat) : Int) > 1; decide) ?_
      refine ⟨_, rfl, k f H2 ?_ s2⟩
      rw [← hf, show mgR (castR [x]) = 0 from rfl, Rat.add_zero]
    | x :: y :: r, hs, h64, hf, eD =>
      obtain ⟨h1, h2⟩ := List.pairwise_cons.mp hs
      obtain ⟨h3, h4⟩ := List.pairwise_cons.mp h2
      rw [List.length_cons, List.length_cons] at h64
      refine iteDT (by rw [List.length_cons, List.length_cons]; omega) ?_
      have hmg : mgR (castR (x :: y :: r)) = ((x : Rat) + (y : Rat)) + mgR (((x : Rat) + (y : Rat)) :: castR r) := mg_step (.refl _) (fun z hz => by
        obtain ⟨u, hu, rfl⟩ := List.mem_map.mp hz
        exact Rat.intCast_le_intCast.mpr (h1 u (List.mem_cons_of_mem _ hu))) (fun z hz => by
        obtain ⟨u, hu, rfl⟩ := List.mem_map.mp hz
        exact Rat.intCast_le_intCast.mpr (h3 u hu))
      refine ⟨fun σ' H' => ∃ (l' : List Int) (D' : Addr), σ' = [some (.ref a), some (.ref D'), some (.int (f + (x + y))), some (.int (x + y))] ∧ l'.Perm (r ++ [x + y]) ∧ l'.Pairwise (· ≤ ·) ∧ Same H H' ∧ H' D' = some (.lst (l'.map V.int)), fun σ' H' ⟨l', D', e1, e2, e3, e4, e5⟩ => ⟨l'.length, ?_, l', D', f + (x + y), _, rfl, e1, e3, ?_, ?_, e4, e5⟩, ?_⟩
      · rw [e2.length_eq, List.length_append]
        show r.length + 1 < r.length + 1 + 1
        omega
      · rw [e2.length_eq, List.length_append]
        show r.length + 1 < 64
        omega
      · have e6 : mgR (castR l') = mgR (((x : Rat) + (y : Rat)) :: castR r) := by
          refine mg_perm ?_
          refine (e2.map fun z : Int => (z : Rat)).trans ?_
          rw [List.map_append]
          refine List.perm_append_comm.trans ?_
          show List.Perm ((((x + y : Int)) : Rat) :: castR r) _
          rw [Rat.intCast_add]
        rw [← hf, hmg, e6, Rat.intCast_add, Rat.intCast_add]
        grind
      refine ⟨_, rfl, D, _, _, _, rfl, rfl, .inl (.inl eD), at_of (j := 0) rfl rfl, _, rfl, D, _, _, _, rfl, rfl, .inl (.inl eD), at_of (j := 1) rfl rfl, _, _, rfl, rfl, ?_⟩
      refine ⟨_, rfl, _, rfl, _, _, rfl, rfl, ?_⟩
      refine ⟨_, rfl, _, rfl, D, _, rfl, .inl (.inl eD), fun p np => ?_⟩
      have ec : cutV ((x :: y :: r).map V.int) (some (2 : Int)) none = r.map V.int := cutV_from _ 2
      refine ⟨_, rfl, (by show 1 ≤ sizeLine; omega), fun p2 np2 => ?_⟩
      have s3 := same_new np (.lst (cutV ((x :: y :: r).map V.int) (some (2 : Int)) none))
      have s4 := s3.trans (same_new np2 (.lst [.int (x + y)]))
      refine ⟨p, p2, _, _, rfl, rfl, same_new np2 (.lst [.int (x + y)]) _ _ upd_same, upd_same, by rw [ec, List.length_map]; show r.length + 1 ≤ _; omega, fun p3 np3 => ?_⟩
      have s5 := s4.trans (same_new np3 (.lst (cutV ((x :: y :: r).map V.int) (some (2 : Int)) none ++ [.int (x + y)])))
      refine ⟨p3, r ++ [x + y], rfl, .inl (.inl ?_), by rw [List.length_append]; show r.length + 1 < 64; omega, fun l' D' q1 q2 nD' => ⟨l', D', rfl, q1, q2, s2.trans (s5.trans (same_new nD' _)), upd_same⟩⟩
      rw [List.map_append, ← ec]
      exact upd_same
end

abbrev s_law : Stmt := topS 39
theorem sc_law : FnScope ["_law_script", "_law_h", "_law_turn", "_law_ratio_here", "_law_count", "_law_weights_here", "_law_found", "_law_least", "_law_some", "_law_due", "_law_number", "_law_k"] ["_law_script"] (defScope s_law) := ⟨rfl, rfl, rfl, by decide +kernel, rfl, by decide +kernel, by decide +kernel⟩
def sp_law (K : PySem.W.Frag) : Sp := fun vs H Q _ => ∃ (a : Addr) (ns : List Int), vs = [.ref a] ∧ SqL K H a (ns.map V.int) ∧ ns.length ≤ 63 ∧ ∀ H', Q (.bl true) H'
theorem int_uniq : ∀ {a b : List Int}, a.Pairwise (· ≤ ·) → b.Pairwise (· ≤ ·) → a.Perm b → a = b
  | [], b, _, _, h => (List.Perm.eq_nil h.symm).symm
  | x :: a, [], _, _, h => absurd h.length_eq (by simp)
  | x :: a, y :: b, ha, hb, h => by
    obtain ⟨a1, a2⟩ := List.pairwise_cons.mp ha
    obtain ⟨b1, b2⟩ := List.pairwise_cons.mp hb
    have e : x = y := by
      refine Int.le_antisymm ?_ ?_
      · rcases List.mem_cons.mp (h.mem_iff.mpr List.mem_cons_self) with e | hy
        · omega
        · exact a1 y hy
      · rcases List.mem_cons.mp (h.mem_iff.mp List.mem_cons_self) with e | hx
        · omega
        · exact b1 x hx
    subst e
    rw [int_uniq a2 b2 h.cons_inv]
def ratD (r : Rat) : PyData := .tuple [.int r.num, .int (r.den : Int)]
theorem dp_rat {K : PySem.W.Frag} {H : Hp} {a : Addr} {r : Rat} (h : RatAt K H a r) : Dp K H (.ref a) (ratD r) := .tup h (.cons (.int _) (.cons (.int _) .nil))
theorem ok_rat (n : Nat) (r : Rat) : OkD (n + 1) (ratD r) := okd_tuple (by show 2 ≤ 1000000; decide) (okA_ints [r.num, (r.den : Int)])
theorem dp_nats {K : PySem.W.Frag} {H : Hp} : ∀ (ws : List Nat), DpAll K H (ws.map fun n => V.int (n : Nat)) (ws.map fun n => PyData.int (n : Nat))
  | [] => .nil
  | w :: ws => .cons (.int _) (dp_nats ws)
theorem okA_nats {n : Nat} (ws : List Nat) : ∀ d ∈ ws.map (fun n => PyData.int (n : Nat)), OkD n d := fun d hd => by
  obtain ⟨x, _, rfl⟩ := List.mem_map.mp hd
  cases n <;> trivial
theorem prod_bound {p q c : Nat} (h : IsRat p q) (hc : c ≤ 40) : ∀ (ls : List Nat) (i : Nat), i + ls.length ≤ c → (∀ l ∈ ls, l ≤ 60) → ((prodZ (wtF p q c) i ls).sum).natAbs ≤ ls.length * 2 ^ 203
  | [], _, _, _ => by simp [prodZ]
  | l :: r, i, hi, h60 => by
    rw [prod_cons, List.length_cons, Nat.add_mul]
    have ih := prod_bound h hc r (i + 1) (by rw [List.length_cons] at hi; omega) fun x hx => h60 x (List.mem_cons_of_mem _ hx)
    have h1 := wt_bound h hc (show i < c by rw [List.length_cons] at hi; omega)
    have h2 : ((l : Nat) : Int).natAbs < 2 ^ 6 := by have := h60 l List.mem_cons_self; omega
    have h3 := bd_mul h1 h2
    have e : 2 ^ (197 + 6) = 2 ^ 203 := rfl
    rw [e] at h3
    generalize 2 ^ 203 = B at *
    omega
theorem bd_cost {p q : Nat} (h : IsRat p q) {ls : List Nat} (hL : IsLens ls) : Bd (costR p q ls) 240 := by
  unfold costR
  refine Bd.frac (sumW_pos h hL.l1) ?_ (sumW_bound h hL.l40)
  have h1 := prod_bound h hL.l40 ls 0 (by omega) hL.l60
  refine Nat.lt_of_le_of_lt h1 ?_
  exact Nat.lt_of_le_of_lt (Nat.mul_le_mul_right _ (show ls.length ≤ 2 ^ 6 by have := hL.l40; omega)) (by rw [← Nat.pow_add]; exact Nat.pow_lt_pow_right (by decide) (by decide))
section
variable {P : Program} {w : World} {K : PySem.W.Frag} {mg : Str → Option Value} {base : Heap}
theorem ok_law {f : Addr} {fd : FuncData} (F : Fun K "law" "law" s_law f fd) (B : Bn mg) (H__law_mix : CalE P w K mg base "_law_mix" ["_law_script", "_law_seed"] 1 (sp__law_mix K)) (H__law_ratio : CalE P w K mg base "_law_ratio" ["_law_h"] 3 (sp__law_ratio K)) (H__law_next : CalE P w K mg base "_law_next" ["_law_h", "_law_cap"] 1 (sp__law_next K)) (H__law_pick : CalE P w K mg base "_law_pick" ["_law_h", "_law_things"] 2 (sp__law_pick K)) (H__law_weights : CalE P w K mg base "_law_weights" ["_law_ratio_here", "_law_count"] 1 (sp__law_weights K)) (H_best_lengths : CalE P w K mg base "best_lengths" ["ratio", "count"] 4 (sp_best_lengths K)) (H__law_alike : CalE P w K mg base "_law_alike" ["_law_found", "_law_due"] 5 (sp__law_alike K)) (H_cost : CalE P w K mg base "cost" ["lengths", "ratio"] 4 (sp_cost K)) (H__law_frac : CalE P w K mg base "_law_frac" ["_law_number", "_law_parts"] 1 (sp__law_frac K)) (H__law_merged : CalE P w K mg base "_law_merged" ["_law_weights_here"] 1 (sp__law_merged K)) (H_is_whole : CalE P w K mg base "is_whole" ["lengths"] 3 (sp_is_whole K)) (H__law_book : CalE P w K mg base "_law_book" ["_law_lengths"] 4 (sp__law_book K)) (H__law_most : CalE P w K mg base "_law_most" ["_law_one", "_law_two"] 1 (sp__law_most K)) : FnOk P w K mg base CX0 6 f fd ["_law_script"] (sp_law K) := by
  obtain ⟨f__law_mix, fd__law_mix, G__law_mix⟩ := H__law_mix
  obtain ⟨f__law_ratio, fd__law_ratio, G__law_ratio⟩ := H__law_ratio
  obtain ⟨f__law_next, fd__law_next, G__law_next⟩ := H__law_next
  obtain ⟨f__law_pick, fd__law_pick, G__law_pick⟩ := H__law_pick
  obtain ⟨f__law_weights, fd__law_weights, G__law_weights⟩ := H__law_weights
  obtain ⟨f_best_lengths, fd_best_lengths, G_best_lengths⟩ := H_best_lengths
  obtain ⟨f__law_alike, fd__law_alike, G__law_alike⟩ := H__law_alike
  obtain ⟨f_cost, fd_cost, G_cost⟩ := H_cost
  obtain ⟨f__law_frac, fd__law_frac, G__law_frac⟩ := H__law_frac
  obtain ⟨f__law_merged, fd__law_merged, G__law_merged⟩ := H__law_merged
  obtain ⟨f_is_whole, fd_is_whole, G_is_whole⟩ := H_is_whole
  obtain ⟨f__law_book, fd__law_book, G__law_book⟩ := H__law_book
  obtain ⟨f__law_most, fd__law_most, G__law_most⟩ := H__law_most
  refine F.ok sc_law (fun vs H Q E h => ?_) (fun cdv A outer s H vs Q E hr h => ?_)
  · obtain ⟨a, ns, rfl, _⟩ := h
    rfl
  obtain ⟨a, ns, rfl, hS, hlen, k⟩ := h
  have hsz := sizeLine_eq
  refine ⟨_, (pss_cons (ps_set (i := 1) sc_law.nd rfl (.inr rfl) (pe_call G__law_mix.ok (hr.mono (by first | decide | exact Nat.le_refl _)) (by rfl) G__law_mix.g G__law_mix.kp G__law_mix.b .nil pass0 (pa_cons (pv 0) (pa_cons pe_int pa_nil))))
      (pss_cons (ps_for PassesOwn.never rfl (pi_range1 (by rfl) B.range_ (pa_cons pe_int pa_nil)) (pg_name (i := 2) sc_law.nd rfl (.inl rfl))
      (pss_cons (ps_par (i := 3) (j := 4) (by rfl) sc_law.nd rfl rfl (by decide) rfl rfl (pa_cons (pe_call G__law_ratio.ok (hr.mono (by first | decide | exact Nat.le_refl _)) (by rfl) G__law_ratio.g G__law_ratio.kp G__law_ratio.b .nil pass0 (pa_cons (pv 1) pa_nil)) (pa_cons (pe_op op_add pe_int (pe_call G__law_next.ok (hr.mono (by first | decide | exact Nat.le_refl _)) (by rfl) G__law_next.g G__law_next.kp G__law_next.b .nil pass0 (pa_cons (pv 1) (pa_cons (pe_call G__law_pick.ok (hr.mono (by first | decide | exact Nat.le_refl _)) (by rfl) G__law_pick.g G__law_pick.kp G__law_pick.b .nil pass0 (pa_cons (pv 1) (pa_cons (pe_lst (pa_cons pe_int (pa_cons pe_int (pa_cons pe_int pa_nil)))) pa_nil))) pa_nil)))) pa_nil)) (by rfl))
      (pss_cons (ps_asg (pe_tup (pa_cons (pe_call G__law_weights.ok (hr.mono (by first | decide | exact Nat.le_refl _)) (by rfl) G__law_weights.g G__law_weights.kp G__law_weights.b .nil pass0 (pa_cons (pv 3) (pa_cons (pv 4) pa_nil))) (pa_cons (pe_call G_best_lengths.ok (hr.mono (by first | decide | exact Nat.le_refl _)) (by rfl) G_best_lengths.g G_best_lengths.kp G_best_lengths.b .nil pass0 (pa_cons (pv 3) (pa_cons (pv 4) pa_nil))) pa_nil))) (pg_tup (by rfl) (pgs_cons (pg_name (i := 5) sc_law.nd rfl (.inr rfl)) (pgs_cons (pg_name (i := 6) sc_law.nd rfl (.inl rfl)) pgs_nil))))
      (pss_cons (ps_if (PW.pt (pw_or (pt_not (pt_val (pe_callB (call_isi_ K) (by rfl) B.isinstance_ (by decide +kernel) (pa_cons (pv 6) (pa_cons (pe_bltn (v := .ty "tuple") (by rfl) B.tuple_ (by decide +kernel) rfl) pa_nil))))) (pw_or (pt_cmpR op_ne (pe_callB (call_len_seq_ K) (by rfl) B.len_ (by decide +kernel) (pa_cons (pv 6) pa_nil)) (pv 4) (nomark _)) (pw_or1 (pt_not (pt_val (pe_call G__law_alike.ok (hr.mono (by first | decide | exact Nat.le_refl _)) (by rfl) G__law_alike.g G__law_alike.kp G__law_alike.b .nil pass0 (pa_cons (pe_callTy (call_list_of_ K) (by rfl) B.list_ (by decide +kernel) (pa_cons (pv 6) pa_nil)) (pa_cons (pe_callB cr_sortedTI (by rfl) B.sorted_ (by decide +kernel) (pa_cons (pv 6) pa_nil)) pa_nil)))))))))
      (pss_one (ps_ret pe_bl))
      pss_nil)
      (pss_cons (ps_set (i := 7) sc_law.nd rfl (.inl rfl) (pe_call G_cost.ok (hr.mono (by first | decide | exact Nat.le_refl _)) (by rfl) G_cost.g G_cost.kp G_cost.b .nil pass0 (pa_cons (pv 6) (pa_cons (pv 3) pa_nil))))
      (pss_cons (ps_if (PW.pt (pw_or (pt_not (pt_val (pe_call G__law_alike.ok (hr.mono (by first | decide | exact Nat.le_refl _)) (by rfl) G__law_alike.g G__law_alike.kp G__law_alike.b .nil pass0 (pa_cons (pv 7) (pa_cons (pe_call G__law_frac.ok (hr.mono (by first | decide | exact Nat.le_refl _)) (by rfl) G__law_frac.g G__law_frac.kp G__law_frac.b .nil pass0 (pa_cons (pe_call G__law_merged.ok (hr.mono (by first | decide | exact Nat.le_refl _)) (by rfl) G__law_merged.g G__law_merged.kp G__law_merged.b .nil pass0 (pa_cons (pv 5) pa_nil)) (pa_cons (pe_callB (cr_sum_ K rfl) (by rfl) B.sum_ (by decide +kernel) (pa_cons (pv 5) pa_nil)) pa_nil))) pa_nil))))) (pw_or1 (pt_not (pt_val (pe_call G_is_whole.ok (hr.mono (by first | decide | exact Nat.le_refl _)) (by rfl) G_is_whole.g G_is_whole.kp G_is_whole.b .nil pass0 (pa_cons (pv 6) pa_nil)))))))
      (pss_one (ps_ret pe_bl))
      pss_nil)
      (pss_cons (ps_set (i := 8) sc_law.nd rfl (.inr rfl) (pe_callTy (call_tuple_of_ K) (by rfl) B.tuple_ (by decide +kernel) (pa_cons (pe_lc (own := [("_law_number", 10)]) (g := gName 10) (tt := tYes) rfl sc_law.nd (pi_range1 (by rfl) B.range_ (pa_cons (pv 4) pa_nil)) (blkOk_by (own := [("_law_number", 10)]) (N := ["_law_script", "_law_h", "_law_turn", "_law_ratio_here", "_law_count", "_law_weights_here", "_law_found", "_law_least", "_law_some", "_law_due", "_law_number", "_law_k"]) (sc := defScope s_law) (by decide +kernel)) (fun _ _ _ _ _ => (pg_name (i := 10) sc_law.nd rfl (.inl rfl))) (fun _ _ _ _ _ => pts_nil) (fun _ _ _ _ _ => (pe_call G__law_next.ok (hr.mono (by first | decide | exact Nat.le_refl _)) (by rfl) G__law_next.g G__law_next.kp G__law_next.b .nil pass0 (pa_cons (pv 1) (pa_cons (pe_call G__law_pick.ok (hr.mono (by first | decide | exact Nat.le_refl _)) (by rfl) G__law_pick.g G__law_pick.kp G__law_pick.b .nil pass0 (pa_cons (pv 1) (pa_cons (pe_lst (pa_cons pe_int (pa_cons pe_int (pa_cons pe_int pa_nil)))) pa_nil))) pa_nil))))) pa_nil)))
      (pss_cons (ps_set (i := 9) sc_law.nd rfl (.inl rfl) (pe_call G__law_frac.ok (hr.mono (by first | decide | exact Nat.le_refl _)) (by rfl) G__law_frac.g G__law_frac.kp G__law_frac.b .nil pass0 (pa_cons (pe_callB (cr_sum_ K rfl) (by rfl) B.sum_ (by decide +kernel) (pa_cons (pe_lc (own := [("_law_k", 11)]) (g := gName 11) (tt := tYes) rfl sc_law.nd (pi_range1 (by rfl) B.range_ (pa_cons (pv 4) pa_nil)) (blkOk_by (own := [("_law_k", 11)]) (N := ["_law_script", "_law_h", "_law_turn", "_law_ratio_here", "_law_count", "_law_weights_here", "_law_found", "_law_least", "_law_some", "_law_due", "_law_number", "_law_k"]) (sc := defScope s_law) (by decide +kernel)) (fun _ _ _ _ _ => (pg_name (i := 11) sc_law.nd rfl (.inl rfl))) (fun _ _ _ _ _ => pts_nil) (fun _ _ _ _ _ => (pe_op op_mul (pe_ix (ix_list_ K) (pv 5) (pv 11) (fun _ _ => rfl)) (pe_ix (ix_tup_ K) (pv 8) (pv 11) (fun _ _ => rfl))))) pa_nil)) (pa_cons (pe_callB (cr_sum_ K rfl) (by rfl) B.sum_ (by decide +kernel) (pa_cons (pv 5) pa_nil)) pa_nil))))
      (pss_cons (ps_if (pt_not (pt_val (pe_call G__law_alike.ok (hr.mono (by first | decide | exact Nat.le_refl _)) (by rfl) G__law_alike.g G__law_alike.kp G__law_alike.b .nil pass0 (pa_cons (pe_call G_cost.ok (hr.mono (by first | decide | exact Nat.le_refl _)) (by rfl) G_cost.g G_cost.kp G_cost.b .nil pass0 (pa_cons (pv 8) (pa_cons (pv 3) pa_nil))) (pa_cons (pv 9) pa_nil)))))
      (pss_one (ps_ret pe_bl))
      pss_nil)
      (pss_one (ps_if (PW.pt (pw_and (pt_cmp (pc_notN (pe_call G__law_book.ok (hr.mono (by first | decide | exact Nat.le_refl _)) (by rfl) G__law_book.g G__law_book.kp G__law_book.b .nil pass0 (pa_cons (pv 8) pa_nil)))) (pw_and1 (pt_not (pt_val (pe_call G__law_most.ok (hr.mono (by first | decide | exact Nat.le_refl _)) (by rfl) G__law_most.g G__law_most.kp G__law_most.b .nil pass0 (pa_cons (pv 7) (pa_cons (pv 9) pa_nil))))))))
      (pss_one (ps_ret pe_bl))
      pss_nil)))))))))))
      (pss_one (ps_ret pe_bl)))), ?_⟩
  refine ⟨_, rfl, a, ns, 7, rfl, hS, hlen, fun h q H1 s1 n1 n2 L1 => ?_⟩
  refine ⟨4, rfl, by decide, by decide, for_range (lo := 0) (n := 4) (fun i σ H2 => ∃ v2 v3 v4 v5 v6 v7 v8 v9 v10 v11, σ = [some (.ref a), some (.ref h), v2, v3, v4, v5, v6, v7, v8, v9, v10, v11] ∧ LawH H2 h q) ⟨_, _, _, _, _, _, _, _, _, _, rfl, L1⟩ ?_ ?_⟩
  rotate_left
  · rintro σ H2 ⟨v2, v3, v4, v5, v6, v7, v8, v9, v10, v11, rfl, L2⟩
    exact k H2
  rintro i σ H2 hi ⟨v2, v3, v4, v5, v6, v7, v8, v9, v10, v11, rfl, L2⟩
  -- ratio, count
  refine ⟨_, rfl, h, q, rfl, L2, fun r x y H3 hr0 L3 S3 er => ?_⟩
  refine ⟨_, rfl, _, rfl, (by show 3 ≤ sizeLine; omega), fun t nt => pickI L3 nt (fun z => by cases z) (by show 3 ≤ 1000; decide) fun z hz H4 L4 S4 => ?_⟩
  obtain ⟨c1, rfl, c2, c3⟩ : ∃ c : Nat, z = .int (c : Int) ∧ 1 ≤ c ∧ c ≤ 40 := by
    simp only [List.mem_cons, List.not_mem_nil, or_false] at hz
    rcases hz with rfl | rfl | rfl <;> exact ⟨_, rfl, by decide, by decide⟩
  refine ⟨h, q, c1, rfl, L4, by omega, by omega, fun z' H5 y0 y1 L5 S5 => ?_⟩
  obtain ⟨c, ec⟩ : ∃ c : Nat, (1 : Int) + z' = (c : Int) := ⟨1 + z'.toNat, by omega⟩
  have hc1 : 1 ≤ c := by omega
  have hc : c ≤ 40 := by omega
  obtain ⟨g1, g2⟩ := L3.tup_ne er
  have er := S5 _ _ (S4 _ _ er g1 g2) g1 g2
  have hR : ∀ {H' : Hp}, Same H5 H' → SqT K H' r [.int (x : Nat), .int (y : Nat)] := fun s => .inl (.inl (s _ _ er))
  refine ⟨_, _, rfl, rfl, _, _, rfl, ?_⟩
  refine to_next (σ' := [some (.ref a), some (.ref h), some (.int (0 + (i : Int))), some (.ref r), some (.int (c : Nat)), v5, v6, v7, v8, v9, v10, v11]) (by rw [← ec]; rfl) ?_
  clear S3 S4 S5 L4 L3 nt hz y0 y1 c2 c3 ec
  have hp1 := hr0.p1
  have hpq := hr0.pq
  -- weights, found
  refine ⟨_, rfl, _, rfl, r, x, y, c, rfl, hR (Same.refl _), hr0, hc1, hc, fun Z H6 s6 nZ eZ => ?_⟩
  refine ⟨_, rfl, _, rfl, r, x, y, c, rfl, hR s6, hr0, hc1, hc, fun T ls H7 hp hs s7 eT => ?_⟩
  have B := best_is hp1 hpq hc1 hc hp hs
  refine ⟨(by show 2 ≤ sizeLine; omega), fun U nU => ?_⟩
  refine ⟨U, _, rfl, .inl (.inl upd_same), rfl, _, _, rfl, _, _, rfl, rfl, ?_⟩
  have s8 := same_new nU (.tup [.ref Z, .ref T])
  have S8 := s6.trans (s7.trans s8)
  have eZ := s8 _ _ (s7 _ _ eZ)
  have eT := s8 _ _ eT
  have L8 := L5.same S8
  generalize upd H7 U (.tup [.ref Z, .ref T]) = H8 at *
  have zn : Z ≠ h ∧ Z ≠ q := ⟨fun z => L5.nn.1 (z ▸ nZ), fun z => L5.nn.2 (z ▸ nZ)⟩
  clear s6 s7 s8 nU nZ
  have hL : IsLens ls := ⟨by rw [B.len]; exact hc1, by rw [B.len]; exact hc, fun l hl => by have := B.b39 l hl; omega⟩
  have hT : ∀ {H' : Hp}, Same H8 H' → SqT K H' T (ls.map fun n => V.int (n : Nat)) := fun s => .inl (.inl (s _ _ eT))
  have hroom : roomN ls = 2 ^ 60 := B.whole
  have eints : (ls.map fun n => V.int (n : Nat)) = (ls.map fun n => ((n : Nat) : Int)).map V.int := by rw [List.map_map]; rfl
  -- found is a rising tuple
  refine ⟨_, rfl, _, _, _, _, true, rfl, .ty _, tyT (hT (Same.refl _)), kit_ty (by decide +kernel), _, rfl, iteF ?_⟩
  refine ⟨_, rfl, T, _, rfl, .inr (hT (Same.refl _)), _, rfl, rfl, _, rfl, iteNF (by rw [List.length_map, B.len]) ?_⟩
  refine ⟨_, rfl, T, _, rfl, .inr (hT (Same.refl _)), fun Lf nL => ?_⟩
  have s9 := same_new nL (.lst (ls.map fun n => V.int (n : Nat)))
  have hT9 : SqT K (upd H8 Lf (.lst (ls.map fun n => V.int (n : Nat)))) T ((ls.map fun n => ((n : Nat) : Int)).map V.int) := eints ▸ hT s9
  refine ⟨_, rfl, T, _, rfl, hT9, by rw [List.length_map, B.len]; omega, fun ns' p perm pw np => ?_⟩
  have ens : ns' = ls.map fun n => ((n : Nat) : Int) := int_uniq pw (List.pairwise_map.mpr (hs.imp fun h => Int.ofNat_le.mpr h)) perm
  rw [ens, ← eints]
  have s10 := same_new np (.lst (ls.map fun n => V.int (n : Nat)))
  refine ⟨_, _, .list (ls.map fun n => .int (n : Nat)), 4, rfl, rfl, .lst (.inl (.inl (s10 _ _ upd_same))) (dp_nats ls), .lst (.inl (.inl upd_same)) (dp_nats ls), okd_list (by rw [List.length_map, B.len]; omega) (okA_nats ls), fun H11 s11 => ⟨_, rfl, iteF ?_⟩⟩
  have S11 := s9.trans (s10.trans s11)
  clear s9 s10 s11 hT9 nL np ens perm pw
  -- the least cost
  refine ⟨_, rfl, _, rfl, T, r, x, y, ls, rfl, hT S11, hL, hR (S8.trans S11), hr0, fun lr H12 s12 nlr Rl => ?_⟩
  have S12 := S11.trans s12
  have ez : wtsV x y c = ((List.range c).map (wtF x y c)).map V.int := by
    unfold wtsV
    rw [List.map_map]
    rfl
  have eZ12 := S12 _ _ eZ
  rw [ez] at eZ12
  refine ⟨_, rfl, _, rfl, Z, _, rfl, .inl (.inl eZ12), by rw [List.length_map, List.length_range]; omega, fun M H13 hM s13 => ?_⟩
  have eM : M = (prodZ (wtF x y c) 0 ls).sum := by
    refine Rat.intCast_inj.mp ?_
    rw [hM, B.cost]
    unfold castR
    rw [List.map_map]
    rfl
  refine ⟨_, rfl, Z, _, rfl, .inl (.inl (s13 _ _ eZ12)), M, _, 240, rfl, sumW_pos hr0 hc1, sumW_bound hr0 hc, by decide, fun f H14 s14 nf Rf => ?_⟩
  have ecost : costR x y ls = Rat.divInt M (sumW (wtF x y c) c) := by
    unfold costR
    rw [B.len, eM]
  have Rf : RatAt K H14 f (costR x y ls) := by
    rw [ecost]
    exact Rf
  have Rl14 := Rl.same (s13.trans s14)
  refine ⟨_, _, ratD (costR x y ls), 4, rfl, rfl, dp_rat Rl14, dp_rat Rf, ok_rat 3 _, fun H15 s15 => ⟨_, rfl, iteF ?_⟩⟩
  have S15 := S12.trans (s13.trans (s14.trans s15))
  refine ⟨_, rfl, T, ls, rfl, hT S15, hL, by rw [hroom]; exact Nat.le_refl _, fun H16 s16 => ?_⟩
  rw [decide_eq_true hroom]
  refine ⟨_, rfl, iteF ?_⟩
  have S16 := S15.trans s16
  have Rl16 := Rl14.same (s15.trans s16)
  have L16 := L8.same S16
  have lrn : lr ≠ h ∧ lr ≠ q := ⟨fun z => (L8.same S11).nn.1 (z ▸ nlr), fun z => (L8.same S11).nn.2 (z ▸ nlr)⟩
  have er16 : H16 r = _ := (S8.trans S16) _ _ er
  have eZ16 := S16 _ _ eZ
  rw [ez] at eZ16
  clear S15 s12 s13 s14 s15 s16 S12 S11 Rf Rl Rl14 eZ12 eT
  -- some lengths
  refine ⟨_, rfl, _, rfl, by omega, by omega, fun F nF => ?_⟩
  have f1 : F ≠ h := fun z => L16.nn.1 (z ▸ nF)
  have f2 : F ≠ q := fun z => L16.nn.2 (z ▸ nF)
  rw [Int.toNat_natCast]
  refine lc_range (lo := 0) (n := c) (fun j H' => ∃ us : List Nat, us.length = j ∧ (∀ n ∈ us, n ≤ 60) ∧ LawH H' h q ∧ (∀ b o, b ≠ h → b ≠ q → H16 b = some o → H' b = some o) ∧ H' F = some (.lst (us.map fun n => V.int (n : Nat)))) ⟨[], rfl, (fun n hn => by cases hn), L16.same (same_new nF _), fun b o _ _ ho => same_new nF _ _ _ ho, upd_same⟩ ?_ ?_
  · rintro j H' hj ⟨us, hul, hub, LL, keep, eF⟩
    refine ⟨rfl, _, rfl, _, rfl, (by show 3 ≤ sizeLine; omega), fun t nt => pickI LL nt (fun z => by cases z) (by show 3 ≤ 1000; decide) fun z hz H4 L4 S4 => ?_⟩
    obtain ⟨c1, rfl, c2, c3⟩ : ∃ c : Nat, z = .int (c : Int) ∧ 1 ≤ c ∧ c ≤ 61 := by
      simp only [List.mem_cons, List.not_mem_nil, or_false] at hz
      rcases hz with rfl | rfl | rfl <;> exact ⟨_, rfl, by decide, by decide⟩
    refine ⟨h, q, c1, rfl, L4, by omega, by omega, fun z H'' z0 z1 L'' S'' => ?_⟩
    obtain ⟨u, rfl⟩ : ∃ y' : Nat, z = (y' : Int) := ⟨z.toNat, by omega⟩
    have S5 := S4.trans S''
    refine ⟨_, S5 _ _ eF f1 f2, by rw [List.length_map]; omega, us ++ [u], by rw [List.length_append, hul]; rfl, fun n hn => ?_, L''.updL f1 f2, fun b o hb hq ho => ?_, by rw [upd_same, List.map_append]; rfl⟩
    · rcases List.mem_append.mp hn with hn | hn
      · exact hub n hn
      · rw [List.mem_singleton.mp hn]
        omega
    · rw [upd_ne (ne_of_none ho nF)]
      exact S5 _ _ (keep b o hb hq ho) hb hq
  rintro H17 ⟨ms, hml, hmb, L17, keep, eF⟩
  refine ⟨F, _, rfl, .inl ⟨.inl (.inl eF), fun T2 nT2 => ?_⟩⟩
  have L18 := L17.same (same_new nT2 (.tup (ms.map fun n => V.int (n : Nat))))
  have keep : ∀ b o, b ≠ h → b ≠ q → H16 b = some o → (upd H17 T2 (.tup (ms.map fun n => V.int (n : Nat)))) b = some o := fun b o hb hq ho => same_new nT2 _ _ _ (keep b o hb hq ho)
  have eT2 : (upd H17 T2 (.tup (ms.map fun n => V.int (n : Nat)))) T2 = some (.tup (ms.map fun n => V.int (n : Nat))) := upd_same
  generalize upd H17 T2 (.tup (ms.map fun n => V.int (n : Nat))) = H18 at *
  have er18 := keep _ _ g1 g2 er16
  have eZ18 := keep _ _ zn.1 zn.2 eZ16
  have Rl18 : RatAt K H18 lr (costR x y ls) := by
    rcases Rl16 with (z | ⟨o, z⟩) | z
    · exact .inl (.inl (keep _ _ lrn.1 lrn.2 z))
    · exact .inl (.inr ⟨o, keep _ _ lrn.1 lrn.2 z⟩)
    · exact .inr z
  have hL2 : IsLens ms := ⟨by omega, by omega, hmb⟩
  have hT2 : ∀ {H' : Hp}, Same H18 H' → SqT K H' T2 (ms.map fun n => V.int (n : Nat)) := fun s => .inl (.inl (s _ _ eT2))
  have hR2 : ∀ {H' : Hp}, Same H18 H' → SqT K H' r [.int (x : Nat), .int (y : Nat)] := fun s => .inl (.inl (s _ _ er18))
  have lm2 : (ms.map fun n => V.int (n : Nat)).length = c := by rw [List.length_map, hml]
  clear L16 L17 keep nT2 eF Rl16 er16 eZ16 nF
  -- what they cost
  refine ⟨_, rfl, _, rfl, by omega, by omega, fun G nG => ?_⟩
  rw [Int.toNat_natCast]
  refine lc_range (lo := 0) (n := c) (fun j H' => Same H18 H' ∧ H' G = some (.lst (((prodZ (wtF x y c) 0 ms).take j).map V.int))) ⟨same_new nG _, by rw [List.take_zero]; exact upd_same⟩ ?_ ?_
  · rintro j H19 hj ⟨s19, eG⟩
    have hz : ms[j]? = some ms[j] := List.getElem?_eq_getElem (by omega)
    generalize ms[j] = l at hz
    have l60 := hmb l (List.mem_of_getElem? hz)
    have at1 : (ms.map fun n => V.int (n : Nat))[j]? = some (.int (l : Nat)) := by rw [List.getElem?_map, hz]; rfl
    have at2 : (((List.range c).map (wtF x y c)).map V.int)[j]? = some (.int (wtF x y c j)) := by rw [List.getElem?_map, List.getElem?_map, List.getElem?_range hj]; rfl
    refine ⟨rfl, _, rfl, _, rfl, Z, _, _, _, rfl, rfl, .inl (.inl (s19 _ _ eZ18)), at_of (Int.zero_add _) at2, _, rfl, _, rfl, T2, _, _, _, rfl, rfl, hT2 s19, at_of (Int.zero_add _) at1, _, _, rfl, rfl, .inr (by omega), _, eG, ?_, fun b o ho => ?_, ?_⟩
    · rw [List.length_map, List.length_take]
      omega
    · rw [upd_ne (ne_of_none ho nG)]
      exact s19 _ _ ho
    · have hg := prodZ_get (wtF x y c) ms 0 j l hz
      rw [Nat.zero_add] at hg
      rw [upd_same, take_more hg, List.map_append]
      rfl
  rintro H19 ⟨s19, eG⟩
  rw [List.take_of_length_le (by rw [prodZ_len, hml]; exact Nat.le_refl _)] at eG
  refine ⟨G, _, rfl, .inl (.inl eG), _, rfl, Z, _, rfl, .inl (.inl (s19 _ _ eZ18)), _, _, 240, rfl, sumW_pos hr0 hc1, sumW_bound hr0 hc, by decide, fun du H20 s20 nd Rd => ?_⟩
  have ecost2 : costR x y ms = Rat.divInt (prodZ (wtF x y c) 0 ms).sum (sumW (wtF x y c) c) := by
    unfold costR
    rw [hml]
  have Rd : RatAt K H20 du (costR x y ms) := by
    rw [ecost2]
    exact Rd
  have S20 := s19.trans s20
  refine ⟨_, rfl, _, rfl, T2, r, x, y, ms, rfl, hT2 S20, hL2, hR2 S20, hr0, fun c2 H21 s21 nc2 Rc2 => ?_⟩
  refine ⟨_, rfl, _, _, ratD (costR x y ms), 4, rfl, rfl, dp_rat Rc2, dp_rat (Rd.same s21), ok_rat 3 _, fun H22 s22 => ⟨_, rfl, iteF ?_⟩⟩
  have S22 := S20.trans (s21.trans s22)
  have L22 := L18.same S22
  refine ⟨_, rfl, T2, ms, rfl, hT2 S22, hL2, fun hr T3 H23 o ho s23 eT3 => ?_, fun hr H23 s23 => ?_⟩
  · refine ⟨_, rfl, iteND (fun z => by cases z) ?_⟩
    have hle : costR x y ls ≤ costR x y ms := by
      rw [ecost, ecost2, eM]
      refine div_le (sumW_pos hr0 hc1) (sumW_pos hr0 hc1) ?_
      exact Int.mul_le_mul_of_nonneg_right (best_least hp1 hpq B hml hmb hr) (Int.le_of_lt (sumW_pos hr0 hc1))
    refine ⟨_, rfl, _, rfl, lr, du, _, _, 240, 240, rfl, Rl18.same (S22.trans s23), Rd.same (s21.trans (s22.trans s23)), bd_cost hr0 hL, bd_cost hr0 hL2, by decide, ?_⟩
    rw [decide_eq_true hle]
    exact ⟨_, rfl, iteF ⟨_, _, _, _, _, _, _, _, _, _, rfl, L22.same s23⟩⟩
  · exact ⟨_, rfl, iteNF rfl (iteF ⟨_, _, _, _, _, _, _, _, _, _, rfl, L22.same s23⟩)⟩
end
end St
namespace St
open PySem PySem.Spec PyProof.Rows L2
theorem all_mk {l : PySem.W.OpenLaw} {w : World} {K : PySem.W.Frag} {h : Heap} {mg : Str → Option Value} {fa : Addr} (X : K.In h) (G : h.Ns mainGlobals mg) (hfa : mg "law" = some (.ref fa))
    {f0 : Addr} {od0 an0 : Option Addr} {sl0 : Array (Option Value)} {oc0 kV0 dc0 pm0 cd0 ct0 : Value}
    (a0 : PySem.W.nsIn K mainGlobals "_law_mix" = some (some (.ref f0))) (l0 : K.lookup f0 = some ⟨oc0, od0, .func (PySem.W.fnOf "_law_mix" "_law_mix" (defArgs s__law_mix) (defBody s__law_mix) (defScope s__law_mix) .none kV0 dc0 pm0 an0 cd0 ct0), sl0⟩) (c0 : PySem.W.codeIn K cd0 "_law_mix" = true) (k0 : PySem.W.keepIn K (.ref f0) = true)
    {f1 : Addr} {od1 an1 : Option Addr} {sl1 : Array (Option Value)} {oc1 kV1 dc1 pm1 cd1 ct1 : Value}
    (a1 : PySem.W.nsIn K mainGlobals "is_integer" = some (some (.ref f1))) (l1 : K.lookup f1 = some ⟨oc1, od1, .func (PySem.W.fnOf "is_integer" "is_integer" (defArgs s_is_integer) (defBody s_is_integer) (defScope s_is_integer) .none kV1 dc1 pm1 an1 cd1 ct1), sl1⟩) (c1 : PySem.W.codeIn K cd1 "is_integer" = true) (k1 : PySem.W.keepIn K (.ref f1) = true)
    {f2 : Addr} {od2 an2 : Option Addr} {sl2 : Array (Option Value)} {oc2 kV2 dc2 pm2 cd2 ct2 : Value}
    (a2 : PySem.W.nsIn K mainGlobals "check_lengths" = some (some (.ref f2))) (l2 : K.lookup f2 = some ⟨oc2, od2, .func (PySem.W.fnOf "check_lengths" "check_lengths" (defArgs s_check_lengths) (defBody s_check_lengths) (defScope s_check_lengths) .none kV2 dc2 pm2 an2 cd2 ct2), sl2⟩) (c2 : PySem.W.codeIn K cd2 "check_lengths" = true) (k2 : PySem.W.keepIn K (.ref f2) = true)
    {f3 : Addr} {od3 an3 : Option Addr} {sl3 : Array (Option Value)} {oc3 kV3 dc3 pm3 cd3 ct3 : Value}
    (a3 : PySem.W.nsIn K mainGlobals "is_ratio" = some (some (.ref f3))) (l3 : K.lookup f3 = some ⟨oc3, od3, .func (PySem.W.fnOf "is_ratio" "is_ratio" (defArgs s_is_ratio) (defBody s_is_ratio) (defScope s_is_ratio) .none kV3 dc3 pm3 an3 cd3 ct3), sl3⟩) (c3 : PySem.W.codeIn K cd3 "is_ratio" = true) (k3 : PySem.W.keepIn K (.ref f3) = true)
    {f4 : Addr} {od4 an4 : Option Addr} {sl4 : Array (Option Value)} {oc4 kV4 dc4 pm4 cd4 ct4 : Value}
    (a4 : PySem.W.nsIn K mainGlobals "check_ratio" = some (some (.ref f4))) (l4 : K.lookup f4 = some ⟨oc4, od4, .func (PySem.W.fnOf "check_ratio" "check_ratio" (defArgs s_check_ratio) (defBody s_check_ratio) (defScope s_check_ratio) .none kV4 dc4 pm4 an4 cd4 ct4), sl4⟩) (c4 : PySem.W.codeIn K cd4 "check_ratio" = true) (k4 : PySem.W.keepIn K (.ref f4) = true)
    {f5 : Addr} {od5 an5 : Option Addr} {sl5 : Array (Option Value)} {oc5 kV5 dc5 pm5 cd5 ct5 : Value}
    (a5 : PySem.W.nsIn K mainGlobals "chance_weights" = some (some (.ref f5))) (l5 : K.lookup f5 = some ⟨oc5, od5, .func (PySem.W.fnOf "chance_weights" "chance_weights" (defArgs s_chance_weights) (defBody s_chance_weights) (defScope s_chance_weights) .none kV5 dc5 pm5 an5 cd5 ct5), sl5⟩) (c5 : PySem.W.codeIn K cd5 "chance_weights" = true) (k5 : PySem.W.keepIn K (.ref f5) = true)
    {f6 : Addr} {od6 an6 : Option Addr} {sl6 : Array (Option Value)} {oc6 kV6 dc6 pm6 cd6 ct6 : Value}
    (a6 : PySem.W.nsIn K mainGlobals "divisor" = some (some (.ref f6))) (l6 : K.lookup f6 = some ⟨oc6, od6, .func (PySem.W.fnOf "divisor" "divisor" (defArgs s_divisor) (defBody s_divisor) (defScope s_divisor) .none kV6 dc6 pm6 an6 cd6 ct6), sl6⟩) (c6 : PySem.W.codeIn K cd6 "divisor" = true) (k6 : PySem.W.keepIn K (.ref f6) = true)
    {f7 : Addr} {od7 an7 : Option Addr} {sl7 : Array (Option Value)} {oc7 kV7 dc7 pm7 cd7 ct7 : Value}
    (a7 : PySem.W.nsIn K mainGlobals "fraction" = some (some (.ref f7))) (l7 : K.lookup f7 = some ⟨oc7, od7, .func (PySem.W.fnOf "fraction" "fraction" (defArgs s_fraction) (defBody s_fraction) (defScope s_fraction) .none kV7 dc7 pm7 an7 cd7 ct7), sl7⟩) (c7 : PySem.W.codeIn K cd7 "fraction" = true) (k7 : PySem.W.keepIn K (.ref f7) = true)
    {f8 : Addr} {od8 an8 : Option Addr} {sl8 : Array (Option Value)} {oc8 kV8 dc8 pm8 cd8 ct8 : Value}
    (a8 : PySem.W.nsIn K mainGlobals "cost" = some (some (.ref f8))) (l8 : K.lookup f8 = some ⟨oc8, od8, .func (PySem.W.fnOf "cost" "cost" (defArgs s_cost) (defBody s_cost) (defScope s_cost) .none kV8 dc8 pm8 an8 cd8 ct8), sl8⟩) (c8 : PySem.W.codeIn K cd8 "cost" = true) (k8 : PySem.W.keepIn K (.ref f8) = true)
    {f9 : Addr} {od9 an9 : Option Addr} {sl9 : Array (Option Value)} {oc9 kV9 dc9 pm9 cd9 ct9 : Value}
    (a9 : PySem.W.nsIn K mainGlobals "_law_frac" = some (some (.ref f9))) (l9 : K.lookup f9 = some ⟨oc9, od9, .func (PySem.W.fnOf "_law_frac" "_law_frac" (defArgs s__law_frac) (defBody s__law_frac) (defScope s__law_frac) .none kV9 dc9 pm9 an9 cd9 ct9), sl9⟩) (c9 : PySem.W.codeIn K cd9 "_law_frac" = true) (k9 : PySem.W.keepIn K (.ref f9) = true)
    {f10 : Addr} {od10 an10 : Option Addr} {sl10 : Array (Option Value)} {oc10 kV10 dc10 pm10 cd10 ct10 : Value}
    (a10 : PySem.W.nsIn K mainGlobals "_law_next" = some (some (.ref f10))) (l10 : K.lookup f10 = some ⟨oc10, od10, .func (PySem.W.fnOf "_law_next" "_law_next" (defArgs s__law_next) (defBody s__law_next) (defScope s__law_next) .none kV10 dc10 pm10 an10 cd10 ct10), sl10⟩) (c10 : PySem.W.codeIn K cd10 "_law_next" = true) (k10 : PySem.W.keepIn K (.ref f10) = true)
    {f11 : Addr} {od11 an11 : Option Addr} {sl11 : Array (Option Value)} {oc11 kV11 dc11 pm11 cd11 ct11 : Value}
    (a11 : PySem.W.nsIn K mainGlobals "_law_pick" = some (some (.ref f11))) (l11 : K.lookup f11 = some ⟨oc11, od11, .func (PySem.W.fnOf "_law_pick" "_law_pick" (defArgs s__law_pick) (defBody s__law_pick) (defScope s__law_pick) .none kV11 dc11 pm11 an11 cd11 ct11), sl11⟩) (c11 : PySem.W.codeIn K cd11 "_law_pick" = true) (k11 : PySem.W.keepIn K (.ref f11) = true)
    {f12 : Addr} {od12 an12 : Option Addr} {sl12 : Array (Option Value)} {oc12 kV12 dc12 pm12 cd12 ct12 : Value}
    (a12 : PySem.W.nsIn K mainGlobals "_law_ratio" = some (some (.ref f12))) (l12 : K.lookup f12 = some ⟨oc12, od12, .func (PySem.W.fnOf "_law_ratio" "_law_ratio" (defArgs s__law_ratio) (defBody s__law_ratio) (defScope s__law_ratio) .none kV12 dc12 pm12 an12 cd12 ct12), sl12⟩) (c12 : PySem.W.codeIn K cd12 "_law_ratio" = true) (k12 : PySem.W.keepIn K (.ref f12) = true)
    {f13 : Addr} {od13 an13 : Option Addr} {sl13 : Array (Option Value)} {oc13 kV13 dc13 pm13 cd13 ct13 : Value}
    (a13 : PySem.W.nsIn K mainGlobals "_law_weights" = some (some (.ref f13))) (l13 : K.lookup f13 = some ⟨oc13, od13, .func (PySem.W.fnOf "_law_weights" "_law_weights" (defArgs s__law_weights) (defBody s__law_weights) (defScope s__law_weights) .none kV13 dc13 pm13 an13 cd13 ct13), sl13⟩) (c13 : PySem.W.codeIn K cd13 "_law_weights" = true) (k13 : PySem.W.keepIn K (.ref f13) = true)
    {f14 : Addr} {od14 an14 : Option Addr} {sl14 : Array (Option Value)} {oc14 kV14 dc14 pm14 cd14 ct14 : Value}
    (a14 : PySem.W.nsIn K mainGlobals "check_count" = some (some (.ref f14))) (l14 : K.lookup f14 = some ⟨oc14, od14, .func (PySem.W.fnOf "check_count" "check_count" (defArgs s_check_count) (defBody s_check_count) (defScope s_check_count) .none kV14 dc14 pm14 an14 cd14 ct14), sl14⟩) (c14 : PySem.W.codeIn K cd14 "check_count" = true) (k14 : PySem.W.keepIn K (.ref f14) = true)
    {f15 : Addr} {od15 an15 : Option Addr} {sl15 : Array (Option Value)} {oc15 kV15 dc15 pm15 cd15 ct15 : Value}
    (a15 : PySem.W.nsIn K mainGlobals "best_lengths" = some (some (.ref f15))) (l15 : K.lookup f15 = some ⟨oc15, od15, .func (PySem.W.fnOf "best_lengths" "best_lengths" (defArgs s_best_lengths) (defBody s_best_lengths) (defScope s_best_lengths) .none kV15 dc15 pm15 an15 cd15 ct15), sl15⟩) (c15 : PySem.W.codeIn K cd15 "best_lengths" = true) (k15 : PySem.W.keepIn K (.ref f15) = true)
    {f16 : Addr} {od16 an16 : Option Addr} {sl16 : Array (Option Value)} {oc16 kV16 dc16 pm16 cd16 ct16 : Value}
    (a16 : PySem.W.nsIn K mainGlobals "_law_alike" = some (some (.ref f16))) (l16 : K.lookup f16 = some ⟨oc16, od16, .func (PySem.W.fnOf "_law_alike" "_law_alike" (defArgs s__law_alike) (defBody s__law_alike) (defScope s__law_alike) .none kV16 dc16 pm16 an16 cd16 ct16), sl16⟩) (c16 : PySem.W.codeIn K cd16 "_law_alike" = true) (k16 : PySem.W.keepIn K (.ref f16) = true)
    {f17 : Addr} {od17 an17 : Option Addr} {sl17 : Array (Option Value)} {oc17 kV17 dc17 pm17 cd17 ct17 : Value}
    (a17 : PySem.W.nsIn K mainGlobals "power_of_two" = some (some (.ref f17))) (l17 : K.lookup f17 = some ⟨oc17, od17, .func (PySem.W.fnOf "power_of_two" "power_of_two" (defArgs s_power_of_two) (defBody s_power_of_two) (defScope s_power_of_two) .none kV17 dc17 pm17 an17 cd17 ct17), sl17⟩) (c17 : PySem.W.codeIn K cd17 "power_of_two" = true) (k17 : PySem.W.keepIn K (.ref f17) = true)
    {f18 : Addr} {od18 an18 : Option Addr} {sl18 : Array (Option Value)} {oc18 kV18 dc18 pm18 cd18 ct18 : Value}
    (a18 : PySem.W.nsIn K mainGlobals "room_left" = some (some (.ref f18))) (l18 : K.lookup f18 = some ⟨oc18, od18, .func (PySem.W.fnOf "room_left" "room_left" (defArgs s_room_left) (defBody s_room_left) (defScope s_room_left) .none kV18 dc18 pm18 an18 cd18 ct18), sl18⟩) (c18 : PySem.W.codeIn K cd18 "room_left" = true) (k18 : PySem.W.keepIn K (.ref f18) = true)
    {f19 : Addr} {od19 an19 : Option Addr} {sl19 : Array (Option Value)} {oc19 kV19 dc19 pm19 cd19 ct19 : Value}
    (a19 : PySem.W.nsIn K mainGlobals "is_whole" = some (some (.ref f19))) (l19 : K.lookup f19 = some ⟨oc19, od19, .func (PySem.W.fnOf "is_whole" "is_whole" (defArgs s_is_whole) (defBody s_is_whole) (defScope s_is_whole) .none kV19 dc19 pm19 an19 cd19 ct19), sl19⟩) (c19 : PySem.W.codeIn K cd19 "is_whole" = true) (k19 : PySem.W.keepIn K (.ref f19) = true)
    {f20 : Addr} {od20 an20 : Option Addr} {sl20 : Array (Option Value)} {oc20 kV20 dc20 pm20 cd20 ct20 : Value}
    (a20 : PySem.W.nsIn K mainGlobals "figures" = some (some (.ref f20))) (l20 : K.lookup f20 = some ⟨oc20, od20, .func (PySem.W.fnOf "figures" "figures" (defArgs s_figures) (defBody s_figures) (defScope s_figures) .none kV20 dc20 pm20 an20 cd20 ct20), sl20⟩) (c20 : PySem.W.codeIn K cd20 "figures" = true) (k20 : PySem.W.keepIn K (.ref f20) = true)
    {f21 : Addr} {od21 an21 : Option Addr} {sl21 : Array (Option Value)} {oc21 kV21 dc21 pm21 cd21 ct21 : Value}
    (a21 : PySem.W.nsIn K mainGlobals "book" = some (some (.ref f21))) (l21 : K.lookup f21 = some ⟨oc21, od21, .func (PySem.W.fnOf "book" "book" (defArgs s_book) (defBody s_book) (defScope s_book) .none kV21 dc21 pm21 an21 cd21 ct21), sl21⟩) (c21 : PySem.W.codeIn K cd21 "book" = true) (k21 : PySem.W.keepIn K (.ref f21) = true)
    {f22 : Addr} {od22 an22 : Option Addr} {sl22 : Array (Option Value)} {oc22 kV22 dc22 pm22 cd22 ct22 : Value}
    (a22 : PySem.W.nsIn K mainGlobals "_law_book" = some (some (.ref f22))) (l22 : K.lookup f22 = some ⟨oc22, od22, .func (PySem.W.fnOf "_law_book" "_law_book" (defArgs s__law_book) (defBody s__law_book) (defScope s__law_book) .none kV22 dc22 pm22 an22 cd22 ct22), sl22⟩) (c22 : PySem.W.codeIn K cd22 "_law_book" = true) (k22 : PySem.W.keepIn K (.ref f22) = true)
    {f23 : Addr} {od23 an23 : Option Addr} {sl23 : Array (Option Value)} {oc23 kV23 dc23 pm23 cd23 ct23 : Value}
    (a23 : PySem.W.nsIn K mainGlobals "_law_most" = some (some (.ref f23))) (l23 : K.lookup f23 = some ⟨oc23, od23, .func (PySem.W.fnOf "_law_most" "_law_most" (defArgs s__law_most) (defBody s__law_most) (defScope s__law_most) .none kV23 dc23 pm23 an23 cd23 ct23), sl23⟩) (c23 : PySem.W.codeIn K cd23 "_law_most" = true) (k23 : PySem.W.keepIn K (.ref f23) = true)
    {f24 : Addr} {od24 an24 : Option Addr} {sl24 : Array (Option Value)} {oc24 kV24 dc24 pm24 cd24 ct24 : Value}
    (a24 : PySem.W.nsIn K mainGlobals "_law_merged" = some (some (.ref f24))) (l24 : K.lookup f24 = some ⟨oc24, od24, .func (PySem.W.fnOf "_law_merged" "_law_merged" (defArgs s__law_merged) (defBody s__law_merged) (defScope s__law_merged) .none kV24 dc24 pm24 an24 cd24 ct24), sl24⟩) (c24 : PySem.W.codeIn K cd24 "_law_merged" = true) (k24 : PySem.W.keepIn K (.ref f24) = true)
    {f25 : Addr} {od25 an25 : Option Addr} {sl25 : Array (Option Value)} {oc25 kV25 dc25 pm25 cd25 ct25 : Value}
    (a25 : PySem.W.nsIn K mainGlobals "law" = some (some (.ref f25))) (l25 : K.lookup f25 = some ⟨oc25, od25, .func (PySem.W.fnOf "law" "law" (defArgs s_law) (defBody s_law) (defScope s_law) .none kV25 dc25 pm25 an25 cd25 ct25), sl25⟩) (c25 : PySem.W.codeIn K cd25 "law" = true) (k25 : PySem.W.keepIn K (.ref f25) = true)
    {tk0 : Tok} (n0 : PySem.W.nsIn K mainGlobals "MOST_COUNT" = some (some (.int 40 tk0)))
    {tk1 : Tok} (n1 : PySem.W.nsIn K mainGlobals "MOST_LENGTH" = some (some (.int 60 tk1)))
    {tk2 : Tok} (n2 : PySem.W.nsIn K mainGlobals "MOST_PARTS" = some (some (.int 30 tk2)))
    {U0 : Addr} (un0 : PySem.W.nsIn K mainGlobals "NoBook" = some (some (.ref U0))) (uq0 : PySem.W.excIn K U0 [.type "ValueError", .type "Exception", .type "BaseException", .type "object"] "ValueError.__new__" = true) (uk0 : PySem.W.keepIn K (.ref U0) = true) (ub0 : PySem.W.subIn K (.ref U0) (.type "BaseException") = some true) (ut0 : PySem.W.typeIn K (.ref U0) = some (.type "type")) (ud0 : PySem.W.hasDictIn K U0 = true) (us0 : PySem.W.subIn K (.ref U0) (.ref U0) = some true)
    {U1 : Addr} (un1 : PySem.W.nsIn K mainGlobals "StepError" = some (some (.ref U1))) (uq1 : PySem.W.excIn K U1 [.type "ValueError", .type "Exception", .type "BaseException", .type "object"] "ValueError.__new__" = true) (uk1 : PySem.W.keepIn K (.ref U1) = true) (ub1 : PySem.W.subIn K (.ref U1) (.type "BaseException") = some true) (ut1 : PySem.W.typeIn K (.ref U1) = some (.type "type")) (ud1 : PySem.W.hasDictIn K U1 = true) (us1 : PySem.W.subIn K (.ref U1) (.ref U1) = some true)
    (eg0 : PySem.W.findIn K (.ref U0) "__getattribute__" = some (some (.builtin "BaseException.__getattribute__"))) (ek0 : PySem.W.findIn K (.ref U0) "__getattr__" = some none) (ea0 : PySem.W.findIn K (.ref U0) "__class__" = some (some (.builtin "object.__class__"))) (en0 : PySem.W.specialIn K (.builtin "object.__class__") "__get__" = some (some (.builtin "getset_descriptor.__get__"))) (et0 : PySem.W.takesIn K (.builtin "object.__class__") = some true) (em0 : PySem.W.mroIn K U0 (.type "object") = some true)
    (kt0_1 : PySem.W.subIn K (.ref U0) (.ref U1) = some true)
    (z_isinstance : PySem.W.nsIn K mainGlobals "isinstance" = some none)
    (z_int : PySem.W.nsIn K mainGlobals "int" = some none)
    (z_bool : PySem.W.nsIn K mainGlobals "bool" = some none)
    (z_str : PySem.W.nsIn K mainGlobals "str" = some none)
    (z_tuple : PySem.W.nsIn K mainGlobals "tuple" = some none)
    (z_list : PySem.W.nsIn K mainGlobals "list" = some none)
    (z_len : PySem.W.nsIn K mainGlobals "len" = some none)
    (z_range : PySem.W.nsIn K mainGlobals "range" = some none)
    (z_abs : PySem.W.nsIn K mainGlobals "abs" = some none)
    (z_min : PySem.W.nsIn K mainGlobals "min" = some none)
    (z_max : PySem.W.nsIn K mainGlobals "max" = some none)
    (z_sum : PySem.W.nsIn K mainGlobals "sum" = some none)
    (z_sorted : PySem.W.nsIn K mainGlobals "sorted" = some none)
    (z_enumerate : PySem.W.nsIn K mainGlobals "enumerate" = some none)
    (z_zip : PySem.W.nsIn K mainGlobals "zip" = some none)
    (z_set : PySem.W.nsIn K mainGlobals "set" = some none)
    (z_any : PySem.W.nsIn K mainGlobals "any" = some none)
    (z_all : PySem.W.nsIn K mainGlobals "all" = some none)
    : ∃ fd : FuncData, (∀ (s : Shared) (v : Value), BindsTo s fd ⟨[v], []⟩ [("_law_script", v)]) ∧ ∀ base : Heap, K.In base → base.Ns mainGlobals mg → FnOk l.prog w K mg base CX0 6 fa fd ["_law_script"] (sp_law K) := by
  have e := hfa.symm.trans (PySem.W.mg_of X G a25)
  cases e
  have F0 := fun_mk (st := s__law_mix) l0 c0 k0
  have b0 := F0.binds (ps := ["_law_script", "_law_seed"]) fun _ _ _ _ _ _ us hl => match us, hl with | [_, _], _ => rfl
  have A0 : At K mg "_law_mix" s__law_mix ["_law_script", "_law_seed"] := ⟨_, _, F0, PySem.W.mg_of X G a0, b0⟩
  have F1 := fun_mk (st := s_is_integer) l1 c1 k1
  have b1 := F1.binds (ps := ["thing", "low", "high"]) fun _ _ _ _ _ _ us hl => match us, hl with | [_, _, _], _ => rfl
  have A1 : At K mg "is_integer" s_is_integer ["thing", "low", "high"] := ⟨_, _, F1, PySem.W.mg_of X G a1, b1⟩
  have F2 := fun_mk (st := s_check_lengths) l2 c2 k2
  have b2 := F2.binds (ps := ["thing"]) fun _ _ _ _ _ _ us hl => match us, hl with | [_], _ => rfl
  have A2 : At K mg "check_lengths" s_check_lengths ["thing"] := ⟨_, _, F2, PySem.W.mg_of X G a2, b2⟩
  have F3 := fun_mk (st := s_is_ratio) l3 c3 k3
  have b3 := F3.binds (ps := ["thing"]) fun _ _ _ _ _ _ us hl => match us, hl with | [_], _ => rfl
  have A3 : At K mg "is_ratio" s_is_ratio ["thing"] := ⟨_, _, F3, PySem.W.mg_of X G a3, b3⟩
  have F4 := fun_mk (st := s_check_ratio) l4 c4 k4
  have b4 := F4.binds (ps := ["thing"]) fun _ _ _ _ _ _ us hl => match us, hl with | [_], _ => rfl
  have A4 : At K mg "check_ratio" s_check_ratio ["thing"] := ⟨_, _, F4, PySem.W.mg_of X G a4, b4⟩
  have F5 := fun_mk (st := s_chance_weights) l5 c5 k5
  have b5 := F5.binds (ps := ["ratio", "count"]) fun _ _ _ _ _ _ us hl => match us, hl with | [_, _], _ => rfl
  have A5 : At K mg "chance_weights" s_chance_weights ["ratio", "count"] := ⟨_, _, F5, PySem.W.mg_of X G a5, b5⟩
  have F6 := fun_mk (st := s_divisor) l6 c6 k6
  have b6 := F6.binds (ps := ["one", "two"]) fun _ _ _ _ _ _ us hl => match us, hl with | [_, _], _ => rfl
  have A6 : At K mg "divisor" s_divisor ["one", "two"] := ⟨_, _, F6, PySem.W.mg_of X G a6, b6⟩
  have F7 := fun_mk (st := s_fraction) l7 c7 k7
  have b7 := F7.binds (ps := ["number", "parts"]) fun _ _ _ _ _ _ us hl => match us, hl with | [_, _], _ => rfl
  have A7 : At K mg "fraction" s_fraction ["number", "parts"] := ⟨_, _, F7, PySem.W.mg_of X G a7, b7⟩
  have F8 := fun_mk (st := s_cost) l8 c8 k8
  have b8 := F8.binds (ps := ["lengths", "ratio"]) fun _ _ _ _ _ _ us hl => match us, hl with | [_, _], _ => rfl
  have A8 : At K mg "cost" s_cost ["lengths", "ratio"] := ⟨_, _, F8, PySem.W.mg_of X G a8, b8⟩
  have F9 := fun_mk (st := s__law_frac) l9 c9 k9
  have b9 := F9.binds (ps := ["_law_number", "_law_parts"]) fun _ _ _ _ _ _ us hl => match us, hl with | [_, _], _ => rfl
  have A9 : At K mg "_law_frac" s__law_frac ["_law_number", "_law_parts"] := ⟨_, _, F9, PySem.W.mg_of X G a9, b9⟩
  have F10 := fun_mk (st := s__law_next) l10 c10 k10
  have b10 := F10.binds (ps := ["_law_h", "_law_cap"]) fun _ _ _ _ _ _ us hl => match us, hl with | [_, _], _ => rfl
  have A10 : At K mg "_law_next" s__law_next ["_law_h", "_law_cap"] := ⟨_, _, F10, PySem.W.mg_of X G a10, b10⟩
  have F11 := fun_mk (st := s__law_pick) l11 c11 k11
  have b11 := F11.binds (ps := ["_law_h", "_law_things"]) fun _ _ _ _ _ _ us hl => match us, hl with | [_, _], _ => rfl
  have A11 : At K mg "_law_pick" s__law_pick ["_law_h", "_law_things"] := ⟨_, _, F11, PySem.W.mg_of X G a11, b11⟩
  have F12 := fun_mk (st := s__law_ratio) l12 c12 k12
  have b12 := F12.binds (ps := ["_law_h"]) fun _ _ _ _ _ _ us hl => match us, hl with | [_], _ => rfl
  have A12 : At K mg "_law_ratio" s__law_ratio ["_law_h"] := ⟨_, _, F12, PySem.W.mg_of X G a12, b12⟩
  have F13 := fun_mk (st := s__law_weights) l13 c13 k13
  have b13 := F13.binds (ps := ["_law_ratio_here", "_law_count"]) fun _ _ _ _ _ _ us hl => match us, hl with | [_, _], _ => rfl
  have A13 : At K mg "_law_weights" s__law_weights ["_law_ratio_here", "_law_count"] := ⟨_, _, F13, PySem.W.mg_of X G a13, b13⟩
  have F14 := fun_mk (st := s_check_count) l14 c14 k14
  have b14 := F14.binds (ps := ["thing"]) fun _ _ _ _ _ _ us hl => match us, hl with | [_], _ => rfl
  have A14 : At K mg "check_count" s_check_count ["thing"] := ⟨_, _, F14, PySem.W.mg_of X G a14, b14⟩
  have F15 := fun_mk (st := s_best_lengths) l15 c15 k15
  have b15 := F15.binds (ps := ["ratio", "count"]) fun _ _ _ _ _ _ us hl => match us, hl with | [_, _], _ => rfl
  have A15 : At K mg "best_lengths" s_best_lengths ["ratio", "count"] := ⟨_, _, F15, PySem.W.mg_of X G a15, b15⟩
  have F16 := fun_mk (st := s__law_alike) l16 c16 k16
  have b16 := F16.binds (ps := ["_law_found", "_law_due"]) fun _ _ _ _ _ _ us hl => match us, hl with | [_, _], _ => rfl
  have A16 : At K mg "_law_alike" s__law_alike ["_law_found", "_law_due"] := ⟨_, _, F16, PySem.W.mg_of X G a16, b16⟩
  have F17 := fun_mk (st := s_power_of_two) l17 c17 k17
  have b17 := F17.binds (ps := ["times"]) fun _ _ _ _ _ _ us hl => match us, hl with | [_], _ => rfl
  have A17 : At K mg "power_of_two" s_power_of_two ["times"] := ⟨_, _, F17, PySem.W.mg_of X G a17, b17⟩
  have F18 := fun_mk (st := s_room_left) l18 c18 k18
  have b18 := F18.binds (ps := ["lengths"]) fun _ _ _ _ _ _ us hl => match us, hl with | [_], _ => rfl
  have A18 : At K mg "room_left" s_room_left ["lengths"] := ⟨_, _, F18, PySem.W.mg_of X G a18, b18⟩
  have F19 := fun_mk (st := s_is_whole) l19 c19 k19
  have b19 := F19.binds (ps := ["lengths"]) fun _ _ _ _ _ _ us hl => match us, hl with | [_], _ => rfl
  have A19 : At K mg "is_whole" s_is_whole ["lengths"] := ⟨_, _, F19, PySem.W.mg_of X G a19, b19⟩
  have F20 := fun_mk (st := s_figures) l20 c20 k20
  have b20 := F20.binds (ps := ["number", "many"]) fun _ _ _ _ _ _ us hl => match us, hl with | [_, _], _ => rfl
  have A20 : At K mg "figures" s_figures ["number", "many"] := ⟨_, _, F20, PySem.W.mg_of X G a20, b20⟩
  have F21 := fun_mk (st := s_book) l21 c21 k21
  have b21 := F21.binds (ps := ["lengths"]) fun _ _ _ _ _ _ us hl => match us, hl with | [_], _ => rfl
  have A21 : At K mg "book" s_book ["lengths"] := ⟨_, _, F21, PySem.W.mg_of X G a21, b21⟩
  have F22 := fun_mk (st := s__law_book) l22 c22 k22
  have b22 := F22.binds (ps := ["_law_lengths"]) fun _ _ _ _ _ _ us hl => match us, hl with | [_], _ => rfl
  have A22 : At K mg "_law_book" s__law_book ["_law_lengths"] := ⟨_, _, F22, PySem.W.mg_of X G a22, b22⟩
  have F23 := fun_mk (st := s__law_most) l23 c23 k23
  have b23 := F23.binds (ps := ["_law_one", "_law_two"]) fun _ _ _ _ _ _ us hl => match us, hl with | [_, _], _ => rfl
  have A23 : At K mg "_law_most" s__law_most ["_law_one", "_law_two"] := ⟨_, _, F23, PySem.W.mg_of X G a23, b23⟩
  have F24 := fun_mk (st := s__law_merged) l24 c24 k24
  have b24 := F24.binds (ps := ["_law_weights_here"]) fun _ _ _ _ _ _ us hl => match us, hl with | [_], _ => rfl
  have A24 : At K mg "_law_merged" s__law_merged ["_law_weights_here"] := ⟨_, _, F24, PySem.W.mg_of X G a24, b24⟩
  have F25 := fun_mk (st := s_law) l25 c25 k25
  have b25 := F25.binds (ps := ["_law_script"]) fun _ _ _ _ _ _ us hl => match us, hl with | [_], _ => rfl
  have A25 : At K mg "law" s_law ["_law_script"] := ⟨_, _, F25, PySem.W.mg_of X G a25, b25⟩
  have B : Bn mg := ⟨PySem.W.mg_none_of X G z_isinstance, PySem.W.mg_none_of X G z_int, PySem.W.mg_none_of X G z_bool, PySem.W.mg_none_of X G z_str, PySem.W.mg_none_of X G z_tuple, PySem.W.mg_none_of X G z_list, PySem.W.mg_none_of X G z_len, PySem.W.mg_none_of X G z_range, PySem.W.mg_none_of X G z_abs, PySem.W.mg_none_of X G z_min, PySem.W.mg_none_of X G z_max, PySem.W.mg_none_of X G z_sum, PySem.W.mg_none_of X G z_sorted, PySem.W.mg_none_of X G z_enumerate, PySem.W.mg_none_of X G z_zip, PySem.W.mg_none_of X G z_set, PySem.W.mg_none_of X G z_any, PySem.W.mg_none_of X G z_all⟩
  have N0 := PySem.W.mg_of X G n0
  have N1 := PySem.W.mg_of X G n1
  have N2 := PySem.W.mg_of X G n2
  have T0 : ∃ C, ExT K mg "NoBook" C := ⟨_, un0, PySem.W.mg_of X G un0, uq0, uk0, ub0, ut0, ud0, us0⟩
  have T1 : ∃ C, ExT K mg "StepError" C := ⟨_, un1, PySem.W.mg_of X G un1, uq1, uk1, ub1, ut1, ud1, us1⟩
  have E0 : ∀ C, ClsAt K "NoBook" C → ExcC K C := fun C hC => ClsAt.one un0 hC ▸ ⟨eg0, ek0, ub0, ud0, ea0, en0, et0, em0⟩
  have KT0_1 : ∀ C D, ClsAt K "NoBook" C → ClsAt K "StepError" D → PySem.W.kitOne K (.ref C) (.ref D) = some true := fun C D hC hD => ClsAt.one un0 hC ▸ ClsAt.one un1 hD ▸ kit_sub ud1 ut1 kt0_1
  refine ⟨PySem.W.fnOf "law" "law" (defArgs s_law) (defBody s_law) (defScope s_law) .none kV25 dc25 pm25 an25 cd25 ct25, fun s v => .of_eq rfl, fun base _ _ => ?_⟩
  have C0 : CalE l.prog w K mg base "_law_mix" ["_law_script", "_law_seed"] 1 (sp__law_mix K) := ok__law_mix A0 B
  have C1 : CalE l.prog w K mg base "is_integer" ["thing", "low", "high"] 1 (sp_is_integer K) := ok_is_integer A1 B
  have C2 : CalE l.prog w K mg base "check_lengths" ["thing"] 2 (sp_check_lengths K) := ok_check_lengths A2 B C1 ⟨_, N0, _, rfl⟩ ⟨_, N1, _, rfl⟩
  have C3 : CalE l.prog w K mg base "is_ratio" ["thing"] 2 (sp_is_ratio K) := ok_is_ratio A3 B C1 ⟨_, N2, _, rfl⟩
  have C4 : CalE l.prog w K mg base "check_ratio" ["thing"] 3 (sp_check_ratio K) := ok_check_ratio A4 B C3
  have C5 : CalE l.prog w K mg base "chance_weights" ["ratio", "count"] 1 (sp_chance_weights K) := ok_chance_weights A5 B
  have C6 : CalE l.prog w K mg base "divisor" ["one", "two"] 1 (sp_divisor K) := ok_divisor A6 B
  have C7 : CalE l.prog w K mg base "fraction" ["number", "parts"] 2 (sp_fraction K) := ok_fraction A7 B C6
  have C8 : CalE l.prog w K mg base "cost" ["lengths", "ratio"] 4 (sp_cost K) := ok_cost A8 B C2 C4 C5 C7
  have C9 : CalE l.prog w K mg base "_law_frac" ["_law_number", "_law_parts"] 1 (sp__law_frac K) := ok__law_frac A9 B
  have C10 : CalE l.prog w K mg base "_law_next" ["_law_h", "_law_cap"] 1 (sp__law_next K) := ok__law_next A10 B
  have C11 : CalE l.prog w K mg base "_law_pick" ["_law_h", "_law_things"] 2 (sp__law_pick K) := ok__law_pick A11 B C10
  have C12 : CalE l.prog w K mg base "_law_ratio" ["_law_h"] 3 (sp__law_ratio K) := ok__law_ratio A12 B C10 C11
  have C13 : CalE l.prog w K mg base "_law_weights" ["_law_ratio_here", "_law_count"] 1 (sp__law_weights K) := ok__law_weights A13 B
  have C14 : CalE l.prog w K mg base "check_count" ["thing"] 2 (sp_check_count K) := ok_check_count A14 B C1 ⟨_, N0, _, rfl⟩
  have C15 : CalE l.prog w K mg base "best_lengths" ["ratio", "count"] 4 (sp_best_lengths K) := ok_best_lengths A15 B C4 C14 C5
  have C16 : CalE l.prog w K mg base "_law_alike" ["_law_found", "_law_due"] 5 (sp__law_alike K) := ok__law_alike A16 B
  have C17 : CalE l.prog w K mg base "power_of_two" ["times"] 1 (sp_power_of_two K) := ok_power_of_two A17 B
  have C18 : CalE l.prog w K mg base "room_left" ["lengths"] 2 (sp_room_left K) := ok_room_left A18 B C17 ⟨_, N1, _, rfl⟩
  have C19 : CalE l.prog w K mg base "is_whole" ["lengths"] 3 (sp_is_whole K) := ok_is_whole A19 B C2 C18
  have C20 : CalE l.prog w K mg base "figures" ["number", "many"] 1 (sp_figures K) := ok_figures A20 B
  have C21 : CalX l.prog w K mg base "book" ["lengths"] 3 (sp_book K) := ok_book A21 B C2 C18 C20 C17 ⟨_, N1, _, rfl⟩ T0
  have C22 : CalE l.prog w K mg base "_law_book" ["_law_lengths"] 4 (sp__law_book K) := ok__law_book A22 B C21 T0 T1 E0 KT0_1
  have C23 : CalE l.prog w K mg base "_law_most" ["_law_one", "_law_two"] 1 (sp__law_most K) := ok__law_most A23 B
  have C24 : CalE l.prog w K mg base "_law_merged" ["_law_weights_here"] 1 (sp__law_merged K) := ok__law_merged A24 B
  exact ok_law F25 B C0 C12 C10 C11 C13 C15 C16 C8 C9 C24 C19 C22 C23
end St
open PySem PySem.W PyProof.Rows
set_option maxRecDepth 100000 in
set_option maxHeartbeats 0 in
theorem PySem.Challenge.cw_stepruns_k07_whole_finite_books_holds : PySem.Challenge.rw_stepruns_k07_whole_finite_books.Holds := by
  w_on; o_law; k_head; (case hw => w_witness2)
  k_fill
  refine L2.walk_of (l := PySem.Challenge.rw_stepruns_k07_whole_finite_books) (n := 63) (k := 6) (x := "_law_script") (CX := fun _ => L2.CX0) (sp := fun w => St.sp_law _) rfl (by decide) rfl ⟨rfl, by decide, by decide⟩ (fun w h Y => PySem.W.kIn_of Y) ?F (fun _ _ a ns hl _ hS => ⟨a, ns, rfl, hS, hl, fun _ => rfl⟩) (fun _ _ _ _ _ h => h)
  case F =>
    intro w mg fa h KX G hmg
    refine' St.all_mk KX G hmg ?a0 ?l0 ?c0 ?k0 ?a1 ?l1 ?c1 ?k1 ?a2 ?l2 ?c2 ?k2 ?a3 ?l3 ?c3 ?k3 ?a4 ?l4 ?c4 ?k4 ?a5 ?l5 ?c5 ?k5 ?a6 ?l6 ?c6 ?k6 ?a7 ?l7 ?c7 ?k7 ?a8 ?l8 ?c8 ?k8 ?a9 ?l9 ?c9 ?k9 ?a10 ?l10 ?c10 ?k10 ?a11 ?l11 ?c11 ?k11 ?a12 ?l12 ?c12 ?k12 ?a13 ?l13 ?c13 ?k13 ?a14 ?l14 ?c14 ?k14 ?a15 ?l15 ?c15 ?k15 ?a16 ?l16 ?c16 ?k16 ?a17 ?l17 ?c17 ?k17 ?a18 ?l18 ?c18 ?k18 ?a19 ?l19 ?c19 ?k19 ?a20 ?l20 ?c20 ?k20 ?a21 ?l21 ?c21 ?k21 ?a22 ?l22 ?c22 ?k22 ?a23 ?l23 ?c23 ?k23 ?a24 ?l24 ?c24 ?k24 ?a25 ?l25 ?c25 ?k25 ?n0 ?n1 ?n2 ?un0 ?uq0 ?uk0 ?ub0 ?ut0 ?ud0 ?us0 ?un1 ?uq1 ?uk1 ?ub1 ?ut1 ?ud1 ?us1 ?eg0 ?ek0 ?ea0 ?en0 ?et0 ?em0 ?kt0_1 ?z_isinstance ?z_int ?z_bool ?z_str ?z_tuple ?z_list ?z_len ?z_range ?z_abs ?z_min ?z_max ?z_sum ?z_sorted ?z_enumerate ?z_zip ?z_set ?z_any ?z_all
    (case a0 => k_is)
    (case l0 => k_is)
    (case c0 => k_is)
    (case k0 => k_is)
    (case a1 => k_is)
    (case l1 => k_is)
    (case c1 => k_is)
    (case k1 => k_is)
    (case a2 => k_is)
    (case l2 => k_is)
    (case c2 => k_is)
    (case k2 => k_is)
    (case a3 => k_is)
    (case l3 => k_is)
    (case c3 => k_is)
    (case k3 => k_is)
    (case a4 => k_is)
    (case l4 => k_is)
    (case c4 => k_is)
    (case k4 => k_is)
    (case a5 => k_is)
    (case l5 => k_is)
    (case c5 => k_is)
    (case k5 => k_is)
    (case a6 => k_is)
    (case l6 => k_is)
    (case c6 => k_is)
    (case k6 => k_is)
    (case a7 => k_is)
    (case l7 => k_is)
    (case c7 => k_is)
    (case k7 => k_is)
    (case a8 => k_is)
    (case l8 => k_is)
    (case c8 => k_is)
    (case k8 => k_is)
    (case a9 => k_is)
    (case l9 => k_is)
    (case c9 => k_is)
    (case k9 => k_is)
    (case a10 => k_is)
    (case l10 => k_is)
    (case c10 => k_is)
    (case k10 => k_is)
    (case a11 => k_is)
    (case l11 => k_is)
    (case c11 => k_is)
    (case k11 => k_is)
    (case a12 => k_is)
    (case l12 => k_is)
    (case c12 => k_is)
    (case k12 => k_is)
    (case a13 => k_is)
    (case l13 => k_is)
    (case c13 => k_is)
    (case k13 => k_is)
    (case a14 => k_is)
    (case l14 => k_is)
    (case c14 => k_is)
    (case k14 => k_is)
    (case a15 => k_is)
    (case l15 => k_is)
    (case c15 => k_is)
    (case k15 => k_is)
    (case a16 => k_is)
    (case l16 => k_is)
    (case c16 => k_is)
    (case k16 => k_is)
    (case a17 => k_is)
    (case l17 => k_is)
    (case c17 => k_is)
    (case k17 => k_is)
    (case a18 => k_is)
    (case l18 => k_is)
    (case c18 => k_is)
    (case k18 => k_is)
    (case a19 => k_is)
    (case l19 => k_is)
    (case c19 => k_is)
    (case k19 => k_is)
    (case a20 => k_is)
    (case l20 => k_is)
    (case c20 => k_is)
    (case k20 => k_is)
    (case a21 => k_is)
    (case l21 => k_is)
    (case c21 => k_is)
    (case k21 => k_is)
    (case a22 => k_is)
    (case l22 => k_is)
    (case c22 => k_is)
    (case k22 => k_is)
    (case a23 => k_is)
    (case l23 => k_is)
    (case c23 => k_is)
    (case k23 => k_is)
    (case a24 => k_is)
    (case l24 => k_is)
    (case c24 => k_is)
    (case k24 => k_is)
    (case a25 => k_is)
    (case l25 => k_is)
    (case c25 => k_is)
    (case k25 => k_is)
    (case n0 => k_is)
    (case n1 => k_is)
    (case n2 => k_is)
    (case un0 => k_is)
    (case uq0 => k_exc)
    (case uk0 => k_is)
    (case ub0 => k_is)
    (case ut0 => k_is)
    (case ud0 => k_is)
    (case us0 => k_is)
    (case un1 => k_is)
    (case uq1 => k_exc)
    (case uk1 => k_is)
    (case ub1 => k_is)
    (case ut1 => k_is)
    (case ud1 => k_is)
    (case us1 => k_is)
    (case eg0 => k_is)
    (case ek0 => k_is)
    (case ea0 => k_is)
    (case en0 => k_is)
    (case et0 => k_is)
    (case em0 => k_is)
    (case kt0_1 => k_is)
    (case z_isinstance => k_is)
    (case z_int => k_is)
    (case z_bool => k_is)
    (case z_str => k_is)
    (case z_tuple => k_is)
    (case z_list => k_is)
    (case z_len => k_is)
    (case z_range => k_is)
    (case z_abs => k_is)
    (case z_min => k_is)
    (case z_max => k_is)
    (case z_sum => k_is)
    (case z_sorted => k_is)
    (case z_enumerate => k_is)
    (case z_zip => k_is)
    (case z_set => k_is)
    (case z_any => k_is)
    (case z_all => k_is)
#print axioms PySem.Challenge.cw_stepruns_k07_whole_finite_books_holds
