import PyProof.Rows.All
import Wide.All
import OpenK.AllK
import Wide.FinOn
import HandS.ForMost
import HandS.ForExc
import HandS.Wide
import HandS.WideBits
import HandS.IsInst
import HandS.Codes
import HandS.TupAny
import HandS.TupLen
import HandS.Style
import HandS.Zip0
import HandS.TupSets
import HandS.Small
import HandS.ExcIs
import HandS.SortRule
import PyProof.Draws
import PyProof.EnumMake
import KE.SortData
import KE.DataMinMax
import KE.GoesMore
import KE.GoesEnum
import HandS.TupMul
import HandS.DictTup
import HandS.DictComp
import KE.KDictKeyed
import KE.KDictDisplayH
import PyProof.DictTable
import HandS.Deep
import HandS.SetFor
import HandS.Set
import PySem.Challenge.RW_stepruns_k08_whole_limited_books
set_option Elab.async false
set_option linter.all false
set_option maxRecDepth 100000
set_option maxHeartbeats 4000000
namespace St
open PySem PySem.Spec PyProof.Rows L2
/-! ### names that are still the built-ins -/
structure Bn (mg : Str → Option Value) : Prop where
  isinstance_ : mg "isinstance" = none
  int_ : mg "int" = none
  bool_ : mg "bool" = none
  str_ : mg "str" = none
  tuple_ : mg "tuple" = none
  list_ : mg "list" = none
  len_ : mg "len" = none
  range_ : mg "range" = none
  abs_ : mg "abs" = none
  min_ : mg "min" = none
  max_ : mg "max" = none
  sum_ : mg "sum" = none
  sorted_ : mg "sorted" = none
  enumerate_ : mg "enumerate" = none
  zip_ : mg "zip" = none
  set_ : mg "set" = none
  any_ : mg "any" = none
  all_ : mg "all" = none
/-- the def st stands as x -/
def At (K : PySem.W.Frag) (mg : Str → Option Value) (x : Str) (st : Stmt) (ps : List Str) : Prop :=
  ∃ f fd, Fun K x x st f fd ∧ mg x = some (.ref f) ∧ Binds K fd ps []
/-- a def that keeps its promise, ready to be called by its name -/
structure Cal (P : Program) (w : World) (K : PySem.W.Frag) (mg : Str → Option Value) (base : Heap) (x : Str) (ps : List Str) (k : Nat) (sp : Sp) (f : Addr) (fd : FuncData) : Prop where
  ok : FnOk P w K mg base CX0 k f fd ps sp
  g : mg x = some (.ref f)
  kp : PySem.W.keepIn K (.ref f) = true
  b : Binds K fd ps []
def CalE (P : Program) (w : World) (K : PySem.W.Frag) (mg : Str → Option Value) (base : Heap) (x : Str) (ps : List Str) (k : Nat) (sp : Sp) : Prop := ∃ f fd, Cal P w K mg base x ps k sp f fd
/-! ### heaps -/
theorem same_new {H : Hp} {p : Addr} (h : H p = none) (o : HO) : Same H (upd H p o) := fun b u q => by rw [upd_ne (ne_of_none q h)]; exact q
theorem Same.seqT {K : PySem.W.Frag} {H H' : Hp} {a : Addr} {xs : List V} (e : Same H H') (h : SqT K H a xs) : SqT K H' a xs := by
  rcases h with (h | ⟨o, h⟩) | h
  · exact .inl (.inl (e _ _ h))
  · exact .inl (.inr ⟨o, e _ _ h⟩)
  · exact .inr h
theorem tyL {K : PySem.W.Frag} {H : Hp} {a : Addr} {xs : List V} (h : SqL K H a xs) : TyX K H (.ref a) (.type "list") := by
  rcases h with (h | ⟨o, h⟩) | ⟨o, its, n, h, c, _⟩
  · exact .base (.lst h)
  · exact .base (.frz h)
  · exact .kList h c
theorem tyT {K : PySem.W.Frag} {H : Hp} {a : Addr} {xs : List V} (h : SqT K H a xs) : TyX K H (.ref a) (.type "tuple") := by
  rcases h with (h | ⟨o, h⟩) | ⟨o, its, n, h, c, _⟩
  · exact .base (.tup h)
  · exact .fTuple h
  · exact .kTuple h c
theorem SqL.new {K : PySem.W.Frag} {H : Hp} {p : Addr} {xs : List V} : SqL K (upd H p (.lst xs)) p xs := .inl (.inl upd_same)
theorem SqT.new {K : PySem.W.Frag} {H : Hp} {p : Addr} {xs : List V} : SqT K (upd H p (.tup xs)) p xs := .inl (.inl upd_same)
theorem ne_new {H : Hp} {a p : Addr} {o : HO} (h : H a = some o) (hp : H p = none) : p ≠ a := fun e => by rw [e, h] at hp; cases hp
theorem iteDT {p : Prop} [Decidable p] {A B : Prop} (h : p) (a : A) : if decide p = true then A else B := by
  rw [decide_eq_true h]
  exact iteT a
theorem iteDF {p : Prop} [Decidable p] {A B : Prop} (h : ¬ p) (b : B) : if decide p = true then A else B := by
  rw [decide_eq_false h]
  exact iteF b
theorem iteND {p : Prop} [Decidable p] {A B : Prop} (h : ¬ p) (a : A) : if (!decide p) = true then A else B := by
  rw [decide_eq_false h]
  exact iteT a
theorem iteNF {p : Prop} [Decidable p] {A B : Prop} (h : p) (b : B) : if (!decide p) = true then A else B := by
  rw [decide_eq_true h]
  exact iteF b
/-! ### ways that meet: what is left is shown once, for all that the ways may bring (G is read off the first way) -/
theorem joinT {R G : Prop} (main : G → R) (k : G) : R := main k
theorem joinG1 {α : Type} {R : Prop} {G : α → Prop} (C : α → Prop) (main : (∀ x, C x → G x) → R) (k : ∀ x, C x → G x) : R := main k
theorem joinG2 {α β : Type} {R : Prop} {G : α → β → Prop} (C : α → β → Prop) (main : (∀ x y, C x y → G x y) → R) (k : ∀ x y, C x y → G x y) : R := main k
theorem joinG3 {α β γ : Type} {R : Prop} {G : α → β → γ → Prop} (C : α → β → γ → Prop) (main : (∀ x y z, C x y z → G x y z) → R) (k : ∀ x y z, C x y z → G x y z) : R := main k
theorem joinG4 {α β γ δ : Type} {R : Prop} {G : α → β → γ → δ → Prop} (C : α → β → γ → δ → Prop) (main : (∀ x y z u, C x y z u → G x y z u) → R) (k : ∀ x y z u, C x y z u → G x y z u) : R := main k
theorem to_nx {i : Nat} {v : V} {σ σ' : List (Option V)} {H : Hp} {Q : List (Option V) → Hp → Prop} (e : σ.set i (some v) = σ') (h : Q σ' H) : gName i v σ H Q := by
  show Q (σ.set i (some v)) H
  rw [e]
  exact h
/-- the value written otherwise -/
theorem to_v {Q : VK} {v v' : V} {H : Hp} (e : v = v') (h : Q v' H) : Q v H := e ▸ h
/-- the heap written otherwise -/
theorem to_H {Q : VK} {v : V} {H H' : Hp} (e : H = H') (h : Q v H') : Q v H := e ▸ h
theorem to_next {D : Ends} {σ σ' : List (Option V)} {H : Hp} (e : σ = σ') (h : D.nx σ' H) : tNext D σ H := by
  show D.nx σ H
  rw [e]
  exact h
/-! ### data of lists, tuples, numbers, texts -/
/-- data no deeper than n, no list of it too long -/
def OkD : Nat → PyData → Prop
  | _, .none => True | _, .bool _ => True | _, .int _ => True | _, .str _ => True
  | n + 1, .list ds => ds.length ≤ 1000000 ∧ ∀ d ∈ ds, OkD n d
  | n + 1, .tuple ds => ds.length ≤ 1000000 ∧ ∀ d ∈ ds, OkD n d
  | _, _ => False
theorem okA_nil {n : Nat} : ∀ d ∈ ([] : List PyData), OkD n d := fun d h => by cases h
theorem okA_cons {n : Nat} {a : PyData} {l : List PyData} (h : OkD n a) (t : ∀ d ∈ l, OkD n d) : ∀ d ∈ a :: l, OkD n d := fun d hd => by
  rcases List.mem_cons.mp hd with e | hd
  · exact e ▸ h
  · exact t d hd
theorem okd_list {n : Nat} {ds : List PyData} (h : ds.length ≤ 1000000) (t : ∀ d ∈ ds, OkD n d) : OkD (n + 1) (.list ds) := ⟨h, t⟩
theorem okd_tuple {n : Nat} {ds : List PyData} (h : ds.length ≤ 1000000) (t : ∀ d ∈ ds, OkD n d) : OkD (n + 1) (.tuple ds) := ⟨h, t⟩
theorem okA_strs {n : Nat} (ws : List Str) : ∀ d ∈ ws.map PyData.str, OkD n d := fun d hd => by
  obtain ⟨x, _, rfl⟩ := List.mem_map.mp hd
  cases n <;> trivial
theorem okA_ints {n : Nat} (ws : List Int) : ∀ d ∈ ws.map PyData.int, OkD n d := fun d hd => by
  obtain ⟨x, _, rfl⟩ := List.mem_map.mp hd
  cases n <;> trivial
theorem DpAll.length {K : PySem.W.Frag} {H : Hp} : ∀ {xs : List V} {ds : List PyData}, DpAll K H xs ds → xs.length = ds.length
  | _, _, .nil => rfl
  | _, _, .cons _ t => congrArg (· + 1) (DpAll.length t)
theorem DpAll.of {K : PySem.W.Frag} {H : Hp} : ∀ {xs : List V} {ds : List PyData}, xs.length = ds.length → (∀ (i : Nat) x d, xs[i]? = some x → ds[i]? = some d → Dp K H x d) → DpAll K H xs ds
  | [], [], _, _ => .nil
  | [], _ :: _, h, _ => by cases h
  | _ :: _, [], h, _ => by cases h
  | x :: xs, d :: ds, h, k => .cons (k 0 x d rfl rfl) (DpAll.of (by simpa using h) fun i y e h1 h2 => k (i + 1) y e (by simpa using h1) (by simpa using h2))
theorem DpAll.get {K : PySem.W.Frag} {H : Hp} : ∀ {xs : List V} {ds : List PyData} {i : Nat} {d : PyData}, DpAll K H xs ds → ds[i]? = some d → ∃ x, xs[i]? = some x ∧ Dp K H x d
  | _, _, _, _, .nil, e => by simp at e
  | _, _, 0, _, .cons h _, e => by
    cases Option.some.inj (by simpa using e)
    exact ⟨_, rfl, h⟩
  | _, _, i + 1, _, .cons _ t, e => by
    obtain ⟨x, h1, h2⟩ := DpAll.get (i := i) t (by simpa using e)
    exact ⟨x, by simpa using h1, h2⟩
mutual
theorem Dp.same {K : PySem.W.Frag} {H H' : Hp} (s : Same H H') : ∀ {v : V} {d : PyData}, Dp K H v d → Dp K H' v d
  | _, _, .non => .non
  | _, _, .bl b => .bl b
  | _, _, .int i => .int i
  | _, _, .str x => .str x
  | _, _, .lst h t => .lst (s.seq h) (DpAll.same s t)
  | _, _, .tup h t => .tup (St.Same.seqT s h) (DpAll.same s t)
theorem DpAll.same {K : PySem.W.Frag} {H H' : Hp} (s : Same H H') : ∀ {v : List V} {d : List PyData}, DpAll K H v d → DpAll K H' v d
  | _, _, .nil => .nil
  | _, _, .cons h t => .cons (Dp.same s h) (DpAll.same s t)
end
def isTL : PyData → Bool
  | .list _ => true | .tuple _ => true | _ => false
/-- a list or tuple of data, opened -/
theorem Dp.seq {K : PySem.W.Frag} {H : Hp} {v : V} {d : PyData} (h : Dp K H v d) (hd : isTL d = true) : ∃ (a : Addr) (xs : List V) (ds : List PyData), v = .ref a ∧ (d = .list ds ∧ SqL K H a xs ∨ d = .tuple ds ∧ SqT K H a xs) ∧ DpAll K H xs ds := by
  cases h with
  | lst h t => exact ⟨_, _, _, rfl, .inl ⟨rfl, h⟩, t⟩
  | tup h t => exact ⟨_, _, _, rfl, .inr ⟨rfl, h⟩, t⟩
  | non => cases hd
  | bl => cases hd
  | int => cases hd
  | str => cases hd
theorem canAll {n : Nat} : ∀ ds : List PyData, (∀ d ∈ ds, d.canLay0 = true ∧ d.depth ≤ n) → PyData.canLayAll0 ds = true ∧ PyData.depthAll ds ≤ n
  | [], _ => ⟨by simp only [PyData.canLayAll0], by simp only [PyData.depthAll]; omega⟩
  | d :: ds, h => by
    obtain ⟨a, b⟩ := h d List.mem_cons_self
    obtain ⟨c, e⟩ := canAll ds fun x hx => h x (List.mem_cons_of_mem _ hx)
    refine ⟨?_, ?_⟩
    · simp only [PyData.canLayAll0]
      rw [a, c]
      rfl
    · simp only [PyData.depthAll]
      omega
/-- as OkD, the texts of plain signs -/
def OkN : Nat → PyData → Prop
  | _, .none => True | _, .bool _ => True | _, .int _ => True | _, .str x => PyData.strOk x = true
  | n + 1, .list ds => ∀ d ∈ ds, OkN n d
  | n + 1, .tuple ds => ∀ d ∈ ds, OkN n d
  | _, _ => False
theorem ok_can : ∀ (n : Nat) (d : PyData), OkN n d → d.canLay0 = true ∧ d.depth ≤ n
  | _, .none, _ => ⟨by simp only [PyData.canLay0], by simp only [PyData.depth]; omega⟩
  | _, .bool _, _ => ⟨by simp only [PyData.canLay0], by simp only [PyData.depth]; omega⟩
  | _, .int _, _ => ⟨by simp only [PyData.canLay0], by simp only [PyData.depth]; omega⟩
  | n, .str x, h => by
    have h' : PyData.strOk x = true := by cases n <;> exact h
    exact ⟨by simp only [PyData.canLay0]; exact h', by simp only [PyData.depth]; omega⟩
  | n + 1, .list ds, h => by
    obtain ⟨a, b⟩ := canAll ds fun d hd => ok_can n d (h d hd)
    exact ⟨by simp only [PyData.canLay0]; exact a, by simp only [PyData.depth]; omega⟩
  | n + 1, .tuple ds, h => by
    obtain ⟨a, b⟩ := canAll ds fun d hd => ok_can n d (h d hd)
    exact ⟨by simp only [PyData.canLay0]; exact a, by simp only [PyData.depth]; omega⟩
  | 0, .list _, h => h.elim
  | 0, .tuple _, h => h.elim
  | 0, .dict _, h => h.elim
  | _ + 1, .dict _, h => h.elim
theorem ok_shaped {n : Nat} {d : PyData} (h : OkN n d) (hn : n ≤ 60) : SeqAt.shaped d = true := by
  obtain ⟨a, b⟩ := ok_can n d h
  unfold SeqAt.shaped
  rw [a, decide_eq_true (by omega)]
  rfl
theorem eqv_nil (ds : List PyData) : PyData.eqv (.list ds) (.list []) = ds.isEmpty := by
  cases ds <;> rfl
/-! ### a text times a number -/
def repS (x : Str) (n : Nat) : Str := ⟨((List.replicate n x.cps.toList).flatten).toArray⟩
theorem repS_one (x : Str) : repS x 1 = x := by
  unfold repS
  simp
theorem fold_app (l : List (Array Nat)) (a : Array Nat) : (l.foldl (· ++ ·) a).toList = a.toList ++ (l.map Array.toList).flatten := by
  induction l generalizing a with
  | nil => simp
  | cons x r ih => simp [List.foldl_cons, ih, List.append_assoc]
section
variable {X : Cx}
theorem op_mul_str : OpR X (binaryOp .Mult) (fun x y H Q => ∃ z n, x = .str z ∧ y = .int n ∧ n < 2 ^ 62 ∧ -(2 ^ 62) < n ∧ z.length * n.toNat ≤ 1000000 ∧ Q (.str (repS z n.toNat)) H) := by
  intro pins s σ H x y v u Q I rx ry h
  obtain ⟨z, n, rfl, rfl, h1, h2, h3, q⟩ := h
  obtain ⟨t, rfl⟩ := rx
  obtain ⟨t', rfl⟩ := ry
  refine P.mul_str (by
    have a : ¬ n < -(2 ^ 63) := by omega
    have b : ¬ n ≥ 2 ^ 63 := by omega
    rw [decide_eq_false a, decide_eq_false b]; rfl) (fun hn _ hb => ?_) (fun hn _ => ?_) ?_
  · have hp : 0 < n := by omega
    have e1 : (z.length : Int) * n ≤ 1000000 := by
      have e0 : ((n.toNat : Nat) : Int) = n := Int.toNat_of_nonneg (by omega)
      have e4 : ((z.length * n.toNat : Nat) : Int) ≤ 1000000 := Int.ofNat_le.mpr h3
      rw [Int.natCast_mul, e0] at e4
      exact e4
    have e2 : (2 ^ 63 - 1) / n < (z.length : Int) := hb
    have e3 : (2 ^ 63 - 1 : Int) < z.length * n := (Int.ediv_lt_iff_lt_mul hp).mp e2
    generalize (z.length : Int) * n = w at e1 e3
    omega
  · refine decide_eq_false ?_
    have z : sizeLine = 16777216 := sizeLine_eq
    omega
  · by_cases hn : n < 1
    · rw [if_pos hn]
      refine ⟨by decide, ?_⟩
      have e : n.toNat = 0 := by omega
      rw [e] at q
      exact ⟨.str _, H, I.tok _, ⟨_, rfl⟩, q⟩
    · rw [if_neg hn]
      by_cases hm : (n == 1 || z.length == 0) = true
      · rw [if_pos hm]
        have e : repS z n.toNat = z := by
          rw [Bool.or_eq_true] at hm
          rcases hm with hm | hm
          · have : n = 1 := by simpa using hm
            subst this
            exact repS_one z
          · have hz : z.cps.size = 0 := by simpa [Str.length] using hm
            obtain ⟨c⟩ := z
            have : c = #[] := Array.eq_empty_of_size_eq_zero hz
            subst this
            unfold repS
            simp
        rw [e] at q
        exact ⟨.str _, H, I, ⟨_, rfl⟩, q⟩
      · rw [if_neg hm]
        have e : (⟨(List.replicate n.toNat z.cps).foldl (· ++ ·) #[]⟩ : Str) = repS z n.toNat := by
          unfold repS
          congr 1
          apply Array.toList_inj.mp
          rw [fold_app]
          simp [List.map_replicate]
        rw [e]
        refine ⟨?_, ⟨.str _, H, I.tok _, ⟨_, rfl⟩, q⟩⟩
        rw [← e]
        refine fits_reps (decide_eq_false ?_)
        have z : sizeLine = 16777216 := sizeLine_eq
        omega
theorem ip_add_str : PIp X .Add (fun x y H Q => ∃ i j, x = .str i ∧ y = .str j ∧ i.length + j.length ≤ sizeLine ∧ Q (.str (i ++ j)) H) := iop_add_str
end
/-! ### walks over a text -/
theorem lc_str {x : Str} {g : TG} {tt : TT} {te : TE} {vs : List Nat} {σ : List (Option V)} {H1 : Hp} {D : Addr} {Qd : Hp → Prop} (Pv : Nat → Hp → Prop) (h0 : Pv 0 (upd H1 D (.lst [])))
    (hs : ∀ i c H, x.cps.toList[i]? = some c → Pv i H → g (.str ⟨#[c]⟩) (wipe σ vs) H fun σ2 H2 => wipe σ2 vs = wipe σ vs ∧ tt σ2 H2 fun b H3 =>
      if b = true then te σ2 H3 fun y H4 => ∃ acc, H4 D = some (.lst acc) ∧ acc.length < sizeLine ∧ Pv (i + 1) (upd H4 D (.lst (acc ++ [y]))) else Pv (i + 1) H3) (hd : ∀ H, Pv x.cps.size H → Qd H) :
    ∃ W : Nat → Nat → Hp → Prop, (∃ m, W 0 m (upd H1 D (.lst []))) ∧ ∀ i m H, W i m H →
      ((Its x).stop i H ∧ Qd H) ∨ ((Its x).go i H ∧ ∃ Nx : Hp → Prop, (∀ H', Nx H' → ∃ m', m' < m ∧ W (i + 1) m' H') ∧ ∀ v H', (Its x).yld i H v H' → g v (wipe σ vs) H' fun σ2 H2 => wipe σ2 vs = wipe σ vs ∧ tt σ2 H2 fun b H3 =>
        if b = true then te σ2 H3 fun y H4 => ∃ acc, H4 D = some (.lst acc) ∧ acc.length < sizeLine ∧ Nx (upd H4 D (.lst (acc ++ [y]))) else Nx H3) := by
  refine ⟨fun i m H => m = x.cps.size - i ∧ i ≤ x.cps.size ∧ Pv i H, ⟨x.cps.size, by simp, Nat.zero_le _, h0⟩, ?_⟩
  rintro i m H ⟨rfl, hi, p⟩
  by_cases hlt : i < x.cps.size
  · refine .inr ⟨hlt, Pv (i + 1), fun H' p' => ⟨x.cps.size - (i + 1), by omega, rfl, hlt, p'⟩, fun v H' y => ?_⟩
    obtain ⟨e, c, ec, ev⟩ := y
    subst e ev
    exact hs i c _ (by rw [Array.getElem?_toList]; exact ec) p
  · have e : i = x.cps.size := by omega
    subst e
    exact .inl ⟨Nat.le_refl _, hd H p⟩
theorem for_str {x : Str} {g : TG} {tb : TS} {D : Ends} {σ : List (Option V)} {H : Hp} (Pv : Nat → List (Option V) → Hp → Prop) (h0 : Pv 0 σ H)
    (hs : ∀ i c σ H, x.cps.toList[i]? = some c → Pv i σ H → g (.str ⟨#[c]⟩) σ H fun σ2 H2 => tb { D with nx := Pv (i + 1), ct := Pv (i + 1), bk := D.nx } σ2 H2) (hd : ∀ σ H, Pv x.cps.size σ H → D.nx σ H) :
    ∃ W : Nat → Nat → List (Option V) → Hp → Prop, (∃ m, W 0 m σ H) ∧ ∀ i m σ H, W i m σ H →
      ((Its x).stop i H ∧ D.nx σ H) ∨ ((Its x).go i H ∧ ∃ N : List (Option V) → Hp → Prop, (∀ σ' H', N σ' H' → ∃ m', m' < m ∧ W (i + 1) m' σ' H') ∧ ∀ v H', (Its x).yld i H v H' → g v σ H' fun σ2 H2 => tb { D with nx := N, ct := N, bk := D.nx } σ2 H2) := by
  refine ⟨fun i m σ H => m = x.cps.size - i ∧ i ≤ x.cps.size ∧ Pv i σ H, ⟨x.cps.size, by simp, Nat.zero_le _, h0⟩, ?_⟩
  rintro i m σ H ⟨rfl, hi, p⟩
  by_cases hlt : i < x.cps.size
  · refine .inr ⟨hlt, Pv (i + 1), fun σ' H' p' => ⟨x.cps.size - (i + 1), by omega, rfl, hlt, p'⟩, fun v H' y => ?_⟩
    obtain ⟨e, c, ec, ev⟩ := y
    subst e ev
    exact hs i c σ _ (by rw [Array.getElem?_toList]; exact ec) p
  · have e : i = x.cps.size := by omega
    subst e
    exact .inl ⟨Nat.le_refl _, hd σ H p⟩
theorem cutV_from (xs : List V) (k : Nat) : cutV xs (some (k : Int)) none = xs.drop k := by
  unfold cutV
  rw [HT.sIx_nat, HT.sIx_none]
  by_cases h : k ≤ xs.length
  · rw [Nat.min_eq_left h, List.take_of_length_le (by rw [List.length_drop]; exact Nat.le_refl _)]
  · rw [Nat.min_eq_right (by omega), List.drop_eq_nil_of_le (Nat.le_refl _), List.drop_eq_nil_of_le (by omega), List.take_nil]
/-! ### the rules with the written part K by name (within a comprehension X.K is not read off) -/
section
variable {X : Cx} (K : PySem.W.Frag)
theorem ix_list_ (h : X.K = K := by rfl) : IxR X (rIxL K) := h ▸ ix_list
theorem ix_tup_ (h : X.K = K := by rfl) : IxR X (rIxT K) := h ▸ ix_tup
theorem ix_seq_ (h : X.K = K := by rfl) : IxR X (rIx K) := h ▸ ix_seq
theorem sl_list_ (h : X.K = K := by rfl) : SlR X (rSlL K) := h ▸ sl_list
theorem sl_tupA_ (h : X.K = K := by rfl) : SlR X (rSlA K) := h ▸ sl_tupA
def rLenV (K : PySem.W.Frag) : List V → Hp → VK → Prop := fun xs H Q => ∃ x n, xs = [x] ∧ LenV K x H n ∧ Q (.int (n : Nat)) H
theorem call_len_ (h : X.K = K := by rfl) : CallR X (.builtin "len") (rLenV K) := h ▸ call_len
def rLenQ (K : PySem.W.Frag) : List V → Hp → VK → Prop := fun xs H Q => ∃ p ys, xs = [.ref p] ∧ (SqL K H p ys ∨ SqT K H p ys) ∧ Q (.int ys.length) H
theorem call_len_seq_ (h : X.K = K := by rfl) : CallR X (.builtin "len") (rLenQ K) := h ▸ call_len_seq
def rLenS : List V → Hp → VK → Prop := fun xs H Q => ∃ z, xs = [.str z] ∧ z.length ≤ sizeLine ∧ Q (.int z.length) H
theorem call_len_str_ : CallR X (.builtin "len") rLenS := call_len_str
theorem call_isi_ (h : X.K = K := by rfl) : CallR X (.builtin "isinstance") (rIsi K) := h ▸ call_isi
theorem call_isiT_ (h : X.K = K := by rfl) : CallR X (.builtin "isinstance") (rIsiT K) := h ▸ call_isiT
theorem cr_sum_ (hc : X.calm = true) (h : X.K = K := by rfl) : CallR X (.builtin "sum") (rSum K) := h ▸ cr_sum hc
theorem cr_max_ (hc : X.calm = true) (h : X.K = K := by rfl) : CallR X (.builtin "max") (rMax K) := h ▸ cr_max hc
theorem cr_min_ (hc : X.calm = true) (h : X.K = K := by rfl) : CallR X (.builtin "min") (rMin K) := h ▸ cr_min hc
theorem cr_all_ (hc : X.calm = true) (h : X.K = K := by rfl) : CallR X (.builtin "all") (rAll K) := h ▸ cr_all hc
theorem cr_any_ (hc : X.calm = true) (h : X.K = K := by rfl) : CallR X (.builtin "any") (rAny K) := h ▸ cr_any hc
def rTupOf (K : PySem.W.Frag) : List V → Hp → VK → Prop := fun xs H Q => ∃ p ys, xs = [.ref p] ∧ ((SqL K H p ys ∧ ∀ l, H l = none → Q (.ref l) (upd H l (.tup ys))) ∨ (SqT K H p ys ∧ Q (.ref p) H))
theorem call_tuple_of_ (h : X.K = K := by rfl) : CallR X (.type "tuple") (rTupOf K) := h ▸ call_tuple_of
def rListOf (K : PySem.W.Frag) : List V → Hp → VK → Prop := fun xs H Q => ∃ p ys, xs = [.ref p] ∧ (SqL K H p ys ∨ SqT K H p ys) ∧ ∀ l, H l = none → Q (.ref l) (upd H l (.lst ys))
theorem call_list_of_ (h : X.K = K := by rfl) : CallR X (.type "list") (rListOf K) := h ▸ call_list_of
theorem op_eqD_ (hu : X.A.units + 64 < cLine) (h : X.K = K := by rfl) : OpR X (compareOp .Eq) (rEqD K) := h ▸ op_eqD hu
theorem op_neD_ (hu : X.A.units + 64 < cLine) (h : X.K = K := by rfl) : OpR X (compareOp .NotEq) (rNeD K) := h ▸ op_neD hu
theorem op_in_seq_ (h : X.K = K := by rfl) : OpR X (compareOp .In) (rIn K false) := h ▸ op_in_seq
theorem op_notIn_seq_ (h : X.K = K := by rfl) : OpR X (compareOp .NotIn) (rIn K true) := h ▸ op_notIn_seq
def rJoinK (K : PySem.W.Frag) : V → List V → Hp → VK → Prop := fun x xs H Q => ∃ a p, ∃ ys : List Str, x = .str a ∧ xs = [.ref p] ∧ (SqL K H p (ys.map V.str) ∨ SqT K H p (ys.map V.str)) ∧ (ys.map (·.length)).sum + ys.length * a.length ≤ 16777216 ∧ Q (.str (Txt.join a ys)) H
theorem pe_join_ {o e : Expr} {to te : TE} {apos pos : Pos} (ho : PE X o to) (he : PE X e te) (hK : X.K = K := by rfl) (hs : starEach [e] X.env = [(false, eval e X.env)] := by rfl) (hbase : attributeBase o "join" X.env (eval o X.env) = eval o X.env := by rfl) (hline : (apos.endLine == pos.line) = true := by rfl) :
    PE X (.Call (.Attribute o "join" apos) [e] [] pos) (tM1 (rJoinK K) to te) := hK ▸ pe_join ho he hs hbase hline
theorem pi_tup_ {tg l : Expr} {tl : TE} (hl : PE X l tl) (h : X.K = K := by rfl) : PI X tg l (iTup K tl) := h ▸ pi_tup hl
theorem pi_list_ {tg l : Expr} {tl : TE} (hl : PE X l tl) (h : X.K = K := by rfl) : PI X tg l (iList K tl) := h ▸ pi_list hl
theorem op_catA_ (h : X.K = K := by rfl) : OpR X (binaryOp .Add) (rCatA K) := h ▸ op_catA
end
/-! ### what the law's own draws keep -/
/-- a source of draws: at h a list of a number, a list of numbers at q, a number -/
structure LawH (H : Hp) (h q : Addr) : Prop where
  ne : h ≠ q
  src : ∃ (st ix : Int) (cells : List Int), H h = some (.lst [.int st, .ref q, .int ix]) ∧ H q = some (.lst (cells.map V.int)) ∧ cells.length ≤ 1000
/-- all but the source stands as it was -/
def Sm (h q : Addr) (H H' : Hp) : Prop := ∀ b o, H b = some o → b ≠ h → b ≠ q → H' b = some o
theorem Sm.refl (h q : Addr) (H : Hp) : Sm h q H H := fun _ _ e _ _ => e
theorem Sm.trans {h q : Addr} {H H1 H2 : Hp} (a : Sm h q H H1) (b : Sm h q H1 H2) : Sm h q H H2 := fun c o e n m => b c o (a c o e n m) n m
theorem Sm.of {h q : Addr} {H H' : Hp} (a : Same H H') : Sm h q H H' := fun c o e _ _ => a c o e
theorem Sm.seq {K : PySem.W.Frag} {h q : Addr} {H H' : Hp} {a : Addr} {xs : List V} (e : Sm h q H H') (n1 : a ≠ h) (n2 : a ≠ q) (z : SqL K H a xs) : SqL K H' a xs := by
  rcases z with (z | ⟨o, z⟩) | z
  · exact .inl (.inl (e _ _ z n1 n2))
  · exact .inl (.inr ⟨o, e _ _ z n1 n2⟩)
  · exact .inr z
theorem Sm.seqT {K : PySem.W.Frag} {h q : Addr} {H H' : Hp} {a : Addr} {xs : List V} (e : Sm h q H H') (n1 : a ≠ h) (n2 : a ≠ q) (z : SqT K H a xs) : SqT K H' a xs := by
  rcases z with (z | ⟨o, z⟩) | z
  · exact .inl (.inl (e _ _ z n1 n2))
  · exact .inl (.inr ⟨o, e _ _ z n1 n2⟩)
  · exact .inr z
theorem LawH.same {H H' : Hp} {h q : Addr} (L : LawH H h q) (a : Same H H') : LawH H' h q := by
  obtain ⟨n, st, ix, cells, e1, e2, e3⟩ := L
  exact ⟨n, st, ix, cells, a _ _ e1, a _ _ e2, e3⟩
theorem LawH.nn {H : Hp} {h q : Addr} (L : LawH H h q) : H h ≠ Option.none ∧ H q ≠ Option.none := by
  obtain ⟨n, st, ix, cells, e1, e2, e3⟩ := L
  exact ⟨fun z => by (rw [e1] at z; cases z), fun z => by (rw [e2] at z; cases z)⟩
theorem LawH.tup_ne {H : Hp} {h q t : Addr} {xs : List V} (L : LawH H h q) (e : H t = some (.tup xs)) : t ≠ h ∧ t ≠ q := by
  obtain ⟨n, st, ix, cells, e1, e2, e3⟩ := L
  exact ⟨fun z => by (rw [z, e1] at e; cases e), fun z => by (rw [z, e2] at e; cases e)⟩
theorem LawH.updL {H : Hp} {h q D : Addr} {l : List V} (L : LawH H h q) (n1 : D ≠ h) (n2 : D ≠ q) : LawH (upd H D (.lst l)) h q := by
  obtain ⟨ne, st, ix, cells, a, b, d⟩ := L
  exact ⟨ne, st, ix, cells, by rw [upd_ne (Ne.symm n1)]; exact a, by rw [upd_ne (Ne.symm n2)]; exact b, d⟩
theorem SqT.updL {K : PySem.W.Frag} {H : Hp} {a D : Addr} {xs l l' : List V} (e : H D = some (.lst l)) (z : SqT K H a xs) : SqT K (upd H D (.lst l')) a xs := by
  rcases z with (z | ⟨o, z⟩) | z
  · exact .inl (.inl (by rw [upd_ne (fun y => by rw [y, e] at z; cases z)]; exact z))
  · exact .inl (.inr ⟨o, by rw [upd_ne (fun y => by rw [y, e] at z; cases z)]; exact z⟩)
  · exact .inr z
end St
namespace St
open PySem PySem.Spec PyProof.Rows L2
/-! ### fractions: a tuple (number, parts) in lowest terms stands for a Rat -/
def RatAt (K : PySem.W.Frag) (H : Hp) (a : Addr) (r : Rat) : Prop := SqT K H a [.int r.num, .int (r.den : Int)]
theorem RatAt.same {K : PySem.W.Frag} {H H' : Hp} {a : Addr} {r : Rat} (s : Same H H') (h : RatAt K H a r) : RatAt K H' a r := Same.seqT s h
theorem frac_num {n d : Int} (hd : 0 < d) : (Rat.divInt n d).num = n / (Int.gcd n d : Int) := by
  rw [Rat.num_divInt, Int.sign_eq_one_of_pos hd, Int.one_mul, Int.gcd_comm]
theorem frac_den {n d : Int} (hd : 0 < d) : ((Rat.divInt n d).den : Int) = d / (Int.gcd n d : Int) := by
  have h0 : d ≠ 0 := Int.ne_of_gt hd
  rw [Rat.den_divInt, if_neg h0, Int.natCast_ediv, Int.gcd_comm]
  congr 1
  omega
theorem rat_eq (r : Rat) : r = (r.num : Rat) / ((r.den : Int) : Rat) := by
  rw [← Rat.divInt_eq_div, Rat.num_divInt_den]
theorem den_pos (r : Rat) : (0 : Int) < (r.den : Int) := Int.ofNat_lt.mpr r.den_pos
theorem den_ne (r : Rat) : (r.den : Int) ≠ 0 := Int.ne_of_gt (den_pos r)
theorem rat_add (r s : Rat) : Rat.divInt (r.num * s.den + s.num * r.den) (r.den * s.den) = r + s := by
  rw [← Rat.divInt_add_divInt _ _ (den_ne r) (den_ne s), Rat.num_divInt_den, Rat.num_divInt_den]
theorem rat_sub (r s : Rat) : Rat.divInt (r.num * s.den - s.num * r.den) (r.den * s.den) = r - s := by
  rw [← Rat.divInt_sub_divInt _ _ (den_ne r) (den_ne s), Rat.num_divInt_den, Rat.num_divInt_den]
theorem rat_mul (r s : Rat) : Rat.divInt (r.num * s.num) (r.den * s.den) = r * s := by
  rw [← Rat.divInt_mul_divInt, Rat.num_divInt_den, Rat.num_divInt_den]
theorem cast_ne {z : Int} (h : z ≠ 0) : (z : Rat) ≠ 0 := fun e => h (Rat.intCast_inj.mp (by rw [e]; rfl))
theorem rat_quot (r s : Rat) (h : s.num ≠ 0) : Rat.divInt (r.num * s.den) (r.den * s.num) = r / s := by
  have h1 := cast_ne (den_ne r)
  have h2 := cast_ne (den_ne s)
  have h3 := cast_ne h
  have e1 := rat_eq r
  have e2 := rat_eq s
  rw [Rat.divInt_eq_div, Rat.intCast_mul, Rat.intCast_mul]
  generalize (r.num : Rat) = a at *
  generalize ((r.den : Int) : Rat) = b at *
  generalize (s.num : Rat) = c at *
  generalize ((s.den : Int) : Rat) = d at *
  rw [e1, e2]
  grind
theorem rat_sum_le (r s : Rat) : (r.num * s.den + s.num * r.den ≤ r.den * s.den) ↔ r + s ≤ 1 := by
  have hp : (0 : Int) < r.den * s.den := Int.mul_pos (den_pos r) (den_pos s)
  have h1 : (0 : Rat) < ((r.den * s.den : Int) : Rat) := by
    have := Rat.intCast_lt_intCast.mpr hp
    simpa using this
  have e : 1 < r + s ↔ r.den * s.den < r.num * s.den + s.num * r.den := by
    rw [← rat_add r s, Rat.divInt_eq_div, Rat.lt_div_iff h1, Rat.one_mul, Rat.intCast_lt_intCast]
  constructor
  · intro h
    refine Rat.not_lt.mp fun z => ?_
    have := e.mp z
    omega
  · intro h
    refine Int.not_lt.mp fun z => ?_
    exact Rat.not_lt.mpr h (e.mpr z)
/-- how many figures of twos a fraction has at most -/
def Bd (r : Rat) (b : Nat) : Prop := r.num.natAbs < 2 ^ b ∧ r.den < 2 ^ b
theorem Bd.mono {r : Rat} {b c : Nat} (h : Bd r b) (hbc : b ≤ c) : Bd r c :=
  ⟨Nat.lt_of_lt_of_le h.1 (Nat.pow_le_pow_right (by decide) hbc), Nat.lt_of_lt_of_le h.2 (Nat.pow_le_pow_right (by decide) hbc)⟩
theorem Bd.frac {n d : Int} {b : Nat} (hd : 0 < d) (hn : n.natAbs < 2 ^ b) (h : d.natAbs < 2 ^ b) : Bd (Rat.divInt n d) b := by
  have e1 := frac_num (n := n) hd
  have e2 := frac_den (n := n) hd
  constructor
  · rw [e1]
    refine Nat.lt_of_le_of_lt ?_ hn
    rw [Int.natAbs_ediv_of_dvd (Int.gcd_dvd_left ..)]
    exact Nat.div_le_self _ _
  · have e3 : (Rat.divInt n d).den = (d / (Int.gcd n d : Int)).natAbs := by
      have := congrArg Int.natAbs e2
      simpa using this
    rw [e3, Int.natAbs_ediv_of_dvd (Int.gcd_dvd_right ..)]
    exact Nat.lt_of_le_of_lt (Nat.div_le_self _ _) h
theorem bd_mul {x y : Int} {b c : Nat} (h : x.natAbs < 2 ^ b) (h' : y.natAbs < 2 ^ c) : (x * y).natAbs < 2 ^ (b + c) := wide_lt h h'
theorem bd_add {x y : Int} {b : Nat} (h : x.natAbs < 2 ^ b) (h' : y.natAbs < 2 ^ b) : (x + y).natAbs < 2 ^ (b + 1) := by
  rw [Nat.pow_succ]
  omega
theorem bd_sub {x y : Int} {b : Nat} (h : x.natAbs < 2 ^ b) (h' : y.natAbs < 2 ^ b) : (x - y).natAbs < 2 ^ (b + 1) := by
  rw [Nat.pow_succ]
  omega
theorem bd_up {x : Int} {b c : Nat} (h : x.natAbs < 2 ^ b) (hbc : b ≤ c) : x.natAbs < 2 ^ c := Nat.lt_of_lt_of_le h (Nat.pow_le_pow_right (by decide) hbc)
theorem bd_den {r : Rat} {b : Nat} (h : Bd r b) : ((r.den : Int)).natAbs < 2 ^ b := by
  rw [Int.natAbs_natCast]
  exact h.2
theorem bd_w {x y : Int} {b c : Nat} (h : x.natAbs < 2 ^ b) (h' : y.natAbs < 2 ^ c) (h2 : b + c ≤ 900000) : CMulW x y :=
  wide_mul (a := b + 1) (b := c + 1) (bd_up h (by omega)) (bd_up h' (by omega)) (by omega) (by omega) (by omega)
theorem Bd.add {r s : Rat} {b c : Nat} (h : Bd r b) (h' : Bd s c) : Bd (r + s) (b + c + 1) := by
  rw [← rat_add r s]
  refine Bd.frac (Int.mul_pos (den_pos r) (den_pos s)) (bd_add (bd_mul h.1 (bd_den h')) (bd_up (bd_mul h'.1 (bd_den h)) (by omega))) (bd_up (bd_mul (bd_den h) (bd_den h')) (by omega))
theorem Bd.sub {r s : Rat} {b c : Nat} (h : Bd r b) (h' : Bd s c) : Bd (r - s) (b + c + 1) := by
  rw [← rat_sub r s]
  refine Bd.frac (Int.mul_pos (den_pos r) (den_pos s)) (bd_sub (bd_mul h.1 (bd_den h')) (bd_up (bd_mul h'.1 (bd_den h)) (by omega))) (bd_up (bd_mul (bd_den h) (bd_den h')) (by omega))
theorem Bd.mul {r s : Rat} {b c : Nat} (h : Bd r b) (h' : Bd s c) : Bd (r * s) (b + c) := by
  rw [← rat_mul r s]
  exact Bd.frac (Int.mul_pos (den_pos r) (den_pos s)) (bd_mul h.1 h'.1) (bd_mul (bd_den h) (bd_den h'))
theorem num_pos {r : Rat} (h : 0 < r) : 0 < r.num := by
  have := (Rat.lt_iff 0 r).mp h
  simpa using this
theorem Bd.quot {r s : Rat} {b c : Nat} (h : Bd r b) (h' : Bd s c) (hs : 0 < s) : Bd (r / s) (b + c) := by
  rw [← rat_quot r s (Int.ne_of_gt (num_pos hs))]
  exact Bd.frac (Int.mul_pos (den_pos r) (num_pos hs)) (bd_mul h.1 (bd_den h')) (bd_mul (bd_den h) h'.1)
/-- a ratio p / q of the document -/
structure IsRat (p q : Nat) : Prop where
  p1 : 1 ≤ p
  pq : p < q
  q30 : q ≤ 30
def rat (p q : Nat) : Rat := (p : Int) / (q : Int)
theorem rat_pow (p q : Nat) (h : 0 < q) (t : Nat) : Rat.divInt ((p : Int) ^ t) ((q : Int) ^ t) = rat p q ^ t := by
  have hq : (0 : Rat) < ((q : Int) : Rat) := Rat.intCast_pos.mpr (by omega)
  rw [Rat.divInt_eq_div, Rat.intCast_pow, Rat.intCast_pow]
  unfold rat
  generalize ((p : Int) : Rat) = a at *
  generalize ((q : Int) : Rat) = b at *
  have hb0 : b ≠ 0 := Rat.ne_of_gt hq
  induction t with
  | zero =>
    simp only [Rat.pow_zero]
    grind
  | succ t ih =>
    have hb : b ^ t ≠ 0 := Rat.ne_of_gt (Rat.pow_pos hq)
    rw [Rat.pow_succ, Rat.pow_succ, Rat.pow_succ, ← ih]
    grind
theorem pow_small {p t : Nat} (h : p ≤ 30) : ((p : Int) ^ t).natAbs < 2 ^ (5 * t + 1) := by
  rw [Int.natAbs_pow, Int.natAbs_natCast]
  refine Nat.lt_of_le_of_lt (Nat.pow_le_pow_left (show p ≤ 2 ^ 5 by omega) t) ?_
  rw [← Nat.pow_mul]
  exact Nat.pow_lt_pow_right (by decide) (by omega)
theorem Bd.pow {p q : Nat} (hp : p ≤ 30) (hq : q ≤ 30) (h : 0 < q) (t : Nat) : Bd (rat p q ^ t) (5 * t + 1) := by
  rw [← rat_pow p q h t]
  exact Bd.frac (Int.pow_pos (by omega)) (pow_small hp) (pow_small hq)
def FitsR (x : Rat) (s : Nat) : Prop := x ^ s + x ^ (s + 1) ≤ 1
instance (x : Rat) (s : Nat) : Decidable (FitsR x s) := by unfold FitsR; infer_instance
end St
namespace St
open PySem PySem.Spec PyProof.Rows L2
/-! ### texts of the signs 0 and 1, words by a step -/
def sg (b : Bool) : Nat := if b then 49 else 48
theorem sg_inj {a b : Bool} (h : sg a = sg b) : a = b := by
  cases a <;> cases b <;> first | rfl | (exact absurd h (by decide))
/-- the text of some signs -/
def tx (l : List Bool) : Str := ⟨(l.map sg).toArray⟩
theorem tx_list (l : List Bool) : (tx l).cps.toList = l.map sg := by simp [tx]
theorem tx_len (l : List Bool) : (tx l).length = l.length := by simp [tx, Str.length]
theorem str_ext {a b : Str} (h : a.cps.toList = b.cps.toList) : a = b := by
  obtain ⟨a⟩ := a
  obtain ⟨b⟩ := b
  exact congrArg Str.mk (Array.toList_inj.mp h)
theorem app_list (a b : Str) : (a ++ b).cps.toList = a.cps.toList ++ b.cps.toList := by
  show (Str.append a b).cps.toList = _
  unfold Str.append
  simp
theorem tx_app (a b : List Bool) : tx a ++ tx b = tx (a ++ b) := by
  apply str_ext
  rw [app_list, tx_list, tx_list, tx_list, List.map_append]
theorem tx_inj {a b : List Bool} (h : tx a = tx b) : a = b := by
  have e : a.map sg = b.map sg := by rw [← tx_list, ← tx_list, h]
  exact (List.map_inj_right (fun _ _ h => sg_inj h)).mp e
theorem tx_one : ("1" : Str) = tx [true] := by decide +kernel
theorem tx_zero : ("0" : Str) = tx [false] := by decide +kernel
theorem tx_nil : ("" : Str) = tx [] := by decide +kernel
theorem tx_rep (b : Bool) (n : Nat) : repS (tx [b]) n = tx (List.replicate n b) := by
  apply str_ext
  unfold repS
  rw [tx_list]
  simp only [tx_list, List.map_replicate]
  induction n with
  | zero => rfl
  | succ n ih =>
    rw [List.replicate_succ, List.flatten_cons, ih, List.replicate_succ]
    rfl
/-- so many figures of a number by twos, the highest first -/
def fig (n : Nat) : Nat → List Bool
  | 0 => []
  | k + 1 => (n / 2 ^ k % 2 == 1) :: fig n k
theorem fig_len (n k : Nat) : (fig n k).length = k := by
  induction k with
  | zero => rfl
  | succ k ih => rw [fig, List.length_cons, ih]
/-- what figures are worth -/
def worth : List Bool → Nat
  | [] => 0
  | b :: r => (if b then 2 ^ r.length else 0) + worth r
theorem worth_fig (n k : Nat) : worth (fig n k) = n % 2 ^ k := by
  induction k with
  | zero => simp [fig, worth, Nat.mod_one]
  | succ k ih =>
    rw [fig, worth, ih, fig_len, Nat.pow_succ, Nat.mod_mul]
    have := Nat.mod_two_eq_zero_or_one (n / 2 ^ k)
    rcases this with h | h <;> rw [h] <;> simp <;> omega
theorem worth_lt (l : List Bool) : worth l < 2 ^ l.length := by
  induction l with
  | nil => simp [worth]
  | cons b r ih =>
    rw [worth, List.length_cons, Nat.pow_succ]
    split <;> omega
/-- the least number of figures for all rests -/
def wideN (m : Nat) : Nat := if m ≤ 1 then 0 else Nat.log2 (m - 1) + 1
theorem wide_le (m : Nat) : m ≤ 2 ^ wideN m := by
  unfold wideN
  split
  · omega
  · have := Nat.lt_log2_self (n := m - 1)
    omega
theorem wideN_lt (m d : Nat) (h : d < wideN m) : 2 ^ d < m := by
  unfold wideN at h
  split at h
  · omega
  · have h1 := Nat.log2_self_le (n := m - 1) (by omega)
    have h2 : 2 ^ d ≤ 2 ^ (m - 1).log2 := Nat.pow_le_pow_right (by decide) (by omega)
    omega
theorem wide_eq {m c : Nat} (h1 : m ≤ 2 ^ c) (h2 : ∀ d, d < c → 2 ^ d < m) : wideN m = c := by
  rcases Nat.lt_trichotomy (wideN m) c with h | h | h
  · have a := h2 _ h
    have b := wide_le m
    omega
  · exact h
  · have a := wideN_lt m c h
    omega
theorem wide_64 {m : Nat} (h : m ≤ 64) : wideN m ≤ 6 := by
  refine Nat.not_lt.mp fun c => ?_
  have := wideN_lt m 6 c
  omega
def shortN (m : Nat) : Nat := 2 ^ wideN m - m
theorem short_lt {m : Nat} (h : 1 ≤ m) : shortN m < m := by
  unfold shortN
  have h1 := wide_le m
  cases e : wideN m with
  | zero =>
    rw [e] at h1
    simp at h1
    simp
    omega
  | succ c =>
    have h2 := wideN_lt m c (by omega)
    rw [Nat.pow_succ]
    omega
theorem short_zero {m : Nat} (h : wideN m = 0) (h1 : 1 ≤ m) : m = 1 := by
  have := wide_le m
  rw [h] at this
  simp at this
  omega
/-- the word for a rest -/
def restB (m r : Nat) : List Bool := if r < shortN m then fig r (wideN m - 1) else fig (r + shortN m) (wideN m)
/-- the word for a number -/
def wordB (m n : Nat) : List Bool := List.replicate (n / m) true ++ false :: restB m (n % m)
theorem rest_len (m r : Nat) : (restB m r).length = if r < shortN m then wideN m - 1 else wideN m := by
  unfold restB
  split <;> rw [fig_len]
theorem rest_len_le (m r : Nat) : (restB m r).length ≤ wideN m := by
  rw [rest_len]
  split <;> omega
theorem word_len (m n : Nat) : (wordB m n).length = n / m + 1 + (restB m (n % m)).length := by
  unfold wordB
  simp
  omega
/-- a place of a text -/
theorem cut_tx (l : List Bool) (i j : Nat) : cutS (tx l) (some (i : Int)) (some (j : Int)) = tx ((l.drop i).take (j - i)) := by
  apply str_ext
  unfold cutS
  rw [tx_list, tx_len, HT.sIx_nat, HT.sIx_nat, tx_list]
  simp only [List.map_take, List.map_drop]
  by_cases h : i ≤ l.length
  · rw [Nat.min_eq_left h]
    by_cases h2 : j ≤ l.length
    · rw [Nat.min_eq_left h2]
    · rw [Nat.min_eq_right (show l.length ≤ j by omega)]
      rw [List.take_of_length_le (by simp), List.take_of_length_le (by simp; omega)]
  · rw [Nat.min_eq_right (show l.length ≤ i by omega)]
    have e1 : List.drop l.length (l.map sg) = [] := List.drop_eq_nil_of_le (by simp)
    have e2 : List.drop i (l.map sg) = [] := List.drop_eq_nil_of_le (by simp; omega)
    rw [e1, e2]
    simp
theorem cut_to (l : List Bool) (j : Nat) : cutS (tx l) none (some (j : Int)) = tx (l.take j) := by
  have := cut_tx l 0 j
  have e : cutS (tx l) none (some (j : Int)) = cutS (tx l) (some ((0 : Nat) : Int)) (some (j : Int)) := by
    unfold cutS
    have e0 : HT.sIx (tx l).length 0 (some ((0 : Nat) : Int)) = 0 := by rw [HT.sIx_nat, Nat.min_eq_left (Nat.zero_le _)]
    rw [e0, HT.sIx_none]
  rw [e, this, List.drop_zero, Nat.sub_zero]
theorem cut_from (l : List Bool) (i : Nat) : cutS (tx l) (some (i : Int)) none = tx (l.drop i) := by
  apply str_ext
  unfold cutS
  rw [tx_list, tx_len, HT.sIx_nat, HT.sIx_none, tx_list]
  simp only [List.map_drop]
  by_cases h : i ≤ l.length
  · rw [Nat.min_eq_left h, List.take_of_length_le (by simp)]
  · rw [Nat.min_eq_right (show l.length ≤ i by omega)]
    have e1 : List.drop l.length (l.map sg) = [] := List.drop_eq_nil_of_le (by simp)
    have e2 : List.drop i (l.map sg) = [] := List.drop_eq_nil_of_le (by simp; omega)
    rw [e1, e2]
    simp
/-- the sign at a place, as it is asked: text[at:at + 1] == "1" -/
theorem cut_at (l : List Bool) (i : Nat) : cutS (tx l) (some (i : Int)) (some ((i : Int) + 1)) = tx (l[i]?.toList) := by
  have := cut_tx l i (i + 1)
  rw [show ((i + 1 : Nat) : Int) = (i : Int) + 1 by omega] at this
  rw [this, Nat.add_sub_cancel_left]
  congr 1
  cases h : l[i]? with
  | none =>
    rw [List.drop_eq_nil_of_le (List.getElem?_eq_none_iff.mp h)]
    rfl
  | some b =>
    obtain ⟨hi, e⟩ := List.getElem?_eq_some_iff.mp h
    rw [List.drop_eq_getElem_cons hi, e]
    rfl
theorem at_is (o : Option Bool) : (tx o.toList = tx [true]) ↔ o = some true := by
  constructor
  · intro h
    have := tx_inj h
    cases o with
    | none => cases this
    | some b => exact congrArg some (List.cons.inj this).1
  · rintro rfl
    rfl
theorem fig_get (n k i : Nat) (h : i < k) : (fig n k)[i]? = some (n / 2 ^ (k - 1 - i) % 2 == 1) := by
  induction k generalizing i with
  | zero => omega
  | succ k ih =>
    cases i with
    | zero => simp [fig]
    | succ i =>
      rw [fig, List.getElem?_cons_succ, ih i (by omega)]
      rw [show k + 1 - 1 - (i + 1) = k - 1 - i by omega]
theorem take_more {α : Type} {l : List α} {i : Nat} {x : α} (h : l[i]? = some x) : l.take (i + 1) = l.take i ++ [x] := by
  rw [List.take_add_one, h]
  rfl
theorem fig_take (n k i : Nat) (h : i < k) : (fig n k).take (i + 1) = (fig n k).take i ++ [n / 2 ^ (k - 1 - i) % 2 == 1] := take_more (fig_get n k i h)
theorem bit_int (n d : Nat) : (((n : Int) / ((2 ^ d : Nat) : Int) % 2 = 1)) ↔ (n / 2 ^ d % 2 == 1) = true := by
  rw [beq_iff_eq, ← Int.natCast_ediv]
  omega
end St
namespace St
open PySem PySem.Spec PyProof.Rows L2
/-! ### the mean length of the words by a step -/
def meanR (m : Nat) (x : Rat) : Rat :=
  (((if (wideN m : Int) > 1 then (wideN m : Int) else 1 : Int) : Rat) + x ^ m / (1 - x ^ m)) + (if 0 < wideN m then (x ^ shortN m - x ^ m) / (1 - x ^ m) else 0)
theorem rat_pos {p q : Nat} (h : IsRat p q) : 0 < rat p q := by
  have h1 := h.p1
  have h2 := h.pq
  have a : (0 : Rat) < ((p : Int) : Rat) := Rat.intCast_pos.mpr (by omega)
  have b : (0 : Rat) < ((q : Int) : Rat) := Rat.intCast_pos.mpr (by omega)
  unfold rat
  exact (Rat.lt_div_iff b).mpr (by rw [Rat.zero_mul]; exact a)
theorem rat_lt_one {p q : Nat} (h : IsRat p q) : rat p q < 1 := by
  have h1 := h.p1
  have h2 := h.pq
  have b : (0 : Rat) < ((q : Int) : Rat) := Rat.intCast_pos.mpr (by omega)
  unfold rat
  exact (Rat.div_lt_iff b).mpr (by rw [Rat.one_mul]; exact Rat.intCast_lt_intCast.mpr (by omega))
theorem pow_lt_one {x : Rat} (h0 : 0 < x) (h1 : x < 1) : ∀ {m : Nat}, 1 ≤ m → x ^ m < 1
  | 1, _ => by rw [Rat.pow_one]; exact h1
  | m + 2, _ => by
    have ih := pow_lt_one h0 h1 (m := m + 1) (by omega)
    rw [Rat.pow_succ]
    have a := Rat.pow_pos (n := m + 1) h0
    have b := Rat.mul_lt_mul_of_pos_left h1 a
    rw [Rat.mul_one] at b
    exact Std.lt_trans b ih
theorem left_pos {p q : Nat} (h : IsRat p q) {m : Nat} (hm : 1 ≤ m) : 0 < 1 - rat p q ^ m := by
  have := pow_lt_one (rat_pos h) (rat_lt_one h) hm
  exact (Rat.lt_iff_sub_pos _ _).mp this
/-- what the law adds up -/
def ovI (p q : Int) (len : Nat → Int) : Nat → Int
  | 0 => 0
  | k + 1 => ovI p q len k * q + (q - p) * p ^ k * len k
def lenI (m r : Nat) : Int := (((wordB m r).length : Nat) : Int)
theorem lenI_eq {m r : Nat} (hm : 1 ≤ m) (h : r < m) : lenI m r = if r < shortN m then (wideN m : Int) else (wideN m : Int) + 1 := by
  unfold lenI
  rw [word_len, Nat.div_eq_of_lt h, Nat.mod_eq_of_lt h, rest_len]
  split
  · rename_i c
    have : 1 ≤ wideN m := by
      refine Nat.not_lt.mp fun z => ?_
      have e := short_zero (show wideN m = 0 by omega) hm
      subst e
      unfold shortN at c
      rw [show wideN 1 = 0 from rfl] at c
      omega
    omega
  · omega
theorem ovI_eq (p q : Int) {m : Nat} (hm : 1 ≤ m) : ∀ k, k ≤ m → ovI p q (lenI m) k = ((wideN m : Int) + 1) * (q ^ k - p ^ k) - (q ^ k - p ^ (min k (shortN m)) * q ^ (k - min k (shortN m)))
  | 0, _ => by
    simp [ovI]
  | k + 1, hk => by
    have ih := ovI_eq p q hm k (by omega)
    rw [ovI, ih, lenI_eq hm (by omega)]
    by_cases c : k < shortN m
    · rw [if_pos c, Nat.min_eq_left (by omega), Nat.min_eq_left (show k + 1 ≤ shortN m by omega), Nat.sub_self, Nat.sub_self, Int.pow_zero, Int.pow_succ, Int.pow_succ]
      generalize q ^ k = Q
      generalize p ^ k = P
      generalize (wideN m : Int) = c
      grind
    · rw [if_neg c, Nat.min_eq_right (by omega), Nat.min_eq_right (show shortN m ≤ k + 1 by omega), show k + 1 - shortN m = (k - shortN m) + 1 by omega, Int.pow_succ, Int.pow_succ, Int.pow_succ]
      generalize q ^ k = Q
      generalize p ^ k = P
      generalize p ^ shortN m = R
      generalize q ^ (k - shortN m) = S
      generalize (wideN m : Int) = c
      grind
theorem pow_gt {p q : Nat} (h : p < q) {m : Nat} (hm : 1 ≤ m) : (p : Int) ^ m < (q : Int) ^ m := by
  have := Nat.pow_lt_pow_left h (show m ≠ 0 by omega)
  rw [← Int.natCast_pow, ← Int.natCast_pow]
  exact Int.ofNat_lt.mpr this
theorem law_mean {p q : Nat} (h : IsRat p q) {m : Nat} (hm : 1 ≤ m) :
    Rat.divInt (ovI p q (lenI m) m + (p : Int) ^ m) ((q : Int) ^ m - (p : Int) ^ m) = meanR m (rat p q) := by
  have h1 := h.p1
  have h2 := h.pq
  have hs := short_lt hm
  rw [ovI_eq p q hm m (Nat.le_refl _), Nat.min_eq_right (by omega), Rat.divInt_eq_div]
  have hq : (0 : Rat) < ((q : Int) : Rat) := Rat.intCast_pos.mpr (by omega)
  have ex : ∀ t : Nat, rat p q ^ t = (((p : Int) ^ t : Int) : Rat) / (((q : Int) ^ t : Int) : Rat) := fun t => by
    rw [← rat_pow p q (by omega) t, Rat.divInt_eq_div]
  have eq0 : (((q : Int) ^ m : Int) : Rat) = (((q : Int) ^ shortN m : Int) : Rat) * (((q : Int) ^ (m - shortN m) : Int) : Rat) := by
    rw [← Rat.intCast_mul, ← Int.pow_add, show shortN m + (m - shortN m) = m by omega]
  have n1 : (((q : Int) ^ m : Int) : Rat) ≠ 0 := cast_ne (Int.ne_of_gt (Int.pow_pos (by omega)))
  have n2 : (((q : Int) ^ shortN m : Int) : Rat) ≠ 0 := cast_ne (Int.ne_of_gt (Int.pow_pos (by omega)))
  have n4 : (((q : Int) ^ m : Int) : Rat) - (((p : Int) ^ m : Int) : Rat) ≠ 0 := by
    rw [← Rat.intCast_sub]
    exact cast_ne (by have := pow_gt h2 hm; omega)
  unfold meanR
  rw [ex m, ex (shortN m)]
  simp only [Rat.intCast_sub, Rat.intCast_add, Rat.intCast_mul]
  by_cases c : 0 < wideN m
  · rw [if_pos c]
    have e1 : (((if (wideN m : Int) > 1 then (wideN m : Int) else 1 : Int)) : Rat) = ((wideN m : Int) : Rat) := by
      split
      · rfl
      · rw [show wideN m = 1 by omega]
        rfl
    rw [e1]
    generalize (((q : Int) ^ m : Int) : Rat) = Q at *
    generalize (((p : Int) ^ m : Int) : Rat) = P at *
    generalize (((q : Int) ^ shortN m : Int) : Rat) = T at *
    generalize (((p : Int) ^ shortN m : Int) : Rat) = S at *
    generalize (((q : Int) ^ (m - shortN m) : Int) : Rat) = U at *
    generalize ((wideN m : Int) : Rat) = c at *
    have n5 : 1 - P / Q ≠ 0 := by
      intro e
      apply n4
      grind
    have e1 : ((1 : Int) : Rat) = 1 := rfl
    grind
  · rw [if_neg c]
    have w0 : wideN m = 0 := by omega
    have m1 := short_zero w0 hm
    subst m1
    rw [show wideN 1 = 0 from rfl, show shortN 1 = 0 from rfl, if_neg (by decide)]
    rw [show shortN 1 = 0 from rfl] at eq0 n2
    simp only [Int.pow_zero, Nat.sub_zero] at *
    generalize (((q : Int) ^ 1 : Int) : Rat) = Q at *
    generalize (((p : Int) ^ 1 : Int) : Rat) = P at *
    have n5 : 1 - P / Q ≠ 0 := by
      intro e
      apply n4
      grind
    have e1 : ((1 : Int) : Rat) = 1 := rfl
    have e0 : ((0 : Int) : Rat) = 0 := rfl
    simp only [e1, e0, show (((0 : Nat) : Int) : Rat) = 0 from rfl]
    grind
end St
namespace St
open PySem PySem.Spec PyProof.Rows L2
/-! ### merging the two least, again and again -/
def oins (x : Rat) : List Rat → List Rat
  | [] => [x]
  | y :: r => if x ≤ y then x :: y :: r else y :: oins x r
theorem oins_perm (x : Rat) : ∀ l, (oins x l).Perm (x :: l)
  | [] => .refl _
  | y :: r => by
    rw [oins]
    split
    · exact .refl _
    · exact ((oins_perm x r).cons y).trans (.swap x y r)
theorem oins_srt (x : Rat) : ∀ l : List Rat, l.Pairwise (· ≤ ·) → (oins x l).Pairwise (· ≤ ·)
  | [], _ => List.pairwise_singleton _ _
  | y :: r, h => by
    obtain ⟨h1, h2⟩ := List.pairwise_cons.mp h
    rw [oins]
    split
    · rename_i c
      refine List.pairwise_cons.mpr ⟨fun z hz => ?_, h⟩
      rcases List.mem_cons.mp hz with e | hz
      · rw [e]
        exact c
      · exact Rat.le_trans c (h1 z hz)
    · rename_i c
      refine List.pairwise_cons.mpr ⟨fun z hz => ?_, oins_srt x r h2⟩
      rcases List.mem_cons.mp ((oins_perm x r).mem_iff.mp hz) with e | hz
      · rw [e]
        exact Rat.le_of_lt (Rat.not_le.mp c)
      · exact h1 z hz
def sortR : List Rat → List Rat
  | [] => []
  | x :: r => oins x (sortR r)
theorem sortR_perm : ∀ l, (sortR l).Perm l
  | [] => .refl _
  | x :: r => (oins_perm x (sortR r)).trans ((sortR_perm r).cons x)
theorem sortR_srt : ∀ l, (sortR l).Pairwise (· ≤ ·)
  | [] => List.Pairwise.nil
  | x :: r => oins_srt x _ (sortR_srt r)
theorem srt_uniq : ∀ {a b : List Rat}, a.Pairwise (· ≤ ·) → b.Pairwise (· ≤ ·) → a.Perm b → a = b
  | [], b, _, _, h => (List.Perm.eq_nil h.symm).symm
  | x :: a, [], _, _, h => absurd h.length_eq (by simp)
  | x :: a, y :: b, ha, hb, h => by
    obtain ⟨a1, a2⟩ := List.pairwise_cons.mp ha
    obtain ⟨b1, b2⟩ := List.pairwise_cons.mp hb
    have e : x = y := by
      refine Rat.le_antisymm ?_ ?_
      · rcases List.mem_cons.mp (h.mem_iff.mpr List.mem_cons_self) with e | hy
        · rw [e]
          exact Rat.le_refl
        · exact a1 y hy
      · rcases List.mem_cons.mp (h.mem_iff.mp List.mem_cons_self) with e | hx
        · rw [e]
          exact Rat.le_refl
        · exact b1 x hx
    subst e
    rw [srt_uniq a2 b2 h.cons_inv]
theorem sortR_of {l m : List Rat} (hm : m.Pairwise (· ≤ ·)) (h : m.Perm l) : sortR l = m := srt_uniq (sortR_srt l) hm ((sortR_perm l).trans h.symm)
def mergeR : Nat → List Rat → Rat
  | n + 1, a :: b :: r => (a + b) + mergeR n (oins (a + b) r)
  | _, _ => 0
/-- what merging costs -/
def mgR (l : List Rat) : Rat := mergeR l.length (sortR l)
theorem mg_perm {l m : List Rat} (h : l.Perm m) : mgR l = mgR m := by
  unfold mgR
  rw [h.length_eq, sortR_of (sortR_srt m) ((sortR_perm m).trans h.symm)]
theorem mg_nil : mgR [] = 0 := rfl
theorem mg_one (x : Rat) : mgR [x] = 0 := rfl
theorem mg_step {l : List Rat} {a b : Rat} {r : List Rat} (h : l.Perm (a :: b :: r)) (ha : ∀ y ∈ r, a ≤ y) (hb : ∀ y ∈ r, b ≤ y) : mgR l = (a + b) + mgR ((a + b) :: r) := by
  rw [mg_perm h]
  have key : ∀ a b : Rat, a ≤ b → (∀ y ∈ r, a ≤ y) → (∀ y ∈ r, b ≤ y) → mgR (a :: b :: r) = (a + b) + mgR ((a + b) :: r) := fun a b hab ha hb => by
    have e : sortR (a :: b :: r) = a :: b :: sortR r := by
      refine sortR_of (List.pairwise_cons.mpr ⟨fun z hz => ?_, List.pairwise_cons.mpr ⟨fun z hz => hb z ((sortR_perm r).mem_iff.mp hz), sortR_srt r⟩⟩) (((sortR_perm r).cons b).cons a)
      rcases List.mem_cons.mp hz with e | hz
      · rw [e]
        exact hab
      · exact ha z ((sortR_perm r).mem_iff.mp hz)
    unfold mgR
    rw [e]
    rfl
  rcases Rat.le_total (a := a) (b := b) with c | c
  · exact key a b c ha hb
  · rw [mg_perm (.swap b a r), key b a c hb ha, Rat.add_comm b a]
theorem oins_scale {k : Rat} (hk : 0 < k) (x : Rat) : ∀ l : List Rat, oins (k * x) (l.map (k * ·)) = (oins x l).map (k * ·)
  | [] => rfl
  | y :: r => by
    rw [List.map_cons, oins, oins]
    by_cases c : x ≤ y
    · rw [if_pos c, if_pos (Rat.mul_le_mul_of_nonneg_left c (Rat.le_of_lt hk))]
      rfl
    · rw [if_neg c, if_neg (fun z => c (Rat.le_of_mul_le_mul_left z hk)), oins_scale hk x r]
      rfl
theorem sortR_scale {k : Rat} (hk : 0 < k) : ∀ l : List Rat, sortR (l.map (k * ·)) = (sortR l).map (k * ·)
  | [] => rfl
  | x :: r => by
    rw [List.map_cons, sortR, sortR, sortR_scale hk r, oins_scale hk]
theorem mergeR_scale {k : Rat} (hk : 0 < k) : ∀ (n : Nat) (l : List Rat), mergeR n (l.map (k * ·)) = k * mergeR n l
  | 0, l => by
    rw [show mergeR 0 (l.map (k * ·)) = 0 from rfl, show mergeR 0 l = 0 from rfl, Rat.mul_zero]
  | n + 1, [] => (Rat.mul_zero k).symm
  | n + 1, [x] => (Rat.mul_zero k).symm
  | n + 1, a :: b :: r => by
    show (k * a + k * b) + mergeR n (oins (k * a + k * b) (r.map (k * ·))) = k * ((a + b) + mergeR n (oins (a + b) r))
    rw [← Rat.mul_add, oins_scale hk, mergeR_scale hk n, ← Rat.mul_add]
theorem mg_scale {k : Rat} (hk : 0 < k) (l : List Rat) : mgR (l.map (k * ·)) = k * mgR l := by
  unfold mgR
  rw [sortR_scale hk, List.length_map, mergeR_scale hk]
/-! almost equal weights -/
def lenB (n i : Nat) : Nat := if i < 2 * n - 2 ^ wideN n then wideN n else wideN n - 1
theorem lenB_step {m : Nat} (hm : 1 ≤ m) : lenB (m + 1) 0 = lenB m (m - 1) + 1 ∧ lenB (m + 1) 1 = lenB m (m - 1) + 1 ∧ ∀ i, i < m - 1 → lenB (m + 1) (i + 2) = lenB m i := by
  have h1 := wide_le m
  have h2 := wideN_lt m
  obtain ⟨k, hk⟩ : ∃ k, wideN m = k := ⟨_, rfl⟩
  rw [hk] at h1 h2
  by_cases c : m = 2 ^ k
  · have e : wideN (m + 1) = k + 1 := wide_eq (by rw [Nat.pow_succ]; omega) (fun d hd => by
      have := Nat.pow_le_pow_right (n := 2) (by decide) (show d ≤ k by omega)
      omega)
    unfold lenB
    rw [e, hk, Nat.pow_succ, ← c]
    refine ⟨?_, ?_, fun i hi => ?_⟩
    · rw [if_pos (by omega), if_pos (by omega)]
    · rw [if_pos (by omega), if_pos (by omega)]
    · rw [if_neg (by omega), if_pos (by omega)]
      omega
  · have k1 : 1 ≤ k := by
      refine Nat.not_lt.mp fun z => ?_
      have : k = 0 := by omega
      subst this
      rw [Nat.pow_zero] at h1 c
      omega
    have e : wideN (m + 1) = k := wide_eq (by omega) (fun d hd => by have := h2 d hd; omega)
    have h3 := h2 (k - 1) (by omega)
    have h4 : 2 ^ k = 2 * 2 ^ (k - 1) := by
      conv => lhs; rw [show k = (k - 1) + 1 by omega, Nat.pow_succ']
    unfold lenB
    rw [e, hk]
    refine ⟨?_, ?_, fun i hi => ?_⟩
    · rw [if_pos (by omega), if_neg (by omega)]
      omega
    · rw [if_pos (by omega), if_neg (by omega)]
      omega
    · by_cases d : i < 2 * m - 2 ^ k
      · rw [if_pos d, if_pos (by omega)]
      · rw [if_neg d, if_neg (by omega)]
def wsumR (f : Nat → Nat) : Nat → List Rat → Rat
  | _, [] => 0
  | j, x :: r => x * (f j : Nat) + wsumR f (j + 1) r
theorem wsumR_app (f : Nat → Nat) : ∀ (l m : List Rat) (j : Nat), wsumR f j (l ++ m) = wsumR f j l + wsumR f (j + l.length) m
  | [], m, j => by
    rw [List.nil_append, wsumR, Rat.zero_add, List.length_nil, Nat.add_zero]
  | x :: r, m, j => by
    rw [List.cons_append, wsumR, wsumR_app f r m, wsumR, List.length_cons, Rat.add_assoc, show j + 1 + r.length = j + (r.length + 1) by omega]
theorem wsumR_congr {f g : Nat → Nat} : ∀ (l : List Rat) (i j : Nat), (∀ t, t < l.length → f (i + t) = g (j + t)) → wsumR f i l = wsumR g j l
  | [], _, _, _ => rfl
  | x :: r, i, j, h => by
    have h0 := h 0 (by simp)
    rw [Nat.add_zero, Nat.add_zero] at h0
    rw [wsumR, wsumR, h0, wsumR_congr r (i + 1) (j + 1) fun t ht => ?_]
    have := h (t + 1) (by rw [List.length_cons]; omega)
    rw [show i + 1 + t = i + (t + 1) by omega, show j + 1 + t = j + (t + 1) by omega]
    exact this
theorem mg_even : ∀ (n : Nat) (l : List Rat), l.length = n → 1 ≤ n → l.Pairwise (· ≤ ·) → (∀ y ∈ l, 0 < y) → (∀ a b r, l = a :: b :: r → ∀ y ∈ r, y ≤ a + b) → mgR l = wsumR (lenB n) 0 l := by
  intro n
  induction n with
  | zero => intro l _ h; omega
  | succ m ih =>
    intro l hl _ hs hp hm
    match l, hl, hs, hp, hm with
    | [], hl, _, _, _ => cases hl
    | [x], hl, _, _, _ =>
      have : m = 0 := by simpa using hl.symm
      subst this
      rw [mg_one]
      show (0 : Rat) = x * ((lenB 1 0 : Nat) : Rat) + 0
      rw [show lenB 1 0 = 0 by decide, show ((0 : Nat) : Rat) = 0 from rfl, Rat.mul_zero, Rat.add_zero]
    | a :: b :: r, hl, hs, hp, hm =>
      obtain ⟨h1, h2⟩ := List.pairwise_cons.mp hs
      obtain ⟨h3, h4⟩ := List.pairwise_cons.mp h2
      have hm := hm a b r rfl
      have hr : r.length + 1 = m := by simpa using hl
      have ha : 0 < a := hp a List.mem_cons_self
      have hb : 0 < b := hp b (List.mem_cons_of_mem _ List.mem_cons_self)
      rw [mg_step (.refl _) (fun y hy => h1 y (List.mem_cons_of_mem _ hy)) h3]
      have e : mgR ((a + b) :: r) = mgR (r ++ [a + b]) := mg_perm (by
        have := (List.perm_append_comm (l₁ := [a + b]) (l₂ := r))
        exact this)
      rw [e, ih (r ++ [a + b]) (by rw [List.length_append]; exact hr) (by omega) ?_ ?_ ?_]
      · obtain ⟨l0, l1, l2⟩ := lenB_step (m := m) (by omega)
        rw [wsumR_app, wsumR, wsumR, wsumR, wsumR, Nat.zero_add, Nat.zero_add, show r.length = m - 1 by omega, l0, l1]
        rw [wsumR_congr (f := lenB (m + 1)) (g := lenB m) r (1 + 1) 0 fun t ht => by rw [Nat.zero_add, show 1 + 1 + t = t + 2 by omega]; exact l2 t (by omega)]
        have e1 : ((lenB m (m - 1) + 1 : Nat) : Rat) = ((lenB m (m - 1) : Nat) : Rat) + 1 := Rat.natCast_add _ _
        rw [e1]
        grind
      · refine List.pairwise_append.mpr ⟨h4, List.pairwise_singleton _ _, fun y hy z hz => ?_⟩
        rw [List.mem_singleton.mp hz]
        exact hm y hy
      · intro y hy
        rcases List.mem_append.mp hy with hy | hy
        · exact hp y (List.mem_cons_of_mem _ (List.mem_cons_of_mem _ hy))
        · rw [List.mem_singleton.mp hy]
          grind
      · intro c d s hcd y hy
        match r, hcd with
        | [], hcd => cases hcd
        | [c'], hcd =>
          cases hcd
          cases hy
        | c' :: d' :: s', hcd =>
          cases hcd
          have g1 : a ≤ c := h1 c (by simp)
          have g2 : b ≤ d := h3 d (by simp)
          rcases List.mem_append.mp hy with hy | hy
          · have := hm y (List.mem_cons_of_mem _ (List.mem_cons_of_mem _ hy))
            grind
          · rw [List.mem_singleton.mp hy]
            grind
end St
namespace St
open PySem PySem.Spec PyProof.Rows L2
/-! ### no lengths cost less than merging -/
def dotR : List Rat → List Nat → Rat
  | x :: ws, l :: ls => x * (l : Nat) + dotR ws ls
  | _, _ => 0
def krf (K : Nat) (ls : List Nat) : Nat := (ls.map fun l => 2 ^ (K - l)).sum
def dins (x : Nat) : List Nat → List Nat
  | [] => [x]
  | y :: r => if y ≤ x then x :: y :: r else y :: dins x r
def sortD : List Nat → List Nat
  | [] => []
  | x :: r => dins x (sortD r)
theorem dins_perm (x : Nat) : ∀ l, (dins x l).Perm (x :: l)
  | [] => .refl _
  | y :: r => by
    rw [dins]
    split
    · exact .refl _
    · exact ((dins_perm x r).cons y).trans (.swap x y r)
theorem sortD_perm : ∀ l, (sortD l).Perm l
  | [] => .refl _
  | x :: r => (dins_perm x (sortD r)).trans ((sortD_perm r).cons x)
theorem dins_srt (x : Nat) : ∀ l : List Nat, l.Pairwise (· ≥ ·) → (dins x l).Pairwise (· ≥ ·)
  | [], _ => List.pairwise_singleton _ _
  | y :: r, h => by
    obtain ⟨h1, h2⟩ := List.pairwise_cons.mp h
    rw [dins]
    split
    · rename_i c
      refine List.pairwise_cons.mpr ⟨fun z hz => ?_, h⟩
      rcases List.mem_cons.mp hz with e | hz
      · rw [e]
        exact c
      · exact Nat.le_trans (h1 z hz) c
    · rename_i c
      refine List.pairwise_cons.mpr ⟨fun z hz => ?_, dins_srt x r h2⟩
      rcases List.mem_cons.mp ((dins_perm x r).mem_iff.mp hz) with e | hz
      · rw [e]
        show x ≤ y
        omega
      · exact h1 z hz
theorem sortD_srt : ∀ l, (sortD l).Pairwise (· ≥ ·)
  | [] => List.Pairwise.nil
  | x :: r => dins_srt x _ (sortD_srt r)
theorem swap_le {u v : Rat} {x y : Nat} (huv : u ≤ v) (hxy : x ≤ y) : u * (y : Nat) + v * (x : Nat) ≤ u * (x : Nat) + v * (y : Nat) := by
  obtain ⟨d, rfl⟩ : ∃ d, y = x + d := ⟨y - x, by omega⟩
  rw [show ((x + d : Nat) : Rat) = ((x : Nat) : Rat) + ((d : Nat) : Rat) from Rat.natCast_add _ _]
  have h1 : u * ((d : Nat) : Rat) ≤ v * ((d : Nat) : Rat) := Rat.mul_le_mul_of_nonneg_right huv Rat.natCast_nonneg
  grind
theorem dot_dins (x : Nat) : ∀ (ws : List Rat) (u : Rat) (l : List Nat), l.length = ws.length → (u :: ws).Pairwise (· ≤ ·) → dotR (u :: ws) (dins x l) ≤ dotR (u :: ws) (x :: l)
  | ws, u, [], _, _ => Rat.le_refl
  | [], u, y :: r, h, _ => by cases h
  | v :: ws, u, y :: r, h, hs => by
    obtain ⟨h1, h2⟩ := List.pairwise_cons.mp hs
    rw [dins]
    split
    · exact Rat.le_refl
    · rename_i c
      have ih := dot_dins x ws v r (by simpa using h) h2
      have sw := swap_le (h1 v List.mem_cons_self) (show x ≤ y by omega)
      show u * _ + dotR (v :: ws) (dins x r) ≤ u * _ + (v * _ + dotR ws r)
      have e : dotR (v :: ws) (x :: r) = v * ((x : Nat) : Rat) + dotR ws r := rfl
      rw [e] at ih
      grind
theorem dins_len (x : Nat) (l : List Nat) : (dins x l).length = l.length + 1 := by
  rw [(dins_perm x l).length_eq]
  rfl
theorem sortD_len (l : List Nat) : (sortD l).length = l.length := (sortD_perm l).length_eq
theorem sortR_len (l : List Rat) : (sortR l).length = l.length := (sortR_perm l).length_eq
theorem dot_sortD : ∀ (ws : List Rat) (l : List Nat), l.length = ws.length → ws.Pairwise (· ≤ ·) → dotR ws (sortD l) ≤ dotR ws l
  | [], [], _, _ => Rat.le_refl
  | [], _ :: _, h, _ => by cases h
  | _ :: _, [], h, _ => by cases h
  | w :: ws, x :: l, h, hs => by
    obtain ⟨h1, h2⟩ := List.pairwise_cons.mp hs
    have ih := dot_sortD ws l (by simpa using h) h2
    have a := dot_dins x ws w (sortD l) (by rw [sortD_len]; simpa using h) hs
    refine Rat.le_trans a ?_
    show w * _ + dotR ws (sortD l) ≤ w * _ + dotR ws l
    grind
theorem dot_oins (x : Rat) (m : Nat) : ∀ (ws : List Rat) (ls : List Nat), ls.length = ws.length → ∃ ms : List Nat, ms.Perm (m :: ls) ∧ dotR (oins x ws) ms = x * (m : Nat) + dotR ws ls
  | [], [], _ => ⟨[m], .refl _, rfl⟩
  | [], _ :: _, h => by cases h
  | _ :: _, [], h => by cases h
  | w :: ws, l :: ls, h => by
    rw [oins]
    split
    · exact ⟨m :: l :: ls, .refl _, rfl⟩
    · obtain ⟨ms, p, e⟩ := dot_oins x m ws ls (by simpa using h)
      refine ⟨l :: ms, (p.cons l).trans (.swap m l ls), ?_⟩
      show w * _ + dotR (oins x ws) ms = _ + (w * _ + dotR ws ls)
      rw [e]
      grind
theorem dot_sortR : ∀ (ws : List Rat) (ls : List Nat), ls.length = ws.length → ∃ ms : List Nat, ms.Perm ls ∧ dotR (sortR ws) ms = dotR ws ls
  | [], [], _ => ⟨[], .refl _, rfl⟩
  | [], _ :: _, h => by cases h
  | _ :: _, [], h => by cases h
  | w :: ws, l :: ls, h => by
    obtain ⟨ms, p, e⟩ := dot_sortR ws ls (by simpa using h)
    obtain ⟨ns, p2, e2⟩ := dot_oins w l (sortR ws) ms (by rw [sortR_len, p.length_eq]; simpa using h)
    refine ⟨ns, p2.trans (p.cons l), ?_⟩
    show dotR (oins w (sortR ws)) ns = w * _ + dotR ws ls
    rw [e2, e]
theorem krf_perm {K : Nat} {l m : List Nat} (h : l.Perm m) : krf K l = krf K m := (h.map _).sum_nat
theorem krf_cons (K l : Nat) (ls : List Nat) : krf K (l :: ls) = 2 ^ (K - l) + krf K ls := rfl
theorem krf_dvd {K l : Nat} : ∀ {ls : List Nat}, (∀ x ∈ ls, x ≤ l) → l ≤ K → 2 ^ (K - l) ∣ krf K ls
  | [], _, _ => ⟨0, rfl⟩
  | x :: r, h, hK => by
    rw [krf_cons]
    refine Nat.dvd_add (Nat.pow_dvd_pow 2 (by have := h x List.mem_cons_self; omega)) (krf_dvd (fun y hy => h y (List.mem_cons_of_mem _ hy)) hK)
theorem huff {K : Nat} : ∀ (n : Nat) (ws : List Rat) (ls : List Nat), ws.length = n → ls.length = n → (∀ w ∈ ws, 0 ≤ w) → (∀ l ∈ ls, l ≤ K) → krf K ls ≤ 2 ^ K → mgR ws ≤ dotR ws ls := by
  intro n
  induction n with
  | zero =>
    intro ws ls h1 h2 _ _ _
    rw [List.eq_nil_of_length_eq_zero h1, List.eq_nil_of_length_eq_zero h2]
    exact Rat.le_refl
  | succ n ih =>
    intro ws ls hw hl h0 hK hk
    obtain ⟨ms, p, e⟩ := dot_sortR ws ls (by omega)
    have h1 : dotR (sortR ws) (sortD ms) ≤ dotR ws ls := by
      rw [← e]
      exact dot_sortD _ _ (by rw [sortR_len, p.length_eq]; omega) (sortR_srt ws)
    refine Rat.le_trans ?_ h1
    have hp : (sortD ms).Perm ls := (sortD_perm ms).trans p
    have hk : krf K (sortD ms) ≤ 2 ^ K := by rw [krf_perm hp]; exact hk
    have hK : ∀ l ∈ sortD ms, l ≤ K := fun l h => hK l (hp.mem_iff.mp h)
    have hlen : (sortD ms).length = n + 1 := by rw [hp.length_eq]; exact hl
    have hds := sortD_srt ms
    have hws := sortR_srt ws
    have h0 : ∀ w ∈ sortR ws, 0 ≤ w := fun w h => h0 w ((sortR_perm ws).mem_iff.mp h)
    have hwl : (sortR ws).length = n + 1 := by rw [sortR_len]; exact hw
    rw [← mg_perm (sortR_perm ws)]
    generalize sortD ms = L at *
    generalize sortR ws = W at *
    match W, L, hwl, hlen, hds, hws, h0, hk, hK with
    | [a], [l], _, _, _, _, h0, _, _ =>
      show (0 : Rat) ≤ a * ((l : Nat) : Rat) + 0
      have := Rat.mul_nonneg (h0 a List.mem_cons_self) (Rat.natCast_nonneg (a := l))
      grind
    | [a], l :: m :: t, h, h', _, _, _, _, _ =>
      simp at h h'
      omega
    | a :: b :: r, [l], h, h', _, _, _, _, _ =>
      simp at h h'
      omega
    | a :: b :: r, l1 :: l2 :: t, hwl, hlen, hds, hws, h0, hk, hK =>
      obtain ⟨d1, d2⟩ := List.pairwise_cons.mp hds
      obtain ⟨d3, d4⟩ := List.pairwise_cons.mp d2
      obtain ⟨w1, w2⟩ := List.pairwise_cons.mp hws
      obtain ⟨w3, w4⟩ := List.pairwise_cons.mp w2
      have l12 : l2 ≤ l1 := d1 l2 List.mem_cons_self
      have hl1 := hK l1 List.mem_cons_self
      have hl2 : l2 ≤ K := by omega
      have ha := h0 a List.mem_cons_self
      have hb := h0 b (List.mem_cons_of_mem _ List.mem_cons_self)
      -- both as long as the second
      have hk2 : 2 ^ (K - l2) + (2 ^ (K - l2) + krf K t) ≤ 2 ^ K := by
        rw [krf_cons, krf_cons] at hk
        obtain ⟨u, hu⟩ := krf_dvd (K := K) (l := l2) (ls := t) d3 hl2
        obtain ⟨v, hv⟩ : 2 ^ (K - l2) ∣ 2 ^ K := Nat.pow_dvd_pow 2 (by omega)
        have hp1 : 0 < 2 ^ (K - l1) := Nat.pow_pos (by decide)
        have hp2 : 0 < 2 ^ (K - l2) := Nat.pow_pos (by decide)
        generalize 2 ^ (K - l2) = g at *
        have h5 : g * (1 + u) < g * v := by
          rw [Nat.mul_add, Nat.mul_one]
          omega
        have h6 := Nat.lt_of_mul_lt_mul_left h5
        have h7 : g * (1 + (1 + u)) ≤ g * v := Nat.mul_le_mul_left g (by omega)
        rw [Nat.mul_add, Nat.mul_add, Nat.mul_one] at h7
        omega
      have l2p : 1 ≤ l2 := by
        refine Nat.not_lt.mp fun z => ?_
        have : l2 = 0 := by omega
        subst this
        have hp : 0 < 2 ^ (K - 0) := Nat.pow_pos (by decide)
        rw [Nat.sub_zero] at hk2 hp
        omega
      have hk3 : krf K ((l2 - 1) :: t) ≤ 2 ^ K := by
        rw [krf_cons, show K - (l2 - 1) = (K - l2) + 1 by omega, Nat.pow_succ]
        omega
      have ih := ih ((a + b) :: r) ((l2 - 1) :: t) (by simp at hwl ⊢; omega) (by simp at hlen ⊢; omega) (fun w hw => by
        rcases List.mem_cons.mp hw with e | hw
        · rw [e]
          exact Rat.add_nonneg ha hb
        · exact h0 w (List.mem_cons_of_mem _ (List.mem_cons_of_mem _ hw))) (fun l hl => by
        rcases List.mem_cons.mp hl with e | hl
        · omega
        · have := d3 l hl
          omega) hk3
      rw [mg_step (.refl _) (fun y hy => w1 y (List.mem_cons_of_mem _ hy)) w3]
      have e1 : dotR ((a + b) :: r) ((l2 - 1) :: t) = (a + b) * ((l2 - 1 : Nat) : Rat) + dotR r t := rfl
      have e2 : dotR (a :: b :: r) (l1 :: l2 :: t) = a * ((l1 : Nat) : Rat) + (b * ((l2 : Nat) : Rat) + dotR r t) := rfl
      rw [e2]
      rw [e1] at ih
      have e3 : ((l2 : Nat) : Rat) = ((l2 - 1 : Nat) : Rat) + 1 := by
        have : ((l2 - 1 + 1 : Nat) : Rat) = ((l2 - 1 : Nat) : Rat) + 1 := Rat.natCast_add _ _
        rw [show l2 - 1 + 1 = l2 by omega] at this
        exact this
      have e4 : a * ((l2 : Nat) : Rat) ≤ a * ((l1 : Nat) : Rat) := Rat.mul_le_mul_of_nonneg_left (Rat.natCast_le_natCast.mpr l12) ha
      rw [e3] at e4 ⊢
      grind
end St
namespace St
open PySem PySem.Spec PyProof.Rows L2
/-! ### a comprehension over an enumerated list -/
/-- a comprehension over an enumerated list -/
theorem lc_enum {K : PySem.W.Frag} {a : Addr} {xs : List V} {g : TG} {tt : TT} {te : TE} {vs : List Nat} {σ : List (Option V)} {H1 : Hp} {D : Addr} {Qd : Hp → Prop} (Pv : Nat → Hp → Prop) (h0 : Pv 0 (upd H1 D (.lst []))) (hl : ∀ i H, i ≤ xs.length → Pv i H → SqL K H a xs)
    (hs : ∀ i x H T, xs[i]? = some x → Pv i H → H T = none → g (.ref T) (wipe σ vs) (upd H T (.tup [.int (i : Nat), x])) fun σ2 H2 => wipe σ2 vs = wipe σ vs ∧ tt σ2 H2 fun b H3 =>
      if b = true then te σ2 H3 fun y H4 => ∃ acc, H4 D = some (.lst acc) ∧ acc.length < sizeLine ∧ Pv (i + 1) (upd H4 D (.lst (acc ++ [y]))) else Pv (i + 1) H3) (hd : ∀ H, Pv xs.length H → Qd H) :
    ∃ W : Nat → Nat → Hp → Prop, (∃ m, W 0 m (upd H1 D (.lst []))) ∧ ∀ i m H, W i m H →
      ((Ite K a).stop i H ∧ Qd H) ∨ ((Ite K a).go i H ∧ ∃ Nx : Hp → Prop, (∀ H', Nx H' → ∃ m', m' < m ∧ W (i + 1) m' H') ∧ ∀ x H', (Ite K a).yld i H x H' → g x (wipe σ vs) H' fun σ2 H2 => wipe σ2 vs = wipe σ vs ∧ tt σ2 H2 fun b H3 =>
        if b = true then te σ2 H3 fun y H4 => ∃ acc, H4 D = some (.lst acc) ∧ acc.length < sizeLine ∧ Nx (upd H4 D (.lst (acc ++ [y]))) else Nx H3) := by
  refine ⟨fun i m H => m = xs.length - i ∧ i ≤ xs.length ∧ Pv i H, ⟨xs.length, by simp, Nat.zero_le _, h0⟩, ?_⟩
  rintro i m H ⟨rfl, hi, p⟩
  have q := hl i H hi p
  by_cases hlt : i < xs.length
  · refine .inr ⟨⟨xs, xs[i], q, by simp [hlt]⟩, Pv (i + 1), fun H' p' => ⟨xs.length - (i + 1), by omega, rfl, hlt, p'⟩, fun x H' y => ?_⟩
    obtain ⟨T, z, rfl, nT, rfl, y⟩ := y
    exact hs i z H T (y xs q) p nT
  · have e : i = xs.length := by omega
    subst e
    exact .inl ⟨⟨xs, q, Nat.le_refl _⟩, hd H p⟩
end St
namespace St
open PySem PySem.Spec PyProof.Rows L2
/-! ### rows that are merged: a weight, a number, the numbers below -/
structure RowB where
  w : Int
  n : Nat
  ms : List Nat
def rowLe (a b : RowB) : Bool := decide (a.w < b.w ∨ (a.w = b.w ∧ a.n ≤ b.n))
theorem rowLe_iff {a b : RowB} : rowLe a b = true ↔ (a.w < b.w ∨ (a.w = b.w ∧ a.n ≤ b.n)) := by
  unfold rowLe
  exact decide_eq_true_iff
theorem rowLe_trans (a b c : RowB) : rowLe a b = true → rowLe b c = true → rowLe a c = true := by
  rw [rowLe_iff, rowLe_iff, rowLe_iff]
  omega
theorem rowLe_total (a b : RowB) : (rowLe a b || rowLe b a) = true := by
  rw [Bool.or_eq_true, rowLe_iff, rowLe_iff]
  omega
def encRow (a : RowB) : PyData := .tuple [.int a.w, .int (a.n : Nat), .list (a.ms.map fun i => .int (i : Nat))]
theorem rowLt_data {a b : RowB} (h : a.w = b.w → a.n = b.n → a = b) : (!PySem.W.dataLt (encRow b) (encRow a)) = rowLe a b := by
  unfold encRow rowLe
  rw [PySem.W.dataLt_tuple, PySem.W.dataLt_cons (by simp [PySem.W.alike]), PySem.W.dataLt_int]
  simp only [PyData.eqv, beq_iff_eq]
  by_cases e1 : b.w = a.w
  · rw [if_pos e1, PySem.W.dataLt_cons (by simp [PySem.W.alike]), PySem.W.dataLt_int]
    simp only [PyData.eqv, beq_iff_eq]
    by_cases e2 : b.n = a.n
    · rw [if_pos (by omega)]
      have e3 := h e1.symm e2.symm
      subst e3
      rw [lex_irrefl]
      simp
    · rw [if_neg (by omega)]
      by_cases c : b.n < a.n
      · rw [decide_eq_true (by omega), decide_eq_false (by omega)]
        rfl
      · rw [decide_eq_false (by omega), decide_eq_true (by omega)]
        rfl
  · rw [if_neg e1]
    by_cases c : b.w < a.w
    · rw [decide_eq_true (by omega), decide_eq_false (by omega)]
      rfl
    · rw [decide_eq_false (by omega), decide_eq_true (by omega)]
      rfl
/-- one more for each of some numbers -/
def bump (g : Nat → Nat) (ms : List Nat) : Nat → Nat := fun i => g i + ms.count i
/-- the merging, with fuel -/
def mrun (cnt : Nat) : Nat → List RowB → (Nat → Nat) → (Nat → Nat)
  | 0, _, g => g
  | k + 1, rows, g => match rows.mergeSort rowLe with
    | a :: b :: r => mrun cnt k (r ++ [⟨a.w + b.w, cnt + (r.length + 2), a.ms ++ b.ms⟩]) (bump g (a.ms ++ b.ms))
    | _ => g
def wsOf (rows : List RowB) : List Rat := rows.map fun a => (a.w : Rat)
def sumM (W : Nat → Int) (ms : List Nat) : Int := (ms.map W).sum
def dotI (W : Nat → Int) (g : Nat → Nat) : Nat → Int
  | 0 => 0
  | k + 1 => dotI W g k + W k * (g k : Nat)
theorem dotI_bump (W : Nat → Int) (g : Nat → Nat) : ∀ (ms : List Nat) (n : Nat), (∀ i ∈ ms, i < n) → dotI W (bump g ms) n = dotI W g n + sumM W ms := by
  have one : ∀ (x n : Nat), x < n → ∀ f : Nat → Nat, dotI W (fun i => f i + [x].count i) n = dotI W f n + W x := by
    intro x n
    induction n with
    | zero => intro h; omega
    | succ n ih =>
      intro h f
      by_cases e : x = n
      · subst e
        have low : ∀ k, k ≤ x → dotI W (fun i => f i + [x].count i) k = dotI W f k := by
          intro k
          induction k with
          | zero => intro _; rfl
          | succ k ihk =>
            intro hk
            rw [dotI, dotI, ihk (by omega)]
            have : [x].count k = 0 := List.count_eq_zero.mpr (by simp; omega)
            simp only [this, Nat.add_zero]
        rw [dotI, dotI, low x (Nat.le_refl _)]
        have : [x].count x = 1 := by simp
        simp only [this]
        rw [Int.natCast_add, Int.mul_add]
        show _ + (_ + W x * 1) = _
        omega
      · rw [dotI, dotI, ih (by omega)]
        have : [x].count n = 0 := List.count_eq_zero.mpr (by simp; omega)
        simp only [this, Nat.add_zero]
        omega
  intro ms
  induction ms generalizing g with
  | nil =>
    intro n _
    have : bump g [] = g := by
      funext i
      simp [bump]
    rw [this]
    show _ = _ + 0
    omega
  | cons x ms ih =>
    intro n h
    have e : bump g (x :: ms) = bump (fun i => g i + [x].count i) ms := by
      funext i
      unfold bump
      rw [show (x :: ms).count i = [x].count i + ms.count i by rw [← List.count_append]; rfl]
      exact (Nat.add_assoc _ _ _).symm
    rw [e, ih (fun i => g i + [x].count i) n (fun i hi => h i (List.mem_cons_of_mem _ hi)), one x n (h x List.mem_cons_self)]
    show _ = _ + (W x + sumM W ms)
    omega
def krfF (K : Nat) (g : Nat → Nat) (ms : List Nat) : Nat := (ms.map fun i => 2 ^ (K - g i)).sum
/-- what holds between two merges: j merges done -/
structure MInv (W : Nat → Int) (cnt K j : Nat) (rows : List RowB) (g : Nat → Nat) : Prop where
  len : rows.length + j = cnt
  part : (rows.flatMap (·.ms)).Perm (List.range cnt)
  wt : ∀ a ∈ rows, a.w = sumM W a.ms
  kr : ∀ a ∈ rows, krfF K g a.ms = 2 ^ K
  low : ∀ i, g i ≤ j
  cost : ((dotI W g cnt : Int) : Rat) + mgR (wsOf rows) = mgR ((List.range cnt).map fun i => (W i : Rat))
  nums : ∀ a ∈ rows, a.n < cnt ∨ cnt + rows.length < a.n
  nd : (rows.map (·.n)).Nodup
theorem MInv.perm {W : Nat → Int} {cnt K j : Nat} {rows rows' : List RowB} {g : Nat → Nat} (h : MInv W cnt K j rows g) (p : rows'.Perm rows) : MInv W cnt K j rows' g :=
  ⟨by rw [p.length_eq]; exact h.len, (p.flatMap_right _).trans h.part, fun a ha => h.wt a (p.mem_iff.mp ha), fun a ha => h.kr a (p.mem_iff.mp ha), h.low, by rw [← h.cost]; congr 1; exact mg_perm (p.map _), fun a ha => by rw [p.length_eq]; exact h.nums a (p.mem_iff.mp ha), (p.map _).nodup_iff.mpr h.nd⟩
theorem sumM_app (W : Nat → Int) (a b : List Nat) : sumM W (a ++ b) = sumM W a + sumM W b := by
  unfold sumM
  rw [List.map_append, List.sum_append]
theorem krf_bump {K : Nat} {g : Nat → Nat} {ms ns : List Nat} (h : ∀ i ∈ ms, ns.count i = 1 ∧ g i + 1 ≤ K) : 2 * krfF K (bump g ns) ms = krfF K g ms := by
  unfold krfF
  induction ms with
  | nil => rfl
  | cons x ms ih =>
    rw [List.map_cons, List.sum_cons, List.map_cons, List.sum_cons, ← ih fun i hi => h i (List.mem_cons_of_mem _ hi), Nat.mul_add]
    congr 1
    obtain ⟨h1, h2⟩ := h x List.mem_cons_self
    show 2 * 2 ^ (K - (g x + ns.count x)) = _
    rw [h1, ← Nat.pow_succ']
    congr 1
    omega
theorem krf_keep {K : Nat} {g : Nat → Nat} {ms ns : List Nat} (h : ∀ i ∈ ms, ns.count i = 0) : krfF K (bump g ns) ms = krfF K g ms := by
  unfold krfF
  congr 1
  refine List.map_congr_left fun i hi => ?_
  show 2 ^ (K - (g i + ns.count i)) = _
  rw [h i hi, Nat.add_zero]
theorem MInv.step {W : Nat → Int} {cnt K j : Nat} {a b : RowB} {r : List RowB} {g : Nat → Nat} (h : MInv W cnt K j (a :: b :: r) g) (hK : cnt ≤ K) (ha : ∀ c ∈ r, a.w ≤ c.w) (hb : ∀ c ∈ r, b.w ≤ c.w) :
    MInv W cnt K (j + 1) (r ++ [⟨a.w + b.w, cnt + (r.length + 2), a.ms ++ b.ms⟩]) (bump g (a.ms ++ b.ms)) := by
  have hlen := h.len
  rw [List.length_cons, List.length_cons] at hlen
  have hpart := h.part
  rw [List.flatMap_cons, List.flatMap_cons, ← List.append_assoc] at hpart
  have hnd : ((a.ms ++ b.ms) ++ r.flatMap (·.ms)).Nodup := (hpart.nodup_iff).mpr List.nodup_range
  obtain ⟨nd1, nd2, nd3⟩ := List.nodup_append.mp hnd
  have mem1 : ∀ i ∈ a.ms ++ b.ms, i < cnt := fun i hi => List.mem_range.mp (hpart.mem_iff.mp (List.mem_append_left _ hi))
  have cnt1 : ∀ i ∈ a.ms ++ b.ms, (a.ms ++ b.ms).count i = 1 := fun i hi => by
    have h1 := List.nodup_iff_count.mp nd1 i
    have h2 := List.count_pos_iff.mpr hi
    omega
  have lowK : ∀ i, g i + 1 ≤ K := fun i => by
    have := h.low i
    omega
  refine ⟨?_, ?_, ?_, ?_, ?_, ?_, ?_, ?_⟩
  · rw [List.length_append]
    show r.length + 1 + (j + 1) = cnt
    omega
  · rw [List.flatMap_append]
    refine List.perm_append_comm.trans ?_
    show List.Perm (((a.ms ++ b.ms) ++ []) ++ r.flatMap (·.ms)) _
    rw [List.append_nil]
    exact hpart
  · intro c hc
    rcases List.mem_append.mp hc with hc | hc
    · exact h.wt c (List.mem_cons_of_mem _ (List.mem_cons_of_mem _ hc))
    · rw [List.mem_singleton.mp hc]
      show a.w + b.w = sumM W (a.ms ++ b.ms)
      rw [sumM_app, ← h.wt a List.mem_cons_self, ← h.wt b (List.mem_cons_of_mem _ List.mem_cons_self)]
  · intro c hc
    rcases List.mem_append.mp hc with hc | hc
    · rw [krf_keep fun i hi => List.count_eq_zero.mpr fun hm => nd3 i hm i (List.mem_flatMap.mpr ⟨c, hc, hi⟩) rfl]
      exact h.kr c (List.mem_cons_of_mem _ (List.mem_cons_of_mem _ hc))
    · rw [List.mem_singleton.mp hc]
      show krfF K (bump g (a.ms ++ b.ms)) (a.ms ++ b.ms) = 2 ^ K
      have e := krf_bump (K := K) (g := g) (ms := a.ms ++ b.ms) (ns := a.ms ++ b.ms) fun i hi => ⟨cnt1 i hi, lowK i⟩
      have e2 : krfF K g (a.ms ++ b.ms) = 2 ^ K + 2 ^ K := by
        unfold krfF
        rw [List.map_append, List.sum_append]
        have k1 := h.kr a List.mem_cons_self
        have k2 := h.kr b (List.mem_cons_of_mem _ List.mem_cons_self)
        unfold krfF at k1 k2
        rw [k1, k2]
      omega
  · intro i
    show g i + (a.ms ++ b.ms).count i ≤ j + 1
    have h1 := List.nodup_iff_count.mp nd1 i
    have := h.low i
    omega
  · rw [dotI_bump W g _ cnt mem1, ← h.cost]
    have e1 : mgR (wsOf (a :: b :: r)) = ((a.w : Rat) + (b.w : Rat)) + mgR (((a.w : Rat) + (b.w : Rat)) :: wsOf r) := mg_step (.refl _) (fun y hy => by
      obtain ⟨c, hc, rfl⟩ := List.mem_map.mp hy
      exact Rat.intCast_le_intCast.mpr (ha c hc)) (fun y hy => by
      obtain ⟨c, hc, rfl⟩ := List.mem_map.mp hy
      exact Rat.intCast_le_intCast.mpr (hb c hc))
    have e2 : mgR (wsOf (r ++ [⟨a.w + b.w, cnt + (r.length + 2), a.ms ++ b.ms⟩])) = mgR (((a.w : Rat) + (b.w : Rat)) :: wsOf r) := by
      refine mg_perm ?_
      unfold wsOf
      rw [List.map_append]
      refine List.perm_append_comm.trans ?_
      show List.Perm ((((a.w + b.w : Int)) : Rat) :: (r.map fun a => (a.w : Rat))) _
      rw [Rat.intCast_add]
    have e3 : sumM W (a.ms ++ b.ms) = a.w + b.w := by
      rw [sumM_app, ← h.wt a List.mem_cons_self, ← h.wt b (List.mem_cons_of_mem _ List.mem_cons_self)]
    rw [e1, e2, e3, Rat.intCast_add, Rat.intCast_add]
    grind
  · intro c hc
    rw [List.length_append]
    show c.n < cnt ∨ cnt + (r.length + 1) < c.n
    rcases List.mem_append.mp hc with hc | hc
    · have := h.nums c (List.mem_cons_of_mem _ (List.mem_cons_of_mem _ hc))
      rw [List.length_cons, List.length_cons] at this
      omega
    · rw [List.mem_singleton.mp hc]
      show cnt + (r.length + 2) < cnt ∨ cnt + (r.length + 1) < cnt + (r.length + 2)
      omega
  · have hn := h.nd
    rw [List.map_cons, List.map_cons, List.nodup_cons, List.nodup_cons] at hn
    rw [List.map_append]
    refine List.nodup_append.mpr ⟨hn.2.2, by simp, fun x hx y hy => ?_⟩
    obtain ⟨c, hc, rfl⟩ := List.mem_map.mp hx
    have := h.nums c (List.mem_cons_of_mem _ (List.mem_cons_of_mem _ hc))
    rw [List.length_cons, List.length_cons] at this
    have e : y = cnt + (r.length + 2) := by simpa using hy
    omega
theorem MInv.sorted {W : Nat → Int} {cnt K j : Nat} {rows : List RowB} {g : Nat → Nat} (h : MInv W cnt K j rows g) : MInv W cnt K j (rows.mergeSort rowLe) g ∧ ∀ a b r, rows.mergeSort rowLe = a :: b :: r → (∀ c ∈ r, a.w ≤ c.w) ∧ ∀ c ∈ r, b.w ≤ c.w := by
  refine ⟨h.perm (List.mergeSort_perm rows rowLe), fun a b r e => ?_⟩
  have hp := List.pairwise_mergeSort rowLe_trans rowLe_total rows
  rw [e] at hp
  obtain ⟨h1, h2⟩ := List.pairwise_cons.mp hp
  obtain ⟨h3, _⟩ := List.pairwise_cons.mp h2
  refine ⟨fun c hc => ?_, fun c hc => ?_⟩
  · have := rowLe_iff.mp (h1 c (List.mem_cons_of_mem _ hc))
    omega
  · have := rowLe_iff.mp (h3 c hc)
    omega
/-- the numbers of rows tell them apart -/
theorem MInv.apart {W : Nat → Int} {cnt K j : Nat} {rows : List RowB} {g : Nat → Nat} (h : MInv W cnt K j rows g) {a b : RowB} (ha : a ∈ rows) (hb : b ∈ rows) (e : a.n = b.n) : a = b := by
  have hn := h.nd
  obtain ⟨i, hi⟩ := List.getElem?_of_mem ha
  obtain ⟨k, hk⟩ := List.getElem?_of_mem hb
  obtain ⟨i1, i2⟩ := List.getElem?_eq_some_iff.mp hi
  obtain ⟨k1, k2⟩ := List.getElem?_eq_some_iff.mp hk
  have ne : ∀ i k (h1 : i < rows.length) (h2 : k < rows.length), i < k → rows[i].n = rows[k].n → False := fun i k h1 h2 hlt e => by
    have := List.pairwise_iff_getElem.mp hn i k (by rw [List.length_map]; exact h1) (by rw [List.length_map]; exact h2) hlt
    rw [List.getElem_map, List.getElem_map] at this
    exact this e
  rcases Nat.lt_trichotomy i k with c | c | c
  · exact (ne i k i1 k1 c (by rw [i2, k2, e])).elim
  · subst c
    rw [← i2, ← k2]
  · exact (ne k i k1 i1 c (by rw [i2, k2, e])).elim
theorem mrun_inv {W : Nat → Int} {cnt K : Nat} (hK : cnt ≤ K) : ∀ (f j : Nat) (rows : List RowB) (g : Nat → Nat), MInv W cnt K j rows g → 1 ≤ rows.length → rows.length ≤ f + 1 →
    ∃ rows', rows'.length = 1 ∧ MInv W cnt K (cnt - 1) rows' (mrun cnt f rows g) := by
  intro f
  induction f with
  | zero =>
    intro j rows g h h1 h2
    have := h.len
    exact ⟨rows, by omega, by rw [show cnt - 1 = j by omega]; exact h⟩
  | succ f ih =>
    intro j rows g h h1 h2
    obtain ⟨hs, hw⟩ := h.sorted
    have hl := (List.mergeSort_perm rows rowLe).length_eq
    rw [mrun]
    split
    · rename_i a b r e
      rw [e] at hs hl
      obtain ⟨w1, w2⟩ := hw a b r e
      rw [List.length_cons, List.length_cons] at hl
      have st := hs.step hK w1 w2
      exact ih (j + 1) _ _ st (by rw [List.length_append]; show 1 ≤ _ + 1; omega) (by rw [List.length_append]; show _ + 1 ≤ _; omega)
    · rename_i hno
      have l1 : (rows.mergeSort rowLe).length ≤ 1 := by
        match hm : rows.mergeSort rowLe with
        | [] => simp
        | [x] => simp
        | a :: b :: r => exact absurd hm (hno a b r)
      have := h.len
      exact ⟨rows, by omega, by rw [show cnt - 1 = j by omega]; exact h⟩
def rows0 (W : Nat → Int) (cnt : Nat) : List RowB := (List.range cnt).map fun i => ⟨W i, i, [i]⟩
theorem flat_single : ∀ l : List Nat, (l.map fun i => [i]).flatten = l
  | [] => rfl
  | x :: l => by rw [List.map_cons, List.flatten_cons, flat_single l]; rfl
theorem minv0 (W : Nat → Int) (cnt K : Nat) : MInv W cnt K 0 (rows0 W cnt) fun _ => 0 := by
  refine ⟨by unfold rows0; rw [List.length_map, List.length_range]; rfl, ?_, fun a ha => ?_, fun a ha => ?_, fun i => Nat.le_refl _, ?_, fun a ha => ?_, ?_⟩
  · unfold rows0
    rw [List.flatMap_map]
    have : (List.range cnt).flatMap (fun i => [i]) = List.range cnt := by
      rw [List.flatMap_def]
      exact flat_single _
    rw [this]
  · obtain ⟨i, _, rfl⟩ := List.mem_map.mp ha
    show W i = W i + 0
    omega
  · obtain ⟨i, _, rfl⟩ := List.mem_map.mp ha
    show 2 ^ (K - 0) + 0 = 2 ^ K
    rw [Nat.sub_zero, Nat.add_zero]
  · have e : ∀ n, dotI W (fun _ => 0) n = 0 := fun n => by
      induction n with
      | zero => rfl
      | succ n ih =>
        rw [dotI, ih]
        show (0 : Int) + W n * 0 = 0
        omega
    rw [e cnt, show ((0 : Int) : Rat) = 0 from rfl, Rat.zero_add]
    unfold wsOf rows0
    rw [List.map_map]
    rfl
  · obtain ⟨i, hi, rfl⟩ := List.mem_map.mp ha
    exact .inl (List.mem_range.mp hi)
  · unfold rows0
    rw [List.map_map]
    show (List.map (fun i => i) (List.range cnt)).Nodup
    rw [List.map_id']
    exact List.nodup_range
/-- how long the words get -/
def bestG (W : Nat → Int) (cnt : Nat) : Nat → Nat := mrun cnt cnt (rows0 W cnt) fun _ => 0
def wtF (p q c : Nat) (i : Nat) : Int := (p : Int) ^ i * (q : Int) ^ (c - 1 - i)
/-! reading rows off the heap -/
def natOf : V → Nat
  | .int i => i.toNat
  | _ => 0
def rowOf (H : Hp) : V → RowB
  | .ref t => match H t with
    | some (.tup [.int w, .int n, .ref L]) => match H L with
      | some (.lst xs) => ⟨w, n.toNat, xs.map natOf⟩
      | _ => ⟨0, 0, []⟩
    | _ => ⟨0, 0, []⟩
  | _ => ⟨0, 0, []⟩
def natsV (ms : List Nat) : List V := ms.map fun i => V.int (i : Nat)
def RowAt (F : Addr) (H : Hp) (t : Addr) (a : RowB) : Prop := ∃ L, L ≠ F ∧ H t = some (.tup [.int a.w, .int (a.n : Nat), .ref L]) ∧ H L = some (.lst (natsV a.ms))
theorem RowAt.of {F : Addr} {H : Hp} {t : Addr} {a : RowB} (h : RowAt F H t a) : rowOf H (.ref t) = a := by
  obtain ⟨L, _, h1, h2⟩ := h
  have e : (natsV a.ms).map natOf = a.ms := by
    unfold natsV
    rw [List.map_map]
    exact (List.map_congr_left fun i _ => show natOf (V.int (i : Nat)) = i from Int.toNat_natCast i).trans (List.map_id' _)
  simp only [rowOf, h1, h2, e, Int.toNat_natCast]
theorem RowAt.same {F : Addr} {H H' : Hp} {t : Addr} {a : RowB} (s : Same H H') (h : RowAt F H t a) : RowAt F H' t a := by
  obtain ⟨L, h0, h1, h2⟩ := h
  exact ⟨L, h0, s _ _ h1, s _ _ h2⟩
theorem RowAt.updF {F : Addr} {H : Hp} {t : Addr} {a : RowB} {l l' : List V} (e : H F = some (.lst l)) (h : RowAt F H t a) : RowAt F (upd H F (.lst l')) t a := by
  obtain ⟨L, h0, h1, h2⟩ := h
  exact ⟨L, h0, by rw [upd_ne (fun y => by rw [y, e] at h1; cases h1)]; exact h1, by rw [upd_ne h0]; exact h2⟩
theorem RowAt.other {F G : Addr} {H : Hp} {t : Addr} {a : RowB} (n : H G = none) (h : RowAt F H t a) : RowAt G H t a := by
  obtain ⟨L, h0, h1, h2⟩ := h
  exact ⟨L, fun z => (by rw [z, n] at h2; cases h2), h1, h2⟩
theorem dp_natsV {K : PySem.W.Frag} {H : Hp} : ∀ (ms : List Nat), DpAll K H (natsV ms) (ms.map fun i => PyData.int (i : Nat))
  | [] => .nil
  | m :: ms => .cons (.int _) (dp_natsV ms)
theorem RowAt.dp {K : PySem.W.Frag} {F : Addr} {H : Hp} {t : Addr} {a : RowB} (h : RowAt F H t a) : Dp K H (.ref t) (encRow a) := by
  obtain ⟨L, _, h1, h2⟩ := h
  exact .tup (.inl (.inl h1)) (.cons (.int _) (.cons (.int _) (.cons (.lst (.inl (.inl h2)) (dp_natsV _)) .nil)))
theorem enc_alike (a b : RowB) : PySem.W.alike (encRow a) (encRow b) = true := by
  have e : PySem.W.alikeAll (a.ms.map fun i => PyData.int (i : Nat)) (b.ms.map fun i => PyData.int (i : Nat)) = true := by
    generalize a.ms = l
    generalize b.ms = m
    induction l generalizing m with
    | nil => simp [PySem.W.alikeAll]
    | cons x l ih =>
      cases m with
      | nil => simp [PySem.W.alikeAll]
      | cons y m =>
        rw [List.map_cons, List.map_cons, PySem.W.alikeAll, ih m]
        simp [PySem.W.alike]
  unfold encRow
  simp only [PySem.W.alike, PySem.W.alikeAll, e, Bool.and_self]
theorem enc_depth (a : RowB) : (encRow a).depth ≤ 50 := by
  have e : ∀ l : List Nat, PyData.depthAll (l.map fun i => PyData.int (i : Nat)) = 0 := fun l => by
    induction l with
    | nil => simp [PyData.depthAll]
    | cons x l ih => rw [List.map_cons, PyData.depthAll, ih]; simp [PyData.depth]
  unfold encRow
  simp only [PyData.depth, PyData.depthAll, e]
  decide
/-- the sorted rows -/
theorem sort_rows {F : Addr} {H : Hp} {ps : List (Addr × RowB)} (h : ∀ p ∈ ps, RowAt F H p.1 p.2) (ha : ∀ p ∈ ps, ∀ r ∈ ps, p.2.n = r.2.n → p.2 = r.2) :
    (ps.map fun p => V.ref p.1).mergeSort (PySem.W.dataLe false fun v => encRow (rowOf H v)) = (ps.mergeSort fun a b => rowLe a.2 b.2).map (fun p => V.ref p.1) ∧ (ps.mergeSort fun a b => rowLe a.2 b.2).map (·.2) = (ps.map (·.2)).mergeSort rowLe := by
  constructor
  · refine (List.map_mergeSort fun a hm b hb => ?_).symm
    show rowLe a.2 b.2 = !PySem.W.dataLt (encRow (rowOf H (.ref b.1))) (encRow (rowOf H (.ref a.1)))
    rw [(h b hb).of, (h a hm).of, rowLt_data]
    exact fun _ e => ha a hm b hb e
  · exact List.map_mergeSort fun a _ b _ => rfl
section
variable {X : Cx}
/-- xs[i] for an op in place -/
def rIxP (K : PySem.W.Frag) : V → V → Hp → VK → Prop := fun x y H Q => ∃ (p : Addr) (xs : List V) (i : Nat) (z : V), x = .ref p ∧ y = .int (i : Nat) ∧ SqL K H p xs ∧ xs[i]? = some z ∧ Q z H
theorem pget_list (K : PySem.W.Frag) (hK : X.K = K := by rfl) : PGet X (rIxP K) := by
  subst hK
  intro pins s σ H x y v u Q I rx ry h
  obtain ⟨p, xs, i, z, rfl, rfl, hq, he, q⟩ := h
  cases rx
  obtain ⟨t, rfl⟩ := ry
  obtain ⟨its, r, pl, hz⟩ := I.list hq
  obtain ⟨w, ew, rw'⟩ := r.get he
  have hi := (List.getElem?_eq_some_iff.mp he).1
  have hsz := sizeLine_eq
  exact wpAny_getItem_list pl.isList (by omega) (by omega) (by rw [Int.toNat_natCast]; simpa using ew) ⟨z, H, I, rw', q⟩
end
def natL (g : Nat → Nat) (c : Nat) : List V := (List.range c).map fun i => V.int (g i : Nat)
theorem natL_len (g : Nat → Nat) (c : Nat) : (natL g c).length = c := by unfold natL; rw [List.length_map, List.length_range]
theorem natL_get (g : Nat → Nat) {c k : Nat} (h : k < c) : (natL g c)[k]? = some (V.int (g k : Nat)) := by unfold natL; rw [List.getElem?_map, List.getElem?_range h]; rfl
theorem natL_set (g : Nat → Nat) {c k : Nat} (h : k < c) : (natL g c).set k (V.int ((g k : Int) + 1)) = natL (fun i => g i + [k].count i) c := by
  apply List.ext_getElem?
  intro i
  by_cases hi : i < c
  · rw [natL_get _ hi]
    by_cases e : i = k
    · subst e
      rw [List.getElem?_set_self (by rw [natL_len]; exact hi)]
      have : [i].count i = 1 := by simp
      rw [this, Int.natCast_add]
      rfl
    · rw [List.getElem?_set_ne (Ne.symm e), natL_get _ hi]
      have : [k].count i = 0 := List.count_eq_zero.mpr (by simp; omega)
      rw [this, Nat.add_zero]
  · rw [List.getElem?_eq_none (by rw [List.length_set, natL_len]; omega), List.getElem?_eq_none (by rw [natL_len]; omega)]
theorem bump_take {g : Nat → Nat} {ms : List Nat} {i k : Nat} (h : ms[i]? = some k) : (fun t => bump g (ms.take i) t + [k].count t) = bump g (ms.take (i + 1)) := by
  funext t
  unfold bump
  rw [take_more h, List.count_append, Nat.add_assoc]
theorem mrun_one (cnt f : Nat) (rows : List RowB) (g : Nat → Nat) (h : rows.length = 1) : mrun cnt f rows g = g := by
  cases f with
  | zero => rfl
  | succ f =>
    match rows, h with
    | [x], _ => rw [mrun, List.mergeSort_singleton]
theorem mrun_more {cnt f : Nat} {rows : List RowB} {g : Nat → Nat} {a b : RowB} {r : List RowB} (h : rows.mergeSort rowLe = a :: b :: r) : mrun cnt (f + 1) rows g = mrun cnt f (r ++ [⟨a.w + b.w, cnt + (r.length + 2), a.ms ++ b.ms⟩]) (bump g (a.ms ++ b.ms)) := by
  rw [mrun, h]
/-! what lengths cost -/
def prodZ (W : Nat → Int) : Nat → List Nat → List Int
  | _, [] => []
  | i, l :: r => W i * (l : Nat) :: prodZ W (i + 1) r
theorem prodZ_len (W : Nat → Int) : ∀ (i : Nat) (ls : List Nat), (prodZ W i ls).length = ls.length
  | _, [] => rfl
  | i, l :: r => by rw [prodZ, List.length_cons, prodZ_len W (i + 1) r, List.length_cons]
theorem prodZ_get (W : Nat → Int) : ∀ (ls : List Nat) (i j l : Nat), ls[j]? = some l → (prodZ W i ls)[j]? = some (W (i + j) * (l : Nat))
  | [], _, _, _, h => by simp at h
  | x :: r, i, 0, l, h => by
    cases Option.some.inj (show some x = some l from h)
    rfl
  | x :: r, i, j + 1, l, h => by
    show (prodZ W (i + 1) r)[j]? = _
    rw [prodZ_get W r (i + 1) j l (by simpa using h), show i + 1 + j = i + (j + 1) by omega]
def sumW (W : Nat → Int) (n : Nat) : Int := ((List.range n).map W).sum
def castW (W : Nat → Int) (i n : Nat) : List Rat := (List.range' i n).map fun k => (W k : Rat)
theorem dot_cast (W : Nat → Int) : ∀ (ls : List Nat) (i : Nat), dotR (castW W i ls.length) ls = (((prodZ W i ls).sum : Int) : Rat)
  | [], _ => rfl
  | l :: r, i => by
    unfold castW
    rw [List.length_cons, List.range'_succ, List.map_cons, prodZ, List.sum_cons, Rat.intCast_add, Rat.intCast_mul, ← dot_cast W r (i + 1)]
    rfl
theorem castW0 (W : Nat → Int) (n : Nat) : castW W 0 n = (List.range n).map fun i => (W i : Rat) := by
  unfold castW
  rw [List.range_eq_range']
theorem prod_range (W : Nat → Int) (g : Nat → Nat) : ∀ (n i : Nat), (prodZ W i ((List.range' i n).map g)).sum = ((List.range' i n).map fun k => W k * (g k : Nat)).sum
  | 0, _ => rfl
  | n + 1, i => by
    rw [List.range'_succ, List.map_cons, prodZ, List.sum_cons, List.map_cons, List.sum_cons, prod_range W g n (i + 1)]
theorem dotI_sum (W : Nat → Int) (g : Nat → Nat) : ∀ n, dotI W g n = ((List.range n).map fun k => W k * (g k : Nat)).sum
  | 0 => rfl
  | n + 1 => by rw [dotI, dotI_sum W g n, List.range_succ, List.map_append, List.sum_append, List.map_cons, List.map_nil, List.sum_cons, List.sum_nil, Int.add_zero]
/-! rising lengths at falling weights -/
def nins (x : Nat) : List Nat → List Nat
  | [] => [x]
  | y :: r => if x ≤ y then x :: y :: r else y :: nins x r
def sortN : List Nat → List Nat
  | [] => []
  | x :: r => nins x (sortN r)
theorem nins_perm (x : Nat) : ∀ l, (nins x l).Perm (x :: l)
  | [] => .refl _
  | y :: r => by
    rw [nins]
    split
    · exact .refl _
    · exact ((nins_perm x r).cons y).trans (.swap x y r)
theorem sortN_perm : ∀ l, (sortN l).Perm l
  | [] => .refl _
  | x :: r => (nins_perm x (sortN r)).trans ((sortN_perm r).cons x)
theorem nins_srt (x : Nat) : ∀ l : List Nat, l.Pairwise (· ≤ ·) → (nins x l).Pairwise (· ≤ ·)
  | [], _ => List.pairwise_singleton _ _
  | y :: r, h => by
    obtain ⟨h1, h2⟩ := List.pairwise_cons.mp h
    rw [nins]
    split
    · rename_i c
      refine List.pairwise_cons.mpr ⟨fun z hz => ?_, h⟩
      rcases List.mem_cons.mp hz with e | hz
      · omega
      · exact Nat.le_trans c (h1 z hz)
    · rename_i c
      refine List.pairwise_cons.mpr ⟨fun z hz => ?_, nins_srt x r h2⟩
      rcases List.mem_cons.mp ((nins_perm x r).mem_iff.mp hz) with e | hz
      · omega
      · exact h1 z hz
theorem sortN_srt : ∀ l, (sortN l).Pairwise (· ≤ ·)
  | [] => List.Pairwise.nil
  | x :: r => nins_srt x _ (sortN_srt r)
theorem nat_uniq : ∀ {a b : List Nat}, a.Pairwise (· ≤ ·) → b.Pairwise (· ≤ ·) → a.Perm b → a = b
  | [], b, _, _, h => (List.Perm.eq_nil h.symm).symm
  | x :: a, [], _, _, h => absurd h.length_eq (by simp)
  | x :: a, y :: b, ha, hb, h => by
    obtain ⟨a1, a2⟩ := List.pairwise_cons.mp ha
    obtain ⟨b1, b2⟩ := List.pairwise_cons.mp hb
    have e : x = y := by
      refine Nat.le_antisymm ?_ ?_
      · rcases List.mem_cons.mp (h.mem_iff.mpr List.mem_cons_self) with e | hy
        · omega
        · exact a1 y hy
      · rcases List.mem_cons.mp (h.mem_iff.mp List.mem_cons_self) with e | hx
        · omega
        · exact b1 x hx
    subst e
    rw [nat_uniq a2 b2 h.cons_inv]
theorem prod_cons (W : Nat → Int) (i l : Nat) (r : List Nat) : (prodZ W i (l :: r)).sum = W i * (l : Nat) + (prodZ W (i + 1) r).sum := by
  rw [prodZ, List.sum_cons]
theorem prod_nins {W : Nat → Int} (x : Nat) : ∀ (l : List Nat) (i : Nat), (∀ k, i ≤ k → k < i + l.length → W (k + 1) ≤ W k) → (prodZ W i (nins x l)).sum ≤ (prodZ W i (x :: l)).sum
  | [], _, _ => Int.le_refl _
  | y :: r, i, h => by
    rw [nins]
    split
    · exact Int.le_refl _
    · rename_i c
      have ih := prod_nins (W := W) x r (i + 1) fun k h1 h2 => h k (by omega) (by rw [List.length_cons]; omega)
      rw [prod_cons] at ih ⊢
      rw [prod_cons, prod_cons]
      have hw := h i (Nat.le_refl _) (by rw [List.length_cons]; omega)
      obtain ⟨d, rfl⟩ : ∃ d, x = y + d := ⟨x - y, by omega⟩
      rw [Int.natCast_add] at ih ⊢
      have h1 : W (i + 1) * (d : Int) ≤ W i * (d : Int) := Int.mul_le_mul_of_nonneg_right hw (Int.natCast_nonneg d)
      rw [Int.mul_add] at ih ⊢
      generalize W i * (d : Int) = A at *
      generalize W (i + 1) * (d : Int) = B at *
      generalize W i * (y : Int) = C at *
      generalize W (i + 1) * (y : Int) = D at *
      generalize (prodZ W (i + 1 + 1) r).sum = E at *
      generalize (prodZ W (i + 1) (nins (y + d) r)).sum = G at *
      omega
theorem prod_sortN {W : Nat → Int} : ∀ (l : List Nat) (i : Nat), (∀ k, i ≤ k → k + 1 < i + l.length → W (k + 1) ≤ W k) → (prodZ W i (sortN l)).sum ≤ (prodZ W i l).sum
  | [], _, _ => Int.le_refl _
  | x :: r, i, h => by
    have h1 := prod_nins (W := W) x (sortN r) i fun k h1 h2 => h k h1 (by rw [List.length_cons]; rw [(sortN_perm r).length_eq] at h2; omega)
    have ih := prod_sortN (W := W) r (i + 1) fun k h1 h2 => h k (by omega) (by rw [List.length_cons]; omega)
    rw [prod_cons] at h1 ⊢
    show (prodZ W i (nins x (sortN r))).sum ≤ _
    omega
theorem wt_fall {p q c : Nat} (h : p < q) {k : Nat} (hk : k + 1 < c) : wtF p q c (k + 1) ≤ wtF p q c k := by
  unfold wtF
  rw [show c - 1 - k = (c - 1 - (k + 1)) + 1 by omega, Int.pow_succ, Int.pow_succ]
  have h1 : (0 : Int) ≤ (p : Int) ^ k := Int.pow_nonneg (by omega)
  have h2 : (0 : Int) ≤ (q : Int) ^ (c - 1 - (k + 1)) := Int.pow_nonneg (by omega)
  have h3 := Int.mul_nonneg h1 h2
  have h4 : (p : Int) ^ k * (q : Int) ^ (c - 1 - (k + 1)) * (p : Int) ≤ (p : Int) ^ k * (q : Int) ^ (c - 1 - (k + 1)) * (q : Int) := Int.mul_le_mul_of_nonneg_left (by omega) h3
  generalize (p : Int) ^ k = a at *
  generalize (q : Int) ^ (c - 1 - (k + 1)) = b at *
  have e1 : a * (p : Int) * b = a * b * (p : Int) := by grind
  have e2 : a * (b * (q : Int)) = a * b * (q : Int) := by grind
  rw [e1, e2]
  exact h4
theorem wt_pos {p q c : Nat} (hp : 1 ≤ p) (h : p < q) (i : Nat) : 0 < wtF p q c i := Int.mul_pos (Int.pow_pos (by omega)) (Int.pow_pos (by omega))
/-- what the best lengths are worth -/
structure BestF (p q c : Nat) (ls : List Nat) : Prop where
  len : ls.length = c
  b39 : ∀ l ∈ ls, l ≤ 39
  whole : krf 60 ls = 2 ^ 60
  cost : (((prodZ (wtF p q c) 0 ls).sum : Int) : Rat) = mgR ((List.range c).map fun i => (wtF p q c i : Rat))
theorem best_is {p q c : Nat} (hp : 1 ≤ p) (hpq : p < q) (hc1 : 1 ≤ c) (hc : c ≤ 40) {ls : List Nat} (h : ls.Perm ((List.range c).map (bestG (wtF p q c) c))) (hs : ls.Pairwise (· ≤ ·)) : BestF p q c ls := by
  obtain ⟨rows, hr1, hinv⟩ := mrun_inv (W := wtF p q c) (cnt := c) (K := 60) (by omega) c 0 (rows0 (wtF p q c) c) (fun _ => 0) (minv0 _ _ _) (by unfold rows0; rw [List.length_map, List.length_range]; exact hc1) (by unfold rows0; rw [List.length_map, List.length_range]; omega)
  have eg : mrun c c (rows0 (wtF p q c) c) (fun _ => 0) = bestG (wtF p q c) c := rfl
  rw [eg] at hinv
  obtain ⟨x, rfl⟩ : ∃ x, rows = [x] := by
    match rows, hr1 with
    | [x], _ => exact ⟨x, rfl⟩
  have hcost := hinv.cost
  rw [show mgR (wsOf [x]) = 0 from rfl, Rat.add_zero] at hcost
  have hkr := hinv.kr x List.mem_cons_self
  have hpart := hinv.part
  rw [show ([x] : List RowB).flatMap (·.ms) = x.ms ++ [] from rfl, List.append_nil] at hpart
  have hk : krf 60 ls = 2 ^ 60 := by
    rw [krf_perm h]
    unfold krf
    rw [List.map_map]
    unfold krfF at hkr
    rw [← hkr]
    exact ((hpart.symm.map _).sum_nat)
  have hb : ∀ l ∈ ls, l ≤ 39 := fun l hl => by
    obtain ⟨i, _, rfl⟩ := List.mem_map.mp (h.mem_iff.mp hl)
    have := hinv.low i
    omega
  have hlen : ls.length = c := by rw [h.length_eq, List.length_map, List.length_range]
  refine ⟨hlen, hb, hk, ?_⟩
  refine Rat.le_antisymm ?_ ?_
  · have e1 : ls = sortN ((List.range c).map (bestG (wtF p q c) c)) := nat_uniq hs (sortN_srt _) (h.trans (sortN_perm _).symm)
    have h1 := prod_sortN (W := wtF p q c) ((List.range c).map (bestG (wtF p q c) c)) 0 fun k _ hk => wt_fall hpq (by rw [List.length_map, List.length_range] at hk; omega)
    rw [← e1] at h1
    rw [← hcost]
    refine Rat.intCast_le_intCast.mpr (Int.le_trans h1 (Int.le_of_eq ?_))
    rw [dotI_sum, List.range_eq_range', prod_range]
  · have h2 := huff (K := 60) c (castW (wtF p q c) 0 c) ls (by unfold castW; rw [List.length_map, List.length_range']) hlen (fun w hw => by
      obtain ⟨i, _, rfl⟩ := List.mem_map.mp hw
      exact Rat.intCast_nonneg.mpr (Int.le_of_lt (wt_pos hp hpq i))) (fun l hl => by have := hb l hl; omega) (by rw [hk]; exact Nat.le_refl _)
    rw [castW0] at h2
    refine Rat.le_trans h2 ?_
    have e2 := dot_cast (wtF p q c) ls 0
    rw [hlen, castW0] at e2
    rw [e2]
    exact Rat.le_refl
/-- no book costs less -/
theorem best_least {p q c : Nat} (hp : 1 ≤ p) (hpq : p < q) {ls ms : List Nat} (h : BestF p q c ls) (hl : ms.length = c) (h60 : ∀ l ∈ ms, l ≤ 60) (hk : krf 60 ms ≤ 2 ^ 60) : (prodZ (wtF p q c) 0 ls).sum ≤ (prodZ (wtF p q c) 0 ms).sum := by
  refine Rat.intCast_le_intCast.mp ?_
  rw [h.cost]
  have h2 := huff (K := 60) c (castW (wtF p q c) 0 c) ms (by unfold castW; rw [List.length_map, List.length_range']) hl (fun w hw => by
    obtain ⟨i, _, rfl⟩ := List.mem_map.mp hw
    exact Rat.intCast_nonneg.mpr (Int.le_of_lt (wt_pos hp hpq i))) h60 hk
  have e2 := dot_cast (wtF p q c) ms 0
  rw [hl, castW0] at e2
  rw [castW0, e2] at h2
  exact h2
def wtsV (p q c : Nat) : List V := (List.range c).map fun i => V.int (wtF p q c i)
end St
namespace St
open PySem PySem.Spec PyProof.Rows L2
/-! ### sorted, min of data (numbers, texts, tuples of these) of any length -/
theorem refs_rel {xs : List V} {us : List Value} (r : Vals xs us) : ∀ {i : Nat} {x : V}, xs[i]? = some x → ∃ u, us[i]? = some u ∧ RelV x u := fun h => r.get h
theorem vals_each : ∀ {xs : List V} {us : List Value}, Vals xs us → PySem.W.EachIs (fun u x => RelV x u) us xs
  | _, _, .nil => .nil
  | _, _, .cons r t => .cons r (vals_each t)
theorem each_vals : ∀ {xs : List V} {us : List Value}, PySem.W.EachIs (fun u x => RelV x u) us xs → Vals xs us
  | _, _, .nil => .nil
  | _, _, .cons r t => .cons r (each_vals t)
/-- sorted(xs), xs a list of data of one form: a new list, the stable arrangement -/
def rSortedD (K : PySem.W.Frag) : List V → Hp → VK → Prop := fun vs H Q => ∃ (a : Addr) (xs : List V) (f : V → PyData), vs = [V.ref a] ∧ SqL K H a xs ∧ (∀ x ∈ xs, Dp K H x (f x)) ∧ PySem.W.AllAlike (xs.map f) ∧ PySem.W.Sortable (xs.map f) ∧ (∀ x ∈ xs, (f x).depth ≤ 50) ∧
  ∀ p, H p = none → Q (.ref p) (upd H p (.lst (xs.mergeSort (PySem.W.dataLe false f))))
section
variable {X : Cx}
theorem cr_sortedD (hu : X.A.units + 64 < cLine) : CallR X (.builtin "sorted") (rSortedD X.K) := by
  intro pins s σ H vs us Q I r h
  obtain ⟨a, xs, f, rfl, hs, hx, ha, hk, hd, q⟩ := h
  obtain ⟨its, rv, hl, hz⟩ := I.list hs
  obtain ⟨u, rfl, ru⟩ := vals1 r
  obtain rfl : u = Value.ref a := ru
  have e0 := vals_each rv
  have er : ∀ {xs : List V} {us : List Value}, (∀ x ∈ xs, Dp X.K H x (f x)) → PySem.W.EachIs (fun u x => RelV x u) us xs → PySem.W.EachIs (fun v b => ∃ as, Reads s.heap v (f b) as) us xs := by
    intro xs us hx e
    induction e with
    | nil => exact .nil
    | cons r t ih => exact .cons (Dp.reads I _ _ _ (hx _ List.mem_cons_self) r) (ih fun x h => hx x (List.mem_cons_of_mem _ h))
  refine PySem.W.sorted_data (R := fun u x => RelV x u) hl.isList e0 (er hx e0) ha hk hz (fun b hb => by have := hd b hb; omega) fun out ho eo => ?_
  obtain ⟨c, hc⟩ := sortedAll_at s.heap its out.toArray
  refine ⟨.ref _, upd H (s.heap.objs.size + 1) (.lst (xs.mergeSort (PySem.W.dataLe false f))), I.laid (t' := s.toks) (fun b o e => sortedAll_old e) (Nat.le_succ _) ⟨?_, out, c, each_vals eo, hc⟩, rfl, q _ (I.hok.fresh (Nat.le_succ _))⟩
  rw [List.length_mergeSort]
  exact hz
theorem cr_sortedD_ (K : PySem.W.Frag) (hu : X.A.units + 64 < cLine) (h : X.K = K := by rfl) : CallR X (.builtin "sorted") (rSortedD K) := h ▸ cr_sortedD hu
/-- min(xs), xs a list of data of one form: the first of the least -/
def rMinD (K : PySem.W.Frag) : List V → Hp → VK → Prop := fun vs H Q => ∃ (a : Addr) (xs : List V) (d : PyData) (ds : List PyData), vs = [V.ref a] ∧ SqL K H a xs ∧ DpAll K H xs (d :: ds) ∧ PySem.W.AlikeAll (d :: ds) ∧ PyData.depthAll (d :: ds) ≤ 50 ∧
  ∀ (i : Nat) (x : V), xs[i]? = some x → (d :: ds)[i]? = some (PySem.W.minD d ds) → Q x H
theorem min_list_dataI {prog : Program} {w : World} {A : Around} {E : Value → Shared → Prop} {s : Shared} {l : Addr} {vs : Array Value} {x : PyData} {xs : List PyData} {as : List Addr} {Q : Value → Shared → Prop} (hh : A.handled = none) (hl : s.heap.IsList l vs) (hr : ReadsAll s.heap vs.toList (x :: xs) as) (ha : PySem.W.AlikeAll (x :: xs)) (hu : A.units + 1 + PyData.depthAll (x :: xs) < cLine)
    (h : ∀ (i : Nat) v h' tk, vs[i]? = some v → (x :: xs)[i]? = some (PySem.W.minD x xs) → (∀ b o, s.heap.get? b = some o → h'.get? b = some o) → Q v { s with heap := h', toks := tk }) :
    wpAny (model prog w) A (call (.builtin "min") [.ref l]) Q E s := by
  have hn : vs.size = xs.length + 1 := PySem.W.readsAll_len hr
  refine PySem.call_min_walkH (PySem.W.iter_listW (A := A.in1) hh hl fun s₂ e W st hfp hw hk => ?_)
  refine ⟨_, _, _, _, _, _, _, s.heap, _, rfl, W, st, hfp, by omega, hw, hk, PySem.W.cmpIn_lt (A := A.in1) hr ha (by show A.units + 1 + _ < _; exact hu), fun v s' hP m => ?_⟩
  obtain ⟨h', tk, rfl, hk'⟩ := PySem.W.moved_old e rfl m
  obtain ⟨e3, e2⟩ := PySem.W.argBest_fold PySem.W.dataLt PyData.none x xs xs.length (Nat.le_refl _)
  rw [List.take_length] at e2
  have e1 : vs.size - 1 = xs.length := by omega
  rw [e1] at hP
  refine h _ v h' tk hP ?_ hk'
  unfold PySem.W.minD
  rw [← e2, List.getD_eq_getElem?_getD]
  cases e : (x :: xs)[PySem.argBest (fun i j => PySem.W.dataLt ((x :: xs).getD i PyData.none) ((x :: xs).getD j PyData.none)) xs.length]? with
  | some y => rfl
  | none =>
    have := List.getElem?_eq_none_iff.mp e
    rw [List.length_cons] at this
    omega
theorem cr_minD (hc : X.calm = true) (hu : X.A.units + 64 < cLine) : CallR X (.builtin "min") (rMinD X.K) := by
  intro pins s σ H vs us Q I r h
  obtain ⟨a, xs, d, ds, rfl, hs, hx, ha, hd, q⟩ := h
  obtain ⟨its, rv, hl, _⟩ := I.list hs
  rw [Vals.ref1 r]
  obtain ⟨as, hr⟩ := Dp.readsAll I _ _ _ hx rv
  refine min_list_dataI (I.ok.hd hc) hl.isList hr ha (by omega) fun i v h' tk hi hj hk => ?_
  have hi' : its[i]? = some v := by simpa using hi
  have hlt : i < xs.length := by
    have := (List.getElem?_eq_some_iff.mp hi').1
    rw [rv.length]
    exact this
  have hxi : xs[i]? = some xs[i] := List.getElem?_eq_getElem hlt
  obtain ⟨u, hu, ru⟩ := rv.get hxi
  rw [hi'] at hu
  cases Option.some.inj hu
  exact ⟨xs[i], H, I.kept hk, ru, q i _ hxi hj⟩
theorem cr_minD_ (K : PySem.W.Frag) (hc : X.calm = true) (hu : X.A.units + 64 < cLine) (h : X.K = K := by rfl) : CallR X (.builtin "min") (rMinD K) := h ▸ cr_minD hc hu
end
end St
namespace St
open PySem PySem.Spec PyProof.Rows L2
/-! ### lengths within a limit: what is computed -/
def leB (a b : RowB) : Bool := !PySem.W.dataLt (encRow b) (encRow a)
def encPr (a : Int × Nat) : PyData := .tuple [.int a.1, .int (a.2 : Nat)]
def lePr (a b : Int × Nat) : Bool := !PySem.W.dataLt (encPr b) (encPr a)
def prsL (W : Nat → Int) (c : Nat) : List (Int × Nat) := ((List.range c).map fun i => (W i, i)).mergeSort lePr
def plainB (W : Nat → Int) (c : Nat) : List RowB := (List.range c).map fun i => ⟨((prsL W c).getD i (0, 0)).1, i, [((prsL W c).getD i (0, 0)).2]⟩
def rowD : RowB := ⟨0, 0, []⟩
def pairB (c : Nat) (rows : List RowB) (k : Nat) : RowB := ⟨(rows.getD (2 * k) rowD).w + (rows.getD (2 * k + 1) rowD).w, c + 2 * k, (rows.getD (2 * k) rowD).ms ++ (rows.getD (2 * k + 1) rowD).ms⟩
def pairsB (c : Nat) (rows : List RowB) : List RowB := (List.range (rows.length / 2)).map (pairB c rows)
def limRows (W : Nat → Int) (c : Nat) : Nat → List RowB
  | 0 => []
  | m + 1 => (plainB W c ++ pairsB c (limRows W c m)).mergeSort leB
def limG (W : Nat → Int) (c m : Nat) : Nat → Nat := bump (fun _ => 0) (((limRows W c m).take (2 * c - 2)).flatMap (·.ms))
theorem prs_len (W : Nat → Int) (c : Nat) : (prsL W c).length = c := by
  unfold prsL
  rw [List.length_mergeSort, List.length_map, List.length_range]
theorem prs_low {W : Nat → Int} {c : Nat} {x : Int × Nat} (h : x ∈ prsL W c) : x.2 < c := by
  obtain ⟨i, hi, rfl⟩ := List.mem_map.mp ((List.mergeSort_perm _ lePr).mem_iff.mp h)
  exact List.mem_range.mp hi
theorem plain_len (W : Nat → Int) (c : Nat) : (plainB W c).length = c := by
  unfold plainB
  rw [List.length_map, List.length_range]
theorem lim_len (W : Nat → Int) (c : Nat) : ∀ m, (limRows W c m).length ≤ 2 * c
  | 0 => Nat.zero_le _
  | m + 1 => by
    have := lim_len W c m
    rw [limRows, List.length_mergeSort, List.length_append, plain_len]
    unfold pairsB
    rw [List.length_map, List.length_range]
    omega
theorem getD_of {α : Type} {l : List α} {i : Nat} {d x : α} (h : l[i]? = some x) : l.getD i d = x := by
  rw [List.getD_eq_getElem?_getD, h]
  rfl
theorem lim_ms (W : Nat → Int) (c : Nat) : ∀ m, ∀ r ∈ limRows W c m, (∀ k ∈ r.ms, k < c) ∧ r.ms.length ≤ 2 ^ m
  | 0, r, h => by cases h
  | m + 1, r, h => by
    have hm : 1 ≤ 2 ^ m := Nat.one_le_two_pow
    rw [limRows] at h
    rcases List.mem_append.mp ((List.mergeSort_perm _ leB).mem_iff.mp h) with h | h
    · obtain ⟨i, hi, rfl⟩ := List.mem_map.mp h
      have hi := List.mem_range.mp hi
      refine ⟨fun k hk => ?_, by show 1 ≤ _; rw [Nat.pow_succ]; omega⟩
      rw [List.mem_singleton.mp hk]
      have hl : i < (prsL W c).length := by rw [prs_len]; exact hi
      have e : (prsL W c)[i]? = some (prsL W c)[i] := List.getElem?_eq_getElem hl
      rw [getD_of e]
      exact prs_low (List.getElem_mem _)
    · obtain ⟨i, hi, rfl⟩ := List.mem_map.mp h
      have hi := List.mem_range.mp hi
      have e1 : (limRows W c m)[2 * i]? = some (limRows W c m)[2 * i] := List.getElem?_eq_getElem (by omega)
      have e2 : (limRows W c m)[2 * i + 1]? = some (limRows W c m)[2 * i + 1] := List.getElem?_eq_getElem (by omega)
      obtain ⟨a1, a2⟩ := lim_ms W c m _ (List.mem_of_getElem? e1)
      obtain ⟨b1, b2⟩ := lim_ms W c m _ (List.mem_of_getElem? e2)
      unfold pairB
      rw [getD_of e1, getD_of e2]
      refine ⟨fun k hk => ?_, ?_⟩
      · rcases List.mem_append.mp hk with hk | hk
        · exact a1 k hk
        · exact b1 k hk
      · show (List.append _ _).length ≤ _
        show (_ ++ _ : List Nat).length ≤ _
        rw [List.length_append, Nat.pow_succ]
        omega
theorem rgc_two : ∀ L : Nat, L ≤ 80 → RgC 0 ((L : Int) - 1) 2 (L / 2) := by
  have h : ∀ L : Fin 81, Builtin.Range.small 0 ((L.val : Int) - 1) 2 = true ∧ Builtin.Range.rangeSize 0 ((L.val : Int) - 1) 2 = ((L.val / 2 : Nat) : Int) := by decide +kernel
  intro L hL
  obtain ⟨a, b⟩ := h ⟨L, by omega⟩
  exact ⟨by decide, by decide, a, b⟩
/-- a row as it lies in the heap -/
def RowE (H : Hp) (t : Addr) (a : RowB) : Prop := ∃ L, H t = some (.tup [.int a.w, .int (a.n : Nat), .ref L]) ∧ H L = some (.lst (natsV a.ms))
theorem RowAt.toE {F : Addr} {H : Hp} {t : Addr} {a : RowB} (h : RowAt F H t a) : RowE H t a := by
  obtain ⟨L, _, h1, h2⟩ := h
  exact ⟨L, h1, h2⟩
theorem RowE.to {F : Addr} {H : Hp} {t : Addr} {a : RowB} (n : H F = none) (h : RowE H t a) : RowAt F H t a := by
  obtain ⟨L, h1, h2⟩ := h
  exact ⟨L, fun z => (by rw [z, n] at h2; cases h2), h1, h2⟩
theorem RowE.same {H H' : Hp} {t : Addr} {a : RowB} (s : Same H H') (h : RowE H t a) : RowE H' t a := by
  obtain ⟨L, h1, h2⟩ := h
  exact ⟨L, s _ _ h1, s _ _ h2⟩
theorem RowE.of {H : Hp} {t : Addr} {a : RowB} (h : RowE H t a) : rowOf H (.ref t) = a := by
  obtain ⟨L, h1, h2⟩ := h
  have e : (natsV a.ms).map natOf = a.ms := by
    unfold natsV
    rw [List.map_map]
    exact (List.map_congr_left fun i _ => show natOf (V.int (i : Nat)) = i from Int.toNat_natCast i).trans (List.map_id' _)
  simp only [rowOf, h1, h2, e, Int.toNat_natCast]
theorem RowE.dp {K : PySem.W.Frag} {H : Hp} {t : Addr} {a : RowB} (h : RowE H t a) : Dp K H (.ref t) (encRow a) := by
  obtain ⟨L, h1, h2⟩ := h
  exact .tup (.inl (.inl h1)) (.cons (.int _) (.cons (.int _) (.cons (.lst (.inl (.inl h2)) (dp_natsV _)) .nil)))
theorem sort_rowsB {H : Hp} {ps : List (Addr × RowB)} (h : ∀ p ∈ ps, RowE H p.1 p.2) :
    (ps.map fun p => V.ref p.1).mergeSort (PySem.W.dataLe false fun v => encRow (rowOf H v)) = (ps.mergeSort fun a b => leB a.2 b.2).map (fun p => V.ref p.1) ∧ (ps.mergeSort fun a b => leB a.2 b.2).map (·.2) = (ps.map (·.2)).mergeSort leB := by
  constructor
  · refine (List.map_mergeSort fun a hm b hb => ?_).symm
    show leB a.2 b.2 = !PySem.W.dataLt (encRow (rowOf H (.ref b.1))) (encRow (rowOf H (.ref a.1)))
    rw [(h b hb).of, (h a hm).of]
    rfl
  · exact List.map_mergeSort fun a _ b _ => rfl
/-! pairs (weight, number) -/
def prOf (H : Hp) : V → Int × Nat
  | .ref t => match H t with
    | some (.tup [.int w, .int n]) => (w, n.toNat)
    | _ => (0, 0)
  | _ => (0, 0)
def PrE (H : Hp) (t : Addr) (a : Int × Nat) : Prop := H t = some (.tup [.int a.1, .int (a.2 : Nat)])
theorem PrE.of {H : Hp} {t : Addr} {a : Int × Nat} (h : PrE H t a) : prOf H (.ref t) = a := by
  unfold PrE at h
  simp only [prOf, h, Int.toNat_natCast]
theorem PrE.dp {K : PySem.W.Frag} {H : Hp} {t : Addr} {a : Int × Nat} (h : PrE H t a) : Dp K H (.ref t) (encPr a) := .tup (.inl (.inl h)) (.cons (.int _) (.cons (.int _) .nil))
theorem pr_alike (a b : Int × Nat) : PySem.W.alike (encPr a) (encPr b) = true := by
  unfold encPr
  simp [PySem.W.alike, PySem.W.alikeAll]
theorem pr_depth (a : Int × Nat) : (encPr a).depth ≤ 50 := by
  unfold encPr
  simp only [PyData.depth, PyData.depthAll]
  decide
theorem sort_prs {H : Hp} {ps : List (Addr × (Int × Nat))} (h : ∀ p ∈ ps, PrE H p.1 p.2) :
    (ps.map fun p => V.ref p.1).mergeSort (PySem.W.dataLe false fun v => encPr (prOf H v)) = (ps.mergeSort fun a b => lePr a.2 b.2).map (fun p => V.ref p.1) ∧ (ps.mergeSort fun a b => lePr a.2 b.2).map (·.2) = (ps.map (·.2)).mergeSort lePr := by
  constructor
  · refine (List.map_mergeSort fun a hm b hb => ?_).symm
    show lePr a.2 b.2 = !PySem.W.dataLt (encPr (prOf H (.ref b.1))) (encPr (prOf H (.ref a.1)))
    rw [(h b hb).of, (h a hm).of]
    rfl
  · exact List.map_mergeSort fun a _ b _ => rfl
theorem zip_snd {α β : Type} (g : Nat → β) {l : List α} {c : Nat} (h : l.length = c) : (l.zip ((List.range c).map g)).map (·.1) = l ∧ (l.zip ((List.range c).map g)).map (·.2) = (List.range c).map g := by
  refine ⟨List.map_fst_zip (by rw [List.length_map, List.length_range]; omega), List.map_snd_zip (by rw [List.length_map, List.length_range]; omega)⟩
theorem zip_mem {α β : Type} {g : Nat → β} {l : List α} {c : Nat} (h : l.length = c) {x : α × β} (hx : x ∈ l.zip ((List.range c).map g)) : ∃ i, i < c ∧ l[i]? = some x.1 ∧ x.2 = g i := by
  obtain ⟨z1, z2⟩ := zip_snd g h
  obtain ⟨i, hi⟩ := List.getElem?_of_mem hx
  have i1 : l[i]? = some x.1 := by
    rw [← z1, List.getElem?_map, hi]
    rfl
  have i2 : ((List.range c).map g)[i]? = some x.2 := by
    rw [← z2, List.getElem?_map, hi]
    rfl
  have hic : i < c := h ▸ (List.getElem?_eq_some_iff.mp i1).1
  rw [List.getElem?_map, List.getElem?_range hic] at i2
  exact ⟨i, hic, i1, (Option.some.inj i2).symm⟩
theorem map_ref {β : Type} (ps : List (Addr × β)) : (ps.map fun p => V.ref p.1) = (ps.map (·.1)).map V.ref := by
  rw [List.map_map]
  rfl
theorem cutV_to (xs : List V) (k : Nat) : cutV xs none (some (k : Int)) = xs.take k := by
  unfold cutV
  rw [HT.sIx_nat, HT.sIx_none]
  by_cases h : k ≤ xs.length
  · rw [Nat.min_eq_left h]
    rfl
  · have e : xs.take k = xs := List.take_of_length_le (by omega)
    rw [Nat.min_eq_right (by omega), e]
    show (xs.drop 0).take xs.length = xs
    rw [List.drop_zero, List.take_length]
end St
namespace St
open PySem PySem.Spec PyProof.Rows L2
/-! ### books of lengths -/
def roomN (ls : List Nat) : Nat := (ls.map fun l => 2 ^ (60 - l)).sum
/-- lengths as the document wants them -/
structure IsLens (ls : List Nat) : Prop where
  l1 : 1 ≤ ls.length
  l40 : ls.length ≤ 40
  l60 : ∀ l ∈ ls, l ≤ 60
theorem geti_nat {ns : List Nat} {i : Nat} {x : V} (hx : (ns.map fun n => V.int (n : Nat))[i]? = some x) : ∃ z, ns[i]? = some z ∧ x = V.int (z : Nat) := by
  rw [List.getElem?_map] at hx
  cases e : ns[i]? with
  | none => rw [e] at hx; cases hx
  | some z => rw [e] at hx; exact ⟨z, rfl, (Option.some.inj hx).symm⟩
theorem sum_natInt (f : Nat → Nat) (ns : List Nat) : (ns.map fun n => ((f n : Nat) : Int)).sum = (((ns.map f).sum : Nat) : Int) := by
  induction ns with
  | nil => rfl
  | cons a r ih =>
    rw [List.map_cons, List.sum_cons, List.map_cons, List.sum_cons, ih, Int.natCast_add]
/-! the order by lengths, then by numbers; the words -/
def lexL (a b : Nat × Nat) : Prop := a.1 < b.1 ∨ (a.1 = b.1 ∧ a.2 < b.2)
structure IsOrd (ls : List Nat) (o : List (Nat × Nat)) : Prop where
  perm : o.Perm ls.zipIdx
  pw : o.Pairwise lexL
theorem pwl_ext : ∀ a b : List (Nat × Nat), a.Pairwise lexL → b.Pairwise lexL → (∀ x, x ∈ a ↔ x ∈ b) → a = b
  | [], [], _, _, _ => rfl
  | [], y :: b, _, _, h => absurd ((h y).mpr (List.mem_cons_self ..)) (by simp)
  | x :: a, [], _, _, h => absurd ((h x).mp (List.mem_cons_self ..)) (by simp)
  | x :: a, y :: b, ha, hb, h => by
    obtain ⟨h1, h2⟩ := List.pairwise_cons.mp ha
    obtain ⟨h3, h4⟩ := List.pairwise_cons.mp hb
    have asym : ∀ p q : Nat × Nat, lexL p q → lexL q p → False := fun p q u v => by
      unfold lexL at u v
      omega
    have exy : x = y := by
      rcases List.mem_cons.mp ((h x).mp (List.mem_cons_self ..)) with e | e
      · exact e
      rcases List.mem_cons.mp ((h y).mpr (List.mem_cons_self ..)) with e' | e'
      · exact e'.symm
      exact (asym _ _ (h3 x e) (h1 y e')).elim
    subst exy
    rw [pwl_ext a b h2 h4 fun z => ?_]
    constructor
    · intro hz
      rcases List.mem_cons.mp ((h z).mp (List.mem_cons_of_mem _ hz)) with e | e
      · exact (asym x x (e ▸ h1 z hz) (e ▸ h1 z hz)).elim
      · exact e
    · intro hz
      rcases List.mem_cons.mp ((h z).mpr (List.mem_cons_of_mem _ hz)) with e | e
      · exact (asym x x (e ▸ h3 z hz) (e ▸ h3 z hz)).elim
      · exact e
theorem IsOrd.one {ls : List Nat} {o p : List (Nat × Nat)} (h : IsOrd ls o) (h' : IsOrd ls p) : o = p :=
  pwl_ext o p h.pw h'.pw fun x => (h.perm.mem_iff).trans (h'.perm.mem_iff).symm
/-- the words, each at its number -/
def wordsO : List (Nat × Nat) → Nat → List (List Bool) → List (List Bool)
  | [], _, f => f
  | (l, n) :: r, c, f => wordsO r (c + 2 ^ (60 - l)) (f.set n (fig (c / 2 ^ (60 - l)) l))
theorem fig_pre (n : Nat) : ∀ (k l : Nat), l ≤ k → (fig n k).take l = fig (n / 2 ^ (k - l)) l := by
  intro k l h
  apply List.ext_getElem?
  intro i
  by_cases hi : i < l
  · rw [List.getElem?_take_of_lt hi, fig_get n k i (by omega), fig_get _ l i hi, Nat.div_div_eq_div_mul, ← Nat.pow_add, show k - l + (l - 1 - i) = k - 1 - i by omega]
  · rw [List.getElem?_eq_none (by rw [List.length_take, fig_len]; omega), List.getElem?_eq_none (by rw [fig_len]; omega)]
/-- two words of one book, the earlier one shorter or as long -/
theorem book_pre {c d l m : Nat} (hl : l ≤ m) (hm : m ≤ 60) (h : c + 2 ^ (60 - l) ≤ d) (hd : d < 2 ^ 60) : (fig (d / 2 ^ (60 - m)) m).take l ≠ fig (c / 2 ^ (60 - l)) l := by
  intro e
  rw [fig_pre _ m l hl, Nat.div_div_eq_div_mul, ← Nat.pow_add, show 60 - m + (m - l) = 60 - l by omega] at e
  have e2 := congrArg worth e
  rw [worth_fig, worth_fig] at e2
  have hp : 0 < 2 ^ (60 - l) := Nat.pow_pos (by decide)
  have h60 : 2 ^ 60 = 2 ^ l * 2 ^ (60 - l) := by rw [← Nat.pow_add]; congr 1; omega
  have b1 : d / 2 ^ (60 - l) < 2 ^ l := (Nat.div_lt_iff_lt_mul hp).mpr (by rw [← h60]; exact hd)
  have b2 : c / 2 ^ (60 - l) + 1 ≤ d / 2 ^ (60 - l) := by
    rw [← Nat.add_div_right _ hp]
    exact Nat.div_le_div_right h
  rw [Nat.mod_eq_of_lt b1, Nat.mod_eq_of_lt (by omega)] at e2
  omega
/-! sorting pairs on the heap -/
def kOf (H : Hp) : V → Int × Int
  | .ref t => match H t with
    | some (.tup [.int i, .int j]) => (i, j)
    | _ => (0, 0)
  | _ => (0, 0)
theorem kOf_at {H : Hp} {t : Addr} {i j : Int} (h : H t = some (.tup [.int i, .int j])) : kOf H (.ref t) = (i, j) := by
  simp only [kOf, h]
def pairOf (H : Hp) (x : V) : Nat × Nat := ((kOf H x).1.toNat, (kOf H x).2.toNat)
theorem pairOf_at {H : Hp} {t : Addr} {i j : Nat} (h : H t = some (.tup [.int (i : Nat), .int (j : Nat)])) : pairOf H (.ref t) = (i, j) := by
  unfold pairOf
  rw [kOf_at h]
  rfl
/-- vs are tuples of these pairs of numbers -/
theorem PrO_map {H : Hp} {xs : List V} {ps : List (Nat × Nat)} (hl : xs.length = ps.length) (h : ∀ (i : Nat) (p : Nat × Nat), ps[i]? = some p → ∃ t, xs[i]? = some (V.ref t) ∧ H t = some (.tup [.int (p.1 : Nat), .int (p.2 : Nat)])) : xs.map (pairOf H) = ps := by
  apply List.ext_getElem?
  intro i
  rw [List.getElem?_map]
  cases e : ps[i]? with
  | none =>
    have := List.getElem?_eq_none_iff.mp e
    rw [List.getElem?_eq_none (by omega)]
    rfl
  | some p =>
    obtain ⟨t, h1, h2⟩ := h i p e
    rw [h1]
    show some (pairOf H (.ref t)) = _
    rw [pairOf_at h2]
theorem ord_of {H : Hp} {xs ys : List V} {ls : List Nat} (hm : xs.map (pairOf H) = ls.zipIdx) (hx : ∀ x ∈ xs, ∃ t, ∃ i j : Nat, x = V.ref t ∧ H t = some (.tup [.int (i : Nat), .int (j : Nat)])) (hs : SrtO.Srtd (ltP (kOf H)) ys) (hp : SrtO.Stb (ltP (kOf H)) ys xs) : IsOrd ls (ys.map (pairOf H)) := by
  have pm : (ys.map (pairOf H)).Perm ls.zipIdx := by
    rw [← hm]
    exact hp.perm.map _
  refine ⟨pm, ?_⟩
  have p0 : ls.zipIdx.Pairwise (fun p q => p.2 ≠ q.2) := List.pairwise_map.mp (by rw [List.zipIdx_map_snd]; exact List.nodup_range')
  have p1 : (ys.map (pairOf H)).Pairwise (fun p q => p.2 ≠ q.2) := (pm.pairwise_iff (fun h => Ne.symm h)).mpr p0
  refine List.pairwise_map.mpr ?_
  refine List.Pairwise.imp_of_mem ?_ (hs.and (List.pairwise_map.mp p1))
  rintro x y hxm hym ⟨h1, h2⟩
  obtain ⟨t, i, j, rfl, e1⟩ := hx x (hp.perm.mem_iff.mp hxm)
  obtain ⟨u, i', j', rfl, e2⟩ := hx y (hp.perm.mem_iff.mp hym)
  have h3 := SrtO.lexB_no.mp h1
  rw [kOf_at e1, kOf_at e2] at h3
  rw [pairOf_at e1, pairOf_at e2] at h2 ⊢
  unfold lexL
  dsimp only at *
  omega
theorem set_map_tx (f : List (List Bool)) (n : Nat) (w : List Bool) : ((f.map fun w => V.str (tx w)).set n (V.str (tx w))) = (f.set n w).map fun w => V.str (tx w) := by
  rw [List.map_set]
theorem rep_empty (n : Nat) : (List.replicate n [V.str ("" : Str)]).flatten = (List.replicate n ([] : List Bool)).map fun w => V.str (tx w) := by
  rw [tx_nil]
  induction n with
  | zero => rfl
  | succ n ih =>
    rw [List.replicate_succ, List.flatten_cons, ih, List.replicate_succ, List.map_cons]
    rfl
theorem Sm.fresh {h q F : Addr} {H H' : Hp} (S : Sm h q H H') (L : LawH H' h q) (n : H' F = none) : H F = none ∧ F ≠ h ∧ F ≠ q := by
  obtain ⟨a, b⟩ := L.nn
  have n1 : F ≠ h := fun z => a (z ▸ n)
  have n2 : F ≠ q := fun z => b (z ▸ n)
  refine ⟨?_, n1, n2⟩
  cases e : H F with
  | none => rfl
  | some o => rw [S _ _ e n1 n2] at n; cases n
theorem Sm.updL {h q F : Addr} {H H' : Hp} {o : HO} (S : Sm h q H H') (n : H F = none) : Sm h q H (upd H' F o) := fun b u hb n1 n2 => by
  rw [upd_ne (fun z => by rw [z, n] at hb; cases hb)]
  exact S b u hb n1 n2
end St
namespace St
open PySem PySem.Spec PyProof.Rows L2
/-! ### enumerate over a tuple, over a text -/
theorem meets_enumT (l : Addr) (items : Array Value) (n : Nat) (dct : Option Addr) (sl : Array (Option Value)) :
    Meets (Builtin.«enumerate.__new__» ⟨[.type "enumerate", .ref l], []⟩) (fun _ R s => s.heap.get? l = some { cls := .type "tuple", dict := dct, data := .seq items n, slots := sl } ∧
      R (.ok (.ret (.ref (s.heap.push { cls := .type "tuple_iterator", data := .fields #[.ref l, .int 0 0] }).objs.size)))
        { s with heap := (s.heap.push { cls := .type "tuple_iterator", data := .fields #[.ref l, .int 0 0] }).push { cls := .type "enumerate", data := .fields #[.none, .bool false, .ref s.heap.objs.size, rawInt 0, .none, .none] } }) :=
  .of_wp fun prog w A R s h => by
    obtain ⟨hp, g, d, tk, os⟩ := s; obtain ⟨hl, h⟩ := h
    have hsub := sub_enumerate
    have hL : Heap.IsTuple (Shared.heap ⟨hp, g, d, tk, os⟩) l items := ⟨_, hl, rfl, n, rfl⟩
    wp_walk using AutoSeq1.wpAny_loadPart' hl
    refine wpAny_stack_any fun st => wpAny_pure ?_
    split
    · rename_i c _ _ _ _ _
      cases (c == Value.type "enumerate")
      · wp_walk using AutoSeq1.wpAny_loadPart' hl, wpAny_pyIter_tuple hL
        exact ⟨_, rfl, h⟩
      · wp_walk using AutoSeq1.wpAny_loadPart' hl, wpAny_pyIter_tuple hL
        exact ⟨_, rfl, h⟩
    · wp_walk using AutoSeq1.wpAny_loadPart' hl, wpAny_pyIter_tuple hL
      exact ⟨_, rfl, h⟩
section
variable {prog : Program} {w : World} {A : Around} {E : Value → Shared → Prop} {s : Shared}
theorem call_enumT {l : Addr} {items : Array Value} {Q : Value → Shared → Prop} (hL : s.heap.IsTuple l items)
    (h : ∀ h', IsEnum h' (s.heap.objs.size + 1) s.heap.objs.size 0 .none → h'.IsTupleIter s.heap.objs.size l 0 → h'.objs.size = s.heap.objs.size + 2 →
      (∀ b o, s.heap.get? b = some o → h'.get? b = some o) → Q (.ref (s.heap.objs.size + 1)) { s with heap := h' }) :
    wpAny (model prog w) A (call (.type "enumerate") [.ref l]) Q E s := by
  obtain ⟨⟨c, dct, dt, sl⟩, hl, hc, n, hd⟩ := hL
  replace hc : c = .type "tuple" := hc
  replace hd : dt = .seq items n := hd
  subst hc hd
  refine callType_new F.called_enumerate (by decide) (F.typeCall_enumerate_1 _) (F.newCall_enumerate_1 _) (fun obj => F.args_object_init_2 obj _) F.entry_enumerate_new
    (meets_enumT l items n dct sl) ⟨hl, ?_⟩
  have hz : (s.heap.push { cls := .type "tuple_iterator", data := .fields #[.ref l, .int 0 0] }).objs.size = s.heap.objs.size + 1 := Heap.size_push ..
  show _ ∧ _
  rw [hz]
  have he : IsEnum ((s.heap.push { cls := .type "tuple_iterator", data := .fields #[.ref l, .int 0 0] }).push
      { cls := .type "enumerate", data := .fields #[.none, .bool false, .ref s.heap.objs.size, rawInt 0, .none, .none] }) (s.heap.objs.size + 1) s.heap.objs.size 0 .none := by
    have := Heap.get?_push_size (s.heap.push { cls := .type "tuple_iterator", data := .fields #[.ref l, .int 0 0] })
      (o := { cls := .type "enumerate", data := .fields #[.none, .bool false, .ref s.heap.objs.size, rawInt 0, .none, .none] }) rfl
    rw [hz] at this; exact this
  refine ⟨⟨_, he, rfl⟩, h _ he ⟨_, Heap.get?_push_of_some _ (Heap.get?_push_size _ rfl), rfl, rfl⟩ (by rw [Heap.size_push, hz]) fun b o x => Heap.get?_push_of_some _ (Heap.get?_push_of_some _ x)⟩
end
theorem drawsT {prog : Program} {w : World} {A : Around} (hh : A.handled = none) (it l : Addr) (hne : l ≠ it) (items : Array Value) :
    Draws prog w A it [it, l] items.size (fun i v => items[i]? = some v) (fun i h => h.IsTupleIter it l i ∧ h.IsTuple l items) where
  live := fun _ _ st => let ⟨o, ho, _⟩ := st.1; ⟨o, ho⟩
  frame := fun _ _ _ st hk => ⟨st.1.at fun o e => hk it (by simp) o e, let ⟨o, ho, r⟩ := st.2; ⟨o, hk l (by simp) o ho, r⟩⟩
  item := fun i s Q E hi st hQ => by
    refine RZ.nextOf_tuple_item st.1 st.2 (x := items[i]) (by simp [hi]) fun h' hit' hs' => ?_
    obtain ⟨o, ho, r⟩ := st.2
    exact hQ _ h' s.toks (by simp [hi]) ⟨hit', o, hs'.extBut l o hne ho, r⟩ hs'
  done := fun s Q E st hE => RZ.nextOf_tuple_end hh st.1 st.2 (by simp) hE
theorem enumT_end {prog : Program} {w : World} {A : Around} {E : Value → Shared → Prop} {s : Shared} {e it a : Addr} {i : Nat} {items : Array Value} {z : Int} {old : Value} {Q : Option Value → Shared → Prop} (hh : A.in1.handled = none)
    (he : IsEnum s.heap e it z old) (hit : s.heap.IsTupleIter it a i) (ht : s.heap.IsTuple a items) (hx : items[i]? = none)
    (hQ : ∀ h', Heap.ExtBut it s.heap h' → Q none { s with heap := h' }) : wpAny (model prog w) A (pyNext (.ref e)) Q E s := by
  have hT : s.TypeIs (.ref e) "enumerate" := ⟨_, he, rfl⟩
  unfold pyNext
  refine wpAny_bind (wpAny_attempt (wpAny_callSpecial?_slot (name := Str.ofString "__next__") hT F.slot_enumerate_next
    (wpAny_call_entry F.slot_enumerate_next hT F.entry_enumerate_next ?_ (F.args_enumerate_next_1 _))))
  show wpAny _ _ (field (.ref e) 2 >>= _) _ _ _
  refine wpAny_bind (wpAny_field he rfl (x := .ref it) rfl ?_)
  refine wpAny_bind (RZ.nextOf_tuple_end hh hit ht hx fun h' x he' hx' => ?_)
  obtain ⟨o, ho, hc⟩ := hx'
  refine wpAny_bind (wpAny_isInstance (T := "StopIteration") (b := true) ⟨o, ho, hc⟩ isSubtype_stop ?_)
  exact wpAny_pure (hQ _ he')
/-- the tuple at a, each item in a new pair -/
def IteT (K : PySem.W.Frag) (a : Addr) : It :=
  ⟨fun i H => ∃ (xs : List V) (x : V), SqT K H a xs ∧ xs[i]? = some x, fun i H v H' => ∃ T x, v = .ref T ∧ H T = none ∧ H' = upd H T (.tup [.int (i : Nat), x]) ∧ ∀ xs, SqT K H a xs → xs[i]? = some x, fun i H => ∃ xs : List V, SqT K H a xs ∧ xs.length ≤ i⟩
theorem turn_enumT {P : Program} {w : World} {K : PySem.W.Frag} {elts : List Expr} {kk : Nat} {tpos : Pos} (a e it : Addr) :
    Turn P w K (.Tuple elts kk tpos) (IteT K a) [e, it] e (fun i h => (∃ old, IsEnum h e it ((i : Nat) : Int) old) ∧ h.IsTupleIter it a i ∧ e ≠ it) where
  mem := by simp
  obj := fun i h st b hb => by
    obtain ⟨⟨old, he⟩, ⟨o, ho, hc, hd⟩, _⟩ := st
    have e' : b = e ∨ b = it := by simpa using hb
    rcases e' with z | z
    · rw [z]; exact ⟨_, he, fun v q => nomatch q⟩
    · rw [z]; exact ⟨o, ho, fun v q => by rw [hd] at q; cases q⟩
  keep := fun i h h' st k => let ⟨⟨old, he⟩, hi, hne⟩ := st; ⟨⟨old, k e (by simp) _ he⟩, hi.at fun o q => k it (by simp) o q, hne⟩
  item := by
    intro X hP hw hK hc i pins s σ H E I hf st hg
    subst hP hw hK
    obtain ⟨⟨old, he⟩, hit, hne⟩ := st
    obtain ⟨xs, x, hq, hx⟩ := hg
    obtain ⟨its, rv, p, hz⟩ := I.tuple hq
    obtain ⟨u, hu, ru⟩ := rv.get hx
    have hel : e < s.heap.objs.size := Heap.lt_size he
    have hil : it < s.heap.objs.size := by obtain ⟨_, q, _⟩ := hit; exact Heap.lt_size q
    have nai : a ≠ it := fun z => by
      obtain ⟨o1, q1, c1, _⟩ := p
      obtain ⟨o2, q2, c2, _⟩ := hit
      rw [z, q2] at q1
      rw [Option.some.inj q1, c1] at c2
      exact absurd (Value.type.inj c2) (by decide)
    have nae : a ≠ e := fun z => by
      obtain ⟨o1, q1, c1, _⟩ := p
      have q2 : s.heap.get? e = _ := he
      rw [z, q2] at q1
      rw [← Option.some.inj q1] at c1
      exact absurd (Value.type.inj c1) (by decide)
    have hlt : i < its.toArray.size := by
      have := (List.getElem?_eq_some_iff.mp hu).1
      simpa using this
    refine wpAny_pyNext_enum_itemD (drawsT (show X.A.in1.handled = none from I.ok.hd hc) it a nai its.toArray) he ⟨hit, p⟩ hlt hne (by simp; exact ⟨hne, Ne.symm nae⟩) fun x' h' tk hPx ho hst hT hsz hk => ?_
    have exu : x' = u := by
      have : its[i]? = some x' := by simpa using hPx
      rw [hu] at this
      exact (Option.some.inj this).symm
    subst exu
    refine ⟨_, rfl, wpAny_letOwnedTupleGo_enum (s := { s with heap := h', toks := tk + 1 }) ho fun h'' he' sb => ?_⟩
    have hT2 : h''.get? s.heap.objs.size = some { cls := .type "tuple", data := .seq #[.int i tk, x'] } := (sb.2 _ (Nat.ne_of_gt hel)).trans hT
    have new : ObjOk X.prog X.w (upd H s.heap.objs.size (.tup [.int (i : Nat), x])) h'' s.heap.objs.size (.tup [.int (i : Nat), x]) :=
      ⟨by show 2 ≤ sizeLine; decide, [.int i tk, x'], .cons ⟨_, rfl⟩ (.cons ru .nil), ⟨_, hT2, rfl, _, rfl⟩⟩
    have I1 : Inv X pins σ (upd H s.heap.objs.size (.tup [.int (i : Nat), x])) { s with heap := h'', toks := tk + 1 } :=
      I.turnedNew (ch := [e, it]) (fun b ob hb q => (sb.2 b (fun z => hb (by simp [z]))).trans (hk b ob (fun z => hb (by simp [z])) (fun z => hb (by simp [z])) q)) hf (Nat.le_refl _) new
    refine ⟨.ref s.heap.objs.size, _, I1, rfl, ⟨_, x, rfl, I.hok.fresh (Nat.le_refl _), rfl, fun ys hy => by rw [I.tuple_inj hy hq]; exact hx⟩, ⟨⟨x', ?_⟩, hst.1.at fun o q => (sb.2 it (Ne.symm hne)).trans q, hne⟩, fun b hb => ?_⟩
    · have e1 : ((i + 1 : Nat) : Int) = (i : Int) + 1 := by omega
      rw [e1]; exact he'
    · have hb' : b < s.heap.objs.size := by
        have e' : b = e ∨ b = it := by simpa using hb
        rcases e' with z | z
        · rw [z]; exact hel
        · rw [z]; exact hil
      rw [upd_ne (Nat.ne_of_lt hb')]
      exact (hf b hb).1
  done := by
    intro X hP hw hK hc i pins s σ H E I hf st hg
    subst hP hw hK
    obtain ⟨⟨old, he⟩, hit, hne⟩ := st
    obtain ⟨xs, hq, hx⟩ := hg
    obtain ⟨its, rv, p, hz⟩ := I.tuple hq
    obtain ⟨f0, f1, f2, f3, f4, f5⟩ := hf it (by simp)
    have hl := rv.length
    exact enumT_end (show X.A.in1.handled = none from I.ok.hd hc) he hit p (by simp; omega) fun h' eb => ⟨rfl, I.turned (t' := s.toks) (fun b o hb q => eb b o hb q) f0 f1 f3 f4 f5⟩
  self := fun A i s Q E st h => let ⟨⟨_, he⟩, _⟩ := st; wpAny_pyIter_enum he h
def iEnumT (K : PySem.W.Frag) (ta : TA) : TI := fun σ H R => ta σ H fun vs H1 => ∃ a xs, vs = [.ref a] ∧ SqT K H1 a xs ∧ R (IteT K a) H1
theorem pi_enumT {X : Cx} {e : Expr} {ta : TA} {p pos tpos : Pos} {elts : List Expr} {kk : Nat} (hg : Gl X "enumerate") (hm : X.mg "enumerate" = none) (ha : PA X [e] ta) (hs : starEach [e] X.env = [(false, eval e X.env)] := by rfl) :
    PI X (.Tuple elts kk tpos) (.Call (.Name "enumerate" p) [e] [] pos) (iEnumT X.K ta) := by
  refine ⟨fun pins s σ H R I h => ?_⟩
  refine Call_ (ld_blt I hg hm boot_enumerate (PyProof.Rows.callWith_type1 (thn (ha.run pos pins s σ H _ I h) fun us s1 ⟨vs, H1, I1, r1, q1⟩ => ?_) hs rfl))
  obtain ⟨a, xs, ex, hq, q⟩ := q1
  subst ex
  cases r1 with
  | cons r rr =>
    cases rr
    cases r
    obtain ⟨its, rv, p', hz⟩ := I1.tuple hq
    refine call_enumT p' fun h' he hit hsz hk => wpAny_pyIter_enum he ?_
    have I2 : Inv X pins σ H1 { s1 with heap := h' } := I1.kept (t' := s1.toks) hk
    refine ⟨s1.heap.objs.size + 1, [s1.heap.objs.size + 1, s1.heap.objs.size], _, _, H1, rfl, I2, turn_enumT a (s1.heap.objs.size + 1) s1.heap.objs.size, ⟨⟨.none, he⟩, hit, Nat.succ_ne_self _⟩, fun b hb => ?_, q⟩
    have e' : b = s1.heap.objs.size + 1 ∨ b = s1.heap.objs.size := by simpa using hb
    have hle : s1.heap.objs.size ≤ b := by
      rcases e' with z | z
      · rw [z]; exact Nat.le_add_right _ _
      · rw [z]; exact Nat.le_refl _
    exact I1.fpOk hle (I1.hok.fresh hle)
/-- a walk over an enumerated tuple that stands still -/
theorem for_enumT {K : PySem.W.Frag} {a : Addr} {xs : List V} {g : TG} {tb : TS} {D : Ends} {σ : List (Option V)} {H : Hp} (Pv : Nat → List (Option V) → Hp → Prop) (h0 : Pv 0 σ H) (hl : ∀ i σ H, i ≤ xs.length → Pv i σ H → SqT K H a xs)
    (hs : ∀ i x σ H T, xs[i]? = some x → Pv i σ H → H T = none → g (.ref T) σ (upd H T (.tup [.int (i : Nat), x])) fun σ2 H2 => tb { D with nx := Pv (i + 1), ct := Pv (i + 1), bk := D.nx } σ2 H2) (hd : ∀ σ H, Pv xs.length σ H → D.nx σ H) :
    ∃ W : Nat → Nat → List (Option V) → Hp → Prop, (∃ m, W 0 m σ H) ∧ ∀ i m σ H, W i m σ H →
      ((IteT K a).stop i H ∧ D.nx σ H) ∨ ((IteT K a).go i H ∧ ∃ N : List (Option V) → Hp → Prop, (∀ σ' H', N σ' H' → ∃ m', m' < m ∧ W (i + 1) m' σ' H') ∧ ∀ x H', (IteT K a).yld i H x H' → g x σ H' fun σ2 H2 => tb { D with nx := N, ct := N, bk := D.nx } σ2 H2) := by
  refine ⟨fun i m σ H => m = xs.length - i ∧ i ≤ xs.length ∧ Pv i σ H, ⟨xs.length, by simp, Nat.zero_le _, h0⟩, ?_⟩
  rintro i m σ H ⟨rfl, hi, p⟩
  have q := hl i σ H hi p
  by_cases hlt : i < xs.length
  · refine .inr ⟨⟨xs, xs[i], q, by simp [hlt]⟩, Pv (i + 1), fun σ' H' p' => ⟨xs.length - (i + 1), by omega, rfl, hlt, p'⟩, fun x H' y => ?_⟩
    obtain ⟨T, z, rfl, nT, rfl, y⟩ := y
    exact hs i z σ H T (y xs q) p nT
  · have e : i = xs.length := by omega
    subst e
    exact .inl ⟨⟨xs, q, Nat.le_refl _⟩, hd σ H p⟩
/-- a comprehension over an enumerated tuple -/
theorem lc_enumT {K : PySem.W.Frag} {a : Addr} {xs : List V} {g : TG} {tt : TT} {te : TE} {vs : List Nat} {σ : List (Option V)} {H1 : Hp} {D : Addr} {Qd : Hp → Prop} (Pv : Nat → Hp → Prop) (h0 : Pv 0 (upd H1 D (.lst []))) (hl : ∀ i H, i ≤ xs.length → Pv i H → SqT K H a xs)
    (hs : ∀ i x H T, xs[i]? = some x → Pv i H → H T = none → g (.ref T) (wipe σ vs) (upd H T (.tup [.int (i : Nat), x])) fun σ2 H2 => wipe σ2 vs = wipe σ vs ∧ tt σ2 H2 fun b H3 =>
      if b = true then te σ2 H3 fun y H4 => ∃ acc, H4 D = some (.lst acc) ∧ acc.length < sizeLine ∧ Pv (i + 1) (upd H4 D (.lst (acc ++ [y]))) else Pv (i + 1) H3) (hd : ∀ H, Pv xs.length H → Qd H) :
    ∃ W : Nat → Nat → Hp → Prop, (∃ m, W 0 m (upd H1 D (.lst []))) ∧ ∀ i m H, W i m H →
      ((IteT K a).stop i H ∧ Qd H) ∨ ((IteT K a).go i H ∧ ∃ Nx : Hp → Prop, (∀ H', Nx H' → ∃ m', m' < m ∧ W (i + 1) m' H') ∧ ∀ x H', (IteT K a).yld i H x H' → g x (wipe σ vs) H' fun σ2 H2 => wipe σ2 vs = wipe σ vs ∧ tt σ2 H2 fun b H3 =>
        if b = true then te σ2 H3 fun y H4 => ∃ acc, H4 D = some (.lst acc) ∧ acc.length < sizeLine ∧ Nx (upd H4 D (.lst (acc ++ [y]))) else Nx H3) := by
  refine ⟨fun i m H => m = xs.length - i ∧ i ≤ xs.length ∧ Pv i H, ⟨xs.length, by simp, Nat.zero_le _, h0⟩, ?_⟩
  rintro i m H ⟨rfl, hi, p⟩
  have q := hl i H hi p
  by_cases hlt : i < xs.length
  · refine .inr ⟨⟨xs, xs[i], q, by simp [hlt]⟩, Pv (i + 1), fun H' p' => ⟨xs.length - (i + 1), by omega, rfl, hlt, p'⟩, fun x H' y => ?_⟩
    obtain ⟨T, z, rfl, nT, rfl, y⟩ := y
    exact hs i z H T (y xs q) p nT
  · have e : i = xs.length := by omega
    subst e
    exact .inl ⟨⟨xs, q, Nat.le_refl _⟩, hd H p⟩
end St
namespace St
open PySem PySem.Spec PyProof.Rows L2
/-! ### own errors -/
/-- the class at x -/
def ClsAt (K : PySem.W.Frag) (x : Str) (C : Addr) : Prop := PySem.W.nsIn K mainGlobals x = some (some (.ref C))
theorem ClsAt.one {K : PySem.W.Frag} {x : Str} {C D : Addr} (h : ClsAt K x C) (h' : ClsAt K x D) : C = D := by
  have := h.symm.trans h'
  cases this
  rfl
/-- what the top has written of an own error class without own __init__ -/
structure ExT (K : PySem.W.Frag) (mg : Str → Option Value) (x : Str) (C : Addr) : Prop where
  n : ClsAt K x C
  g : mg x = some (.ref C)
  q : PySem.W.excIn K C [.type "ValueError", .type "Exception", .type "BaseException", .type "object"] "ValueError.__new__" = true
  k : PySem.W.keepIn K (.ref C) = true
  b : PySem.W.subIn K (.ref C) (.type "BaseException") = some true
  t : PySem.W.typeIn K (.ref C) = some (.type "type")
  d : PySem.W.hasDictIn K C = true
  s : PySem.W.subIn K (.ref C) (.ref C) = some true
theorem ExT.te {K : PySem.W.Frag} {mg : Str → Option Value} {x : Str} {C : Addr} (T : ExT K mg x C) : PySem.W.exmOne K (.ref C) (.ref C) = some true :=
  PySem.W.exm_ref T.b T.d T.t T.s
/-- as Cal, of a def that may raise -/
structure CalR (P : Program) (w : World) (K : PySem.W.Frag) (mg : Str → Option Value) (base : Heap) (x : Str) (ps : List Str) (k : Nat) (sp : Sp) (f : Addr) (fd : FuncData) : Prop where
  ok : FnOk P w K mg base (L2.CX P w) k f fd ps sp
  g : mg x = some (.ref f)
  kp : PySem.W.keepIn K (.ref f) = true
  b : Binds K fd ps []
def CalX (P : Program) (w : World) (K : PySem.W.Frag) (mg : Str → Option Value) (base : Heap) (x : Str) (ps : List Str) (k : Nat) (sp : Sp) : Prop := ∃ f fd, CalR P w K mg base x ps k sp f fd
section
variable {X : Cx} {C : Addr} {bmB : List Value} {B newId initId : String}
/-- X() -/
theorem pmk_own0 {x : Str} {p pos : Pos} (F : ExcBaseFacts B newId initId bmB) (q : PySem.W.excIn X.K C bmB newId = true) (gC : X.mg x = some (.ref C)) (kC : PySem.W.keepIn X.K (.ref C) = true) (r : Raises X (.ref C)) (hg : Gl X x)
    (hdb : (x == ("__debug__" : Str)) = false := by decide) : PMk X (.Call (.Name x p) [] [] pos) (fun _ H Q => Q (.ref C) none H) := by
  intro pins s σ H Q I h
  refine wpAny_Call_Name_kw (ld_glob I hg gC ?_ hdb)
  refine PySem.W.callWith_K0 I.kIn kC ?_
  show wpAny _ _ (call (.ref C) []) _ _ _
  obtain ⟨bm, N, nm, qn, bs, hdct, sn, sub, ab, col, dd, k0, k1, k2, k3, k5, mN, hC, hN, hni, T⟩ := exc_obj I.kIn q
  refine wpAny_call_exc_subT F T hC hN hni (fun h' e hm => ?_) (Nat.zero_le _)
  exact mk_of I hm r h (I.hok.gone hm.new)
theorem ps_raise0 {x : Str} {p pos pos2 : Pos} {W : WX} (tk : Takes X W) (T : ExT X.K X.mg x C) (hg : Gl X x) (hdb : (x == ("__debug__" : Str)) = false := by decide) (hc : X.calm = true := by rfl) :
    PS X (.Raise (some (.Call (.Name x p) [] [] pos)) none pos2) (fun _ σ H => W (.ref C) none σ H) :=
  ps_raise hc tk (pmk_own0 PySem.F.excBase_ValueError T.q T.g T.k (raises_own T.b T.t) hg hdb)
/-- isinstance(e, c), e the error that the suite holds -/
theorem call_isX {a D : Addr} {oe : Obj} {cls : Value} {d : Option Addr} {pn : List (Addr × Obj)} (E : ExcC X.K D) (hz : Zc cls d oe) (hf : ∃ vs, oe.data = .fields vs) :
    CallR (X.suite a ((a, oe) :: pn)) (.builtin "isinstance") (fun xs H Q => cls = .ref D ∧ d = none ∧ rIsE X.K D a xs H Q) := by
  intro pins s σ H xs us Q I r h
  obtain ⟨rfl, rfl, h⟩ := h
  exact call_isE E hz hf pins s σ H xs us Q I r h
end
theorem kit_sub {K : PySem.W.Frag} {C S : Addr} (hd : PySem.W.hasDictIn K S = true) (ht : PySem.W.typeIn K (.ref S) = some (.type "type")) (h : PySem.W.subIn K (.ref C) (.ref S) = some true) : PySem.W.kitOne K (.ref C) (.ref S) = some true := by
  obtain ⟨cd, hc, _⟩ := PySem.W.any_some hd
  have e : ((PySem.W.clsIn K S).isSome && PySem.W.typeIn K (.ref S) == some (.type "type")) = true := by rw [hc, ht] <;> rfl
  show (if (Value.ref C == Value.ref S) = true then some true else (if ((PySem.W.clsIn K S).isSome && PySem.W.typeIn K (.ref S) == some (.type "type")) = true then PySem.W.subIn K (.ref C) (.ref S) else none)) = some true
  rw [if_pos e, h]
  split <;> rfl
end St
namespace St
open PySem PySem.Spec PyProof.Rows L2
/-! ### zip of a list and a tuple -/
/-- the list at a and the tuple at b as they stand at each turn, the items in new pairs -/
def ItzM (K : PySem.W.Frag) (a b : Addr) : It :=
  ⟨fun i H => ∃ (xs ys : List V) (x y : V), SqL K H a xs ∧ SqT K H b ys ∧ xs[i]? = some x ∧ ys[i]? = some y,
    fun i H v H' => ∃ T x y, v = .ref T ∧ H T = none ∧ H' = upd H T (.tup [x, y]) ∧ (∀ xs, SqL K H a xs → xs[i]? = some x) ∧ ∀ ys, SqT K H b ys → ys[i]? = some y,
    fun i H => ∃ xs ys : List V, SqL K H a xs ∧ SqT K H b ys ∧ xs.length = i ∧ ys.length = i⟩
theorem turn_zipM {P : Program} {w : World} {K : PySem.W.Frag} {elts : List Expr} {kk : Nat} {tpos : Pos} {a b z TI TO i1 i2 : Addr} (S : PySem.ZipSep2 z TI TO i1 i2 [i1, a] [i2, b]) (na : a ≠ i1) (nb : b ≠ i2) :
    Turn P w K (.Tuple elts kk tpos) (ItzM K a b) [z, TI, TO, i1, i2] z (fun i h => IsZip h z TI TO .none ∧ PySem.IsTupOf2 h TI (.ref i1) (.ref i2) ∧ (∃ x y, PySem.IsTupOf2 h TO x y) ∧ h.IsListIter i1 a i ∧ h.IsTupleIter i2 b i) where
  mem := by simp
  obj := fun i h st c hc => by
    obtain ⟨hz, hTI, ⟨x, y, hTO⟩, ⟨o1, e1, _, d1⟩, ⟨o2, e2, _, d2⟩⟩ := st
    have e' : c = z ∨ c = TI ∨ c = TO ∨ c = i1 ∨ c = i2 := by simpa using hc
    rcases e' with q | q | q | q | q
    · rw [q]; exact ⟨_, hz, fun v q => nomatch q⟩
    · rw [q]; exact ⟨_, hTI, fun v q => nomatch q⟩
    · rw [q]; exact ⟨_, hTO, fun v q => nomatch q⟩
    · rw [q]; exact ⟨o1, e1, fun v q => by rw [d1] at q; cases q⟩
    · rw [q]; exact ⟨o2, e2, fun v q => by rw [d2] at q; cases q⟩
  keep := fun i h h' st k => by
    obtain ⟨hz, hTI, ⟨x, y, hTO⟩, h1, h2⟩ := st
    exact ⟨k z (by simp) _ hz, k TI (by simp) _ hTI, ⟨x, y, k TO (by simp) _ hTO⟩, h1.at fun o q => k i1 (by simp) o q, h2.at fun o q => k i2 (by simp) o q⟩
  item := by
    intro X hP hw hK hc i pins s σ H E I hf st hg
    subst hP hw hK
    obtain ⟨hz, hTI, ⟨x0, y0, hTO⟩, h1, h2⟩ := st
    obtain ⟨xs, ys, x, y, hqx, hqy, hx, hy⟩ := hg
    obtain ⟨its, rv, p, _⟩ := I.list hqx
    obtain ⟨its2, rv2, p2, _⟩ := I.tuple hqy
    obtain ⟨u, hu, ru⟩ := rv.get hx
    obtain ⟨u2, hu2, ru2⟩ := rv2.get hy
    have hzl : z < s.heap.objs.size := Heap.lt_size hz
    have hlt1 : i < its.toArray.size := by simpa using (List.getElem?_eq_some_iff.mp hu).1
    have hlt2 : i < its2.toArray.size := by simpa using (List.getElem?_eq_some_iff.mp hu2).1
    refine PySem.wpAny_pyNext_zipD2_item S (Draws.list (show X.A.in1.handled = none from I.ok.hd hc) i1 a na its.toArray) (PySem.Draws.tuple (show X.A.in1.handled = none from I.ok.hd hc) i2 b nb its2.toArray) hz hTI hTO ⟨h1, p.isList⟩ ⟨h2, p2⟩ hlt1 hlt2 fun x1 x2 h' tk q1 q2 z' TO' t1 t2 hT hsz hk => ?_
    have ex1 : x1 = u := by
      have : its[i]? = some x1 := by simpa using q1
      rw [hu] at this
      exact (Option.some.inj this).symm
    have ex2 : x2 = u2 := by
      have : its2[i]? = some x2 := by simpa using q2
      rw [hu2] at this
      exact (Option.some.inj this).symm
    subst ex1 ex2
    refine ⟨_, rfl, wpAny_letOwnedTupleGo_zip (s := { s with heap := h', toks := tk }) z' fun h'' z'' sb => ?_⟩
    have hT2 : h''.get? s.heap.objs.size = some { cls := .type "tuple", data := .seq #[x1, x2] } := (sb.2 _ (Nat.ne_of_gt hzl)).trans hT
    have new : ObjOk X.prog X.w (upd H s.heap.objs.size (.tup [x, y])) h'' s.heap.objs.size (.tup [x, y]) :=
      ⟨by show 2 ≤ sizeLine; decide, [x1, x2], .cons ru (.cons ru2 .nil), ⟨_, hT2, rfl, _, rfl⟩⟩
    have I1 : Inv X pins σ (upd H s.heap.objs.size (.tup [x, y])) { s with heap := h'', toks := tk } :=
      I.turnedNew (ch := [z, TI, TO, i1, i2]) (fun c o hb q => (sb.2 c (fun q' => hb (by simp [q']))).trans (hk c o (fun q' => hb (by simp [q'])) (fun q' => hb (by simp [q'])) (fun q' => hb (by simp [q'])) (fun q' => hb (by simp [q'])) q)) hf (Nat.le_refl _) new
    refine ⟨.ref s.heap.objs.size, _, I1, rfl, ⟨_, x, y, rfl, I.hok.fresh (Nat.le_refl _), rfl, fun l hl => by rw [I.list_inj hl hqx]; exact hx, fun l hl => by rw [I.tuple_inj hl hqy]; exact hy⟩, ⟨z'', ?_, ⟨x1, x2, ?_⟩, ?_, ?_⟩, fun c hcm => ?_⟩
    · exact (sb.2 _ S.TIz).trans (hk _ _ S.TIz S.TITO S.TIi1 S.TIi2 hTI)
    · exact (sb.2 _ S.TOz).trans TO'
    · exact t1.1.at fun o q => (sb.2 _ (Ne.symm S.zi1)).trans q
    · exact t2.1.at fun o q => (sb.2 _ (Ne.symm S.zi2)).trans q
    · have hlt : c < s.heap.objs.size := by
        have e' : c = z ∨ c = TI ∨ c = TO ∨ c = i1 ∨ c = i2 := by simpa using hcm
        rcases e' with q | q | q | q | q
        · rw [q]; exact hzl
        · rw [q]; exact Heap.lt_size hTI
        · rw [q]; exact Heap.lt_size hTO
        · rw [q]; obtain ⟨_, e1, _⟩ := h1; exact Heap.lt_size e1
        · rw [q]; obtain ⟨_, e2, _⟩ := h2; exact Heap.lt_size e2
      rw [upd_ne (Nat.ne_of_lt hlt)]
      exact (hf c hcm).1
  done := by
    intro X hP hw hK hc i pins s σ H E I hf st hg
    subst hP hw hK
    obtain ⟨hz, hTI, ⟨x0, y0, hTO⟩, h1, h2⟩ := st
    obtain ⟨xs, ys, hqx, hqy, hend1, hend2⟩ := hg
    obtain ⟨its, rv, p, _⟩ := I.list hqx
    obtain ⟨its2, rv2, p2, _⟩ := I.tuple hqy
    have l1 := rv.length
    have l2 := rv2.length
    have e1 : its.toArray.size = i := by simp; omega
    have e2 : its2.toArray.size = i := by simp; omega
    exact PySem.wpAny_pyNext_zipD2_end S (Draws.list (show X.A.in1.handled = none from I.ok.hd hc) i1 a na its.toArray) (PySem.Draws.tuple (show X.A.in1.handled = none from I.ok.hd hc) i2 b nb its2.toArray) hz hTI hTO ⟨h1, p.isList⟩ ⟨h2, p2⟩ (by omega) (by omega) (.inl e1.symm) fun h' tk hk => ⟨rfl, I.turnedL (ch := [z, TI, TO, i1, i2]) (fun c o hb q =>
      hk c o (fun q' => hb (by simp [q'])) (fun q' => hb (by simp [q'])) (fun q' => hb (by simp [q'])) (fun q' => hb (by simp [q'])) q) hf⟩
  self := fun A i s Q E st h => wpAny_pyIter_zip st.1 h
def iZipM (K : PySem.W.Frag) (ta : TA) : TI := fun σ H R => ta σ H fun vs H1 => ∃ a b xs ys, vs = [.ref a, .ref b] ∧ SqL K H1 a xs ∧ SqT K H1 b ys ∧ R (ItzM K a b) H1
theorem pi_zipM {X : Cx} {e e2 : Expr} {ta : TA} {p pos tpos : Pos} {elts : List Expr} {kk : Nat} (hg : Gl X "zip") (hm : X.mg "zip" = none) (ha : PA X [e, e2] ta)
    (hs : starEach [e, e2] X.env = (false, eval e X.env) :: starEach [e2] X.env := by rfl) (hpl : (backTo pos (starEach [e2] X.env)).any (·.1) = false := by rfl) :
    PI X (.Tuple elts kk tpos) (.Call (.Name "zip" p) [e, e2] [] pos) (iZipM X.K ta) := by
  refine ⟨fun pins s σ H R I h => ?_⟩
  refine Call_ (ld_blt I hg hm PyProof.Rows.boot_zip (PyProof.Rows.callWith_type1 (thn (ha.run pos pins s σ H _ I h) fun us s1 ⟨vs, H1, I1, r1, q1⟩ => ?_) hs hpl))
  obtain ⟨a, b, xs, ys, ex, hqx, hqy, q⟩ := q1
  subst ex
  cases r1 with
  | cons r rr =>
    cases rr with
    | cons r' rr =>
      cases rr
      cases r
      cases r'
      have fresh5 : ∀ c, c ∈ [s1.heap.objs.size + 4, s1.heap.objs.size + 2, s1.heap.objs.size + 3, s1.heap.objs.size, s1.heap.objs.size + 1] → FpOk X pins H1 c := fun c hcm => by
        have e' : c = s1.heap.objs.size + 4 ∨ c = s1.heap.objs.size + 2 ∨ c = s1.heap.objs.size + 3 ∨ c = s1.heap.objs.size ∨ c = s1.heap.objs.size + 1 := by simpa using hcm
        have hle : s1.heap.objs.size ≤ c := by
          rcases e' with z | z | z | z | z
          · rw [z]; exact Nat.le_add_right _ _
          · rw [z]; exact Nat.le_add_right _ _
          · rw [z]; exact Nat.le_add_right _ _
          · rw [z]; exact Nat.le_refl _
          · rw [z]; exact Nat.le_add_right _ _
        exact I1.fpOk hle (I1.hok.fresh hle)
      obtain ⟨its, rv, p1, _⟩ := I1.list hqx
      obtain ⟨its2, rv2, p2, _⟩ := I1.tuple hqy
      have la : a < s1.heap.objs.size := p1.lt
      have lb : b < s1.heap.objs.size := by
        obtain ⟨_, q, _⟩ := id p2
        exact Heap.lt_size q
      refine PySem.zip_begins2 (PySem.begins_list a its.toArray) (PySem.begins_tuple b its2.toArray) p1.isList p2 fun h' hz hTI hTO h1 h2 hsz hk => wpAny_pyIter_zip hz ?_
      have I2 : Inv X pins σ H1 { s1 with heap := h' } := I1.kept (t' := s1.toks) hk
      refine ⟨s1.heap.objs.size + 4, [s1.heap.objs.size + 4, s1.heap.objs.size + 2, s1.heap.objs.size + 3, s1.heap.objs.size, s1.heap.objs.size + 1], _, _, H1, rfl, I2, turn_zipM (PySem.zip_sep2 (N := s1.heap.objs.size) (fp1 := [a]) (fp2 := [b]) (fun c hc => by rw [List.mem_singleton.mp hc]; exact la) (fun c hc => by rw [List.mem_singleton.mp hc]; exact lb)) (Nat.ne_of_lt la) (Nat.ne_of_lt (Nat.lt_succ_of_lt lb)), ⟨hz, hTI, ⟨_, _, hTO⟩, ⟨_, h1, rfl, rfl⟩, ⟨_, h2, rfl, rfl⟩⟩, fresh5, q⟩
/-- a comprehension over zip of a list and a tuple of one length -/
theorem lc_zipM {K : PySem.W.Frag} {a b : Addr} {xs ys : List V} {g : TG} {tt : TT} {te : TE} {vs : List Nat} {σ : List (Option V)} {H1 : Hp} {D : Addr} {Qd : Hp → Prop} (hlen : xs.length = ys.length) (Pv : Nat → Hp → Prop) (h0 : Pv 0 (upd H1 D (.lst []))) (hl : ∀ i H, i ≤ xs.length → Pv i H → SqL K H a xs ∧ SqT K H b ys)
    (hs : ∀ (i : Nat) (x y : V) H T, xs[i]? = some x → ys[i]? = some y → Pv i H → H T = none → g (.ref T) (wipe σ vs) (upd H T (.tup [x, y])) fun σ2 H2 => wipe σ2 vs = wipe σ vs ∧ tt σ2 H2 fun b H3 =>
      if b = true then te σ2 H3 fun y H4 => ∃ acc, H4 D = some (.lst acc) ∧ acc.length < sizeLine ∧ Pv (i + 1) (upd H4 D (.lst (acc ++ [y]))) else Pv (i + 1) H3) (hd : ∀ H, Pv xs.length H → Qd H) :
    ∃ W : Nat → Nat → Hp → Prop, (∃ m, W 0 m (upd H1 D (.lst []))) ∧ ∀ i m H, W i m H →
      ((ItzM K a b).stop i H ∧ Qd H) ∨ ((ItzM K a b).go i H ∧ ∃ Nx : Hp → Prop, (∀ H', Nx H' → ∃ m', m' < m ∧ W (i + 1) m' H') ∧ ∀ x H', (ItzM K a b).yld i H x H' → g x (wipe σ vs) H' fun σ2 H2 => wipe σ2 vs = wipe σ vs ∧ tt σ2 H2 fun b H3 =>
        if b = true then te σ2 H3 fun y H4 => ∃ acc, H4 D = some (.lst acc) ∧ acc.length < sizeLine ∧ Nx (upd H4 D (.lst (acc ++ [y]))) else Nx H3) := by
  refine ⟨fun i m H => m = xs.length - i ∧ i ≤ xs.length ∧ Pv i H, ⟨xs.length, by simp, Nat.zero_le _, h0⟩, ?_⟩
  rintro i m H ⟨rfl, hi, p⟩
  obtain ⟨q, q2⟩ := hl i H hi p
  by_cases hlt : i < xs.length
  · have hlt2 : i < ys.length := by omega
    refine .inr ⟨⟨xs, ys, xs[i], ys[i], q, q2, by simp [hlt], by simp [hlt2]⟩, Pv (i + 1), fun H' p' => ⟨xs.length - (i + 1), by omega, rfl, hlt, p'⟩, fun x H' y => ?_⟩
    obtain ⟨T, x', y', rfl, nT, rfl, f1, f2⟩ := y
    exact hs i x' y' H T (f1 xs q) (f2 ys q2) p nT
  · have e : i = xs.length := by omega
    subst e
    exact .inl ⟨⟨xs, ys, q, q2, rfl, hlen.symm⟩, hd H p⟩
end St
namespace St
open PySem PySem.Spec PyProof.Rows L2
/-! ### the cut source -/
structure BestC (x : Rat) (s : Nat) : Prop where
  x0 : 0 < x
  x1 : x < 1
  s1 : 1 ≤ s
  fits : x ^ s + x ^ (s + 1) ≤ 1
  low : s = 1 ∨ 1 < x ^ (s - 1) + x ^ s
def ringR (x : Rat) (s i : Nat) : Rat := x ^ i / (1 - x ^ s)
def redL (x : Rat) (s c : Nat) : List Rat := (List.range c).map (fun i => x ^ i) ++ (List.range' c s).map (fun i => ringR x s i)
theorem pow_anti {x : Rat} (h0 : 0 < x) (h1 : x < 1) {i j : Nat} (h : i ≤ j) : x ^ j ≤ x ^ i := by
  obtain ⟨d, rfl⟩ : ∃ d, j = i + d := ⟨j - i, by omega⟩
  clear h
  induction d with
  | zero => exact Rat.le_refl
  | succ d ih =>
    refine Rat.le_trans ?_ ih
    rw [← Nat.add_assoc, Rat.pow_succ]
    have hp : 0 < x ^ (i + d) := Rat.pow_pos h0
    have := Rat.mul_le_mul_of_nonneg_left (Rat.le_of_lt h1) (Rat.le_of_lt hp)
    rw [Rat.mul_one] at this
    exact this
theorem pow_plus (x : Rat) (i j : Nat) : x ^ (i + j) = x ^ i * x ^ j := by
  induction j with
  | zero => rw [Nat.add_zero, Rat.pow_zero, Rat.mul_one]
  | succ j ih => rw [← Nat.add_assoc, Rat.pow_succ, ih, Rat.pow_succ, Rat.mul_assoc]
section
variable {x : Rat} {s : Nat}
theorem BestC.left (B : BestC x s) : 0 < 1 - x ^ s := (Rat.lt_iff_sub_pos _ _).mp (pow_lt_one B.x0 B.x1 B.s1)
theorem ring_pos (B : BestC x s) (i : Nat) : 0 < ringR x s i := by
  unfold ringR
  exact (Rat.lt_div_iff B.left).mpr (by rw [Rat.zero_mul]; exact Rat.pow_pos B.x0)
theorem ring_anti (B : BestC x s) {i j : Nat} (h : i ≤ j) : ringR x s j ≤ ringR x s i := by
  unfold ringR
  refine Rat.not_lt.mp fun c => ?_
  have h1 := (Rat.lt_div_iff B.left).mp c
  have e : x ^ i / (1 - x ^ s) * (1 - x ^ s) = x ^ i := Rat.div_mul_cancel (Rat.ne_of_gt B.left)
  rw [e] at h1
  exact Rat.not_lt.mpr (pow_anti B.x0 B.x1 h) h1
theorem le_ring (B : BestC x s) {y : Rat} {i : Nat} (h : y * (1 - x ^ s) ≤ x ^ i) : y ≤ ringR x s i := by
  unfold ringR
  refine Rat.not_lt.mp fun c => ?_
  have := (Rat.div_lt_iff B.left).mp c
  exact Rat.not_lt.mpr h this
theorem ring_le (B : BestC x s) {y : Rat} {i : Nat} (h : x ^ i ≤ y * (1 - x ^ s)) : ringR x s i ≤ y := by
  unfold ringR
  refine Rat.not_lt.mp fun c => ?_
  have := (Rat.lt_div_iff B.left).mp c
  exact Rat.not_lt.mpr h this
theorem red_step (B : BestC x s) (c : Nat) : mgR (redL x s (c + 1)) = ringR x s c + mgR (redL x s c) := by
  obtain ⟨t, rfl⟩ : ∃ t, s = t + 1 := ⟨s - 1, by have := B.s1; omega⟩
  have L := B.left
  have hx0 := B.x0
  have hx1 := B.x1
  have e1 : redL x (t + 1) (c + 1) = ((List.range c).map (fun i => x ^ i) ++ [x ^ c]) ++ ((List.range' (c + 1) t).map (fun i => ringR x (t + 1) i) ++ [ringR x (t + 1) (c + 1 + t)]) := by
    unfold redL
    rw [List.range_succ, List.map_append, List.range'_1_concat, List.map_append]
    rfl
  have e2 : redL x (t + 1) c = (List.range c).map (fun i => x ^ i) ++ (ringR x (t + 1) c :: (List.range' (c + 1) t).map (fun i => ringR x (t + 1) i)) := by
    unfold redL
    rw [List.range'_succ]
    rfl
  rw [e1, e2]
  generalize hA : (List.range c).map (fun i => x ^ i) = A
  generalize hR : (List.range' (c + 1) t).map (fun i => ringR x (t + 1) i) = R
  have memA : ∀ y ∈ A, ∃ i, i < c ∧ y = x ^ i := fun y hy => by
    rw [← hA] at hy
    obtain ⟨i, hi, rfl⟩ := List.mem_map.mp hy
    exact ⟨i, List.mem_range.mp hi, rfl⟩
  have memR : ∀ y ∈ R, ∃ i, c + 1 ≤ i ∧ i < c + 1 + t ∧ y = ringR x (t + 1) i := fun y hy => by
    rw [← hR] at hy
    obtain ⟨i, hi, rfl⟩ := List.mem_map.mp hy
    obtain ⟨h1, h2⟩ := List.mem_range'_1.mp hi
    exact ⟨i, h1, h2, rfl⟩
  have p1 : ((A ++ [x ^ c]) ++ (R ++ [ringR x (t + 1) (c + 1 + t)])).Perm (x ^ c :: ringR x (t + 1) (c + 1 + t) :: (A ++ R)) := by
    have q1 : (A ++ [x ^ c]).Perm (x ^ c :: A) := List.perm_append_singleton _ _
    have q2 : (R ++ [ringR x (t + 1) (c + 1 + t)]).Perm (ringR x (t + 1) (c + 1 + t) :: R) := List.perm_append_singleton _ _
    refine (q1.append q2).trans ?_
    rw [List.cons_append]
    exact (List.perm_middle).cons _
  have p2 : (A ++ (ringR x (t + 1) c :: R)).Perm (ringR x (t + 1) c :: (A ++ R)) := List.perm_middle
  have hsum : x ^ c + ringR x (t + 1) (c + 1 + t) = ringR x (t + 1) c := by
    unfold ringR
    have e3 : x ^ (c + 1 + t) = x ^ c * x ^ (t + 1) := by rw [show c + 1 + t = c + (t + 1) by omega, pow_plus]
    have hne := Rat.ne_of_gt L
    rw [e3]
    generalize x ^ c = u at *
    generalize x ^ (t + 1) = v at *
    grind
  rw [mg_step p1 ?_ ?_, hsum, mg_perm p2]
  · intro y hy
    rcases List.mem_append.mp hy with hy | hy
    · obtain ⟨i, hi, rfl⟩ := memA y hy
      exact pow_anti hx0 hx1 (by omega)
    · obtain ⟨i, h1, h2, rfl⟩ := memR y hy
      refine Rat.le_trans (le_ring B (i := c + t) ?_) (ring_anti B (by omega))
      have lo : 1 < x ^ t + x ^ (t + 1) := by
        rcases B.low with h | h
        · omega
        · exact h
      rw [pow_plus x c t]
      refine Rat.mul_le_mul_of_nonneg_left ?_ (Rat.le_of_lt (Rat.pow_pos hx0))
      grind
  · intro y hy
    rcases List.mem_append.mp hy with hy | hy
    · obtain ⟨i, hi, rfl⟩ := memA y hy
      refine Rat.le_trans (ring_le B (y := x ^ (c - 1)) ?_) (pow_anti hx0 hx1 (by omega))
      rw [show c + 1 + t = (c - 1) + (t + 1 + 1) by omega, pow_plus]
      refine Rat.mul_le_mul_of_nonneg_left ?_ (Rat.le_of_lt (Rat.pow_pos hx0))
      have := B.fits
      grind
    · obtain ⟨i, h1, h2, rfl⟩ := memR y hy
      exact ring_anti B (by omega)
/-! sums -/
def sumN (F : Nat → Rat) : Nat → Rat
  | 0 => 0
  | n + 1 => sumN F n + F n
theorem sumN_front (F : Nat → Rat) : ∀ n, sumN F (n + 1) = F 0 + sumN (fun i => F (i + 1)) n
  | 0 => by simp only [sumN]; grind
  | n + 1 => by
    rw [sumN, sumN_front F n, sumN, Rat.add_assoc]
theorem sumN_congr {F G : Nat → Rat} : ∀ {n : Nat}, (∀ i, i < n → F i = G i) → sumN F n = sumN G n
  | 0, _ => rfl
  | n + 1, h => by rw [sumN, sumN, sumN_congr fun i hi => h i (by omega), h n (by omega)]
theorem sumN_rev (F : Nat → Rat) : ∀ n, sumN (fun i => F (n - 1 - i)) n = sumN F n
  | 0 => rfl
  | n + 1 => by
    rw [sumN_front, sumN]
    have e : sumN (fun i => F (n + 1 - 1 - (i + 1))) n = sumN (fun i => F (n - 1 - i)) n := sumN_congr fun i hi => by rw [show n + 1 - 1 - (i + 1) = n - 1 - i by omega]
    rw [e, sumN_rev F n, Rat.add_comm]
    rfl
theorem wsum_range (f : Nat → Nat) (g : Nat → Rat) : ∀ (n j : Nat), wsumR f j ((List.range n).map g) = sumN (fun i => g i * (f (j + i) : Nat)) n
  | 0, _ => rfl
  | n + 1, j => by
    rw [List.range_succ, List.map_append, wsumR_app, wsum_range f g n j, sumN, List.length_map, List.length_range]
    show _ + (g n * _ + 0) = _
    rw [Rat.add_zero]
def rlN (s j : Nat) : Nat := if j < shortN s then wideN s - 1 else wideN s
theorem lenB_rl {i : Nat} (hs : 1 ≤ s) (hi : i < s) : lenB s i = rlN s (s - 1 - i) := by
  have h1 := wide_le s
  have h2 : 2 ^ wideN s < 2 * s := by
    cases e : wideN s with
    | zero => rw [Nat.pow_zero]; omega
    | succ k =>
      have := wideN_lt s k (by omega)
      rw [Nat.pow_succ]
      omega
  unfold lenB rlN shortN
  by_cases c : i < 2 * s - 2 ^ wideN s
  · rw [if_pos c, if_neg (by omega)]
  · rw [if_neg c, if_pos (by omega)]
theorem mg_ring (B : BestC x s) : mgR (redL x s 0) = sumN (fun j => ringR x s j * (rlN s j : Nat)) s := by
  have hs1 := B.s1
  have hx0 := B.x0
  have hx1 := B.x1
  have p : (redL x s 0).Perm ((List.range s).map fun i => ringR x s (s - 1 - i)) := by
    unfold redL
    rw [List.range_zero, List.map_nil, List.nil_append, ← List.range_eq_range']
    have e : (List.range s).map (fun i => ringR x s (s - 1 - i)) = ((List.range s).reverse).map (fun i => ringR x s i) := by
      apply List.ext_getElem?
      intro i
      by_cases c : i < s
      · rw [List.getElem?_map, List.getElem?_map, List.getElem?_range c, List.getElem?_reverse (by rw [List.length_range]; exact c), List.length_range, List.getElem?_range (by omega)]
        rfl
      · rw [List.getElem?_eq_none (by rw [List.length_map, List.length_range]; omega), List.getElem?_eq_none (by rw [List.length_map, List.length_reverse, List.length_range]; omega)]
    rw [e]
    exact (List.reverse_perm _).symm.map _
  rw [mg_perm p, mg_even s _ (by rw [List.length_map, List.length_range]) hs1 ?_ ?_ ?_, wsum_range]
  · rw [← sumN_rev (fun j => ringR x s j * (rlN s j : Nat))]
    exact sumN_congr fun i hi => by rw [Nat.zero_add, lenB_rl hs1 hi]
  · refine List.pairwise_map.mpr (List.pairwise_iff_getElem.mpr fun i j hi hj hij => ?_)
    rw [List.length_range] at hi hj
    rw [List.getElem_range, List.getElem_range]
    exact ring_anti B (by omega)
  · intro y hy
    obtain ⟨i, _, rfl⟩ := List.mem_map.mp hy
    exact ring_pos B _
  · intro a b r hl y hy
    have hlen := congrArg List.length hl
    rw [List.length_map, List.length_range, List.length_cons, List.length_cons] at hlen
    have ha : a = ringR x s (s - 1) := by
      have := congrArg (fun l : List Rat => l[0]?) hl
      simp only [List.getElem?_map, List.getElem?_range (show 0 < s by omega)] at this
      exact (Option.some.inj this).symm
    have hb : b = ringR x s (s - 2) := by
      have := congrArg (fun l : List Rat => l[1]?) hl
      simp only [List.getElem?_map, List.getElem?_range (show 1 < s by omega)] at this
      exact (Option.some.inj this).symm
    have hy2 : y ∈ (List.range s).map fun i => ringR x s (s - 1 - i) := by
      rw [hl]
      exact List.mem_cons_of_mem _ (List.mem_cons_of_mem _ hy)
    obtain ⟨i, _, rfl⟩ := List.mem_map.mp hy2
    refine Rat.le_trans (ring_anti B (i := 0) (Nat.zero_le _)) ?_
    have lo : 1 < x ^ (s - 1) + x ^ s := by
      rcases B.low with h | h
      · omega
      · exact h
    have h3 : x ^ s ≤ x ^ (s - 1) := pow_anti hx0 hx1 (by omega)
    have h4 : x ^ (s - 1) ≤ x ^ (s - 2) := pow_anti hx0 hx1 (by omega)
    have h5 : x ^ 0 ≤ x ^ (s - 1) + x ^ (s - 2) := by
      rw [Rat.pow_zero]
      grind
    rw [ha, hb]
    have e : ringR x s (s - 1) + ringR x s (s - 2) = (x ^ (s - 1) + x ^ (s - 2)) / (1 - x ^ s) := by
      unfold ringR
      have hne := Rat.ne_of_gt B.left
      generalize x ^ (s - 1) = u
      generalize x ^ (s - 2) = v
      generalize 1 - x ^ s = w at *
      grind
    rw [e]
    refine ring_le B ?_
    rw [Rat.div_mul_cancel (Rat.ne_of_gt B.left)]
    exact h5
theorem geo (x : Rat) : ∀ n, (1 - x) * sumN (fun j => x ^ j) n = 1 - x ^ n
  | 0 => by
    show (1 - x) * 0 = 1 - x ^ 0
    rw [Rat.pow_zero]
    grind
  | n + 1 => by
    rw [sumN, Rat.mul_add, geo x n, Rat.pow_succ]
    grind
theorem rl_sum (x : Rat) (hk : 1 ≤ wideN s) : ∀ n, (1 - x) * sumN (fun j => x ^ j * (rlN s j : Nat)) n = (wideN s : Nat) * (1 - x ^ n) - (1 - x ^ (min n (shortN s)))
  | 0 => by
    show (1 - x) * 0 = _
    rw [Nat.zero_min, Rat.pow_zero]
    grind
  | n + 1 => by
    rw [sumN, Rat.mul_add, rl_sum x hk n]
    unfold rlN
    have ek : ((wideN s - 1 : Nat) : Rat) = ((wideN s : Nat) : Rat) - 1 := by
      have : ((wideN s - 1 + 1 : Nat) : Rat) = ((wideN s - 1 : Nat) : Rat) + 1 := Rat.natCast_add _ _
      rw [show wideN s - 1 + 1 = wideN s by omega] at this
      rw [this]
      grind
    by_cases c : n < shortN s
    · rw [if_pos c, Nat.min_eq_left (by omega), Nat.min_eq_left (show n + 1 ≤ shortN s by omega), ek, Rat.pow_succ]
      grind
    · rw [if_neg c, Nat.min_eq_right (by omega), Nat.min_eq_right (show shortN s ≤ n + 1 by omega), Rat.pow_succ]
      grind
theorem sumN_scale (k : Rat) (F : Nat → Rat) : ∀ n, sumN (fun i => k * F i) n = k * sumN F n
  | 0 => (Rat.mul_zero k).symm
  | n + 1 => by rw [sumN, sumN, sumN_scale k F n, Rat.mul_add]
theorem mg_zero (B : BestC x s) : (1 - x) * mgR (redL x s 0) + 1 / (1 - x ^ s) = meanR s x := by
  have hne := Rat.ne_of_gt B.left
  have hs1 := B.s1
  rw [mg_ring B]
  have e : sumN (fun j => ringR x s j * (rlN s j : Nat)) s = (1 / (1 - x ^ s)) * sumN (fun j => x ^ j * (rlN s j : Nat)) s := by
    rw [← sumN_scale]
    refine sumN_congr fun i hi => ?_
    unfold ringR
    generalize x ^ i = u
    generalize 1 - x ^ s = w at *
    grind
  have e2 : (1 - x) * ((1 / (1 - x ^ s)) * sumN (fun j => x ^ j * (rlN s j : Nat)) s) = (1 / (1 - x ^ s)) * ((1 - x) * sumN (fun j => x ^ j * (rlN s j : Nat)) s) := by
    rw [← Rat.mul_assoc, Rat.mul_comm (1 - x), Rat.mul_assoc]
  rw [e, e2]
  unfold meanR
  by_cases c : 0 < wideN s
  · have hsh := short_lt hs1
    rw [rl_sum x c, Nat.min_eq_right (by omega), if_pos c]
    have e1 : (((if (wideN s : Int) > 1 then (wideN s : Int) else 1 : Int)) : Rat) = ((wideN s : Nat) : Rat) := by
      split
      · rfl
      · rw [show wideN s = 1 by omega]
        rfl
    rw [e1]
    generalize ((wideN s : Nat) : Rat) = k
    generalize x ^ shortN s = u
    generalize x ^ s = v at *
    grind
  · have w0 : wideN s = 0 := by omega
    have m1 := short_zero w0 hs1
    subst m1
    rw [if_neg c, w0]
    have e3 : sumN (fun j => x ^ j * (rlN 1 j : Nat)) 1 = 0 := by
      show (0 : Rat) + x ^ 0 * ((rlN 1 0 : Nat) : Rat) = 0
      rw [show rlN 1 0 = 0 by decide, show ((0 : Nat) : Rat) = 0 from rfl]
      grind
    rw [e3]
    have e1 : (((if ((0 : Nat) : Int) > 1 then ((0 : Nat) : Int) else 1 : Int)) : Rat) = 1 := rfl
    rw [e1]
    generalize x ^ 1 = v at *
    grind
/-- for every count the same -/
theorem mg_count (B : BestC x s) : ∀ c, (1 - x) * mgR (redL x s c) + x ^ c / (1 - x ^ s) = meanR s x
  | 0 => by
    rw [Rat.pow_zero]
    exact mg_zero B
  | c + 1 => by
    rw [← mg_count B c, red_step B, Rat.pow_succ]
    unfold ringR
    have hne := Rat.ne_of_gt B.left
    generalize mgR (redL x s c) = m
    generalize x ^ c = u
    generalize 1 - x ^ s = v at *
    grind
end
end St
namespace St
open PySem PySem.Spec PyProof.Rows L2
/-! ### no step's mean is less -/
def meanNum (p q m : Nat) : Nat := wideN m * (q ^ m - p ^ m) + p ^ shortN m * q ^ (m - shortN m)
theorem mean_frac {p q : Nat} (h : IsRat p q) {m : Nat} (hm : 1 ≤ m) : meanR m (rat p q) = Rat.divInt (meanNum p q m : Nat) ((q ^ m - p ^ m : Nat) : Int) := by
  have hs := short_lt hm
  have hlt : p ^ m < q ^ m := Nat.pow_lt_pow_left h.pq (by omega)
  have e1 : ((q ^ m - p ^ m : Nat) : Int) = (q : Int) ^ m - (p : Int) ^ m := by
    rw [Int.natCast_sub (Nat.le_of_lt hlt), Int.natCast_pow, Int.natCast_pow]
  rw [← law_mean h hm, ovI_eq (p : Int) (q : Int) hm m (Nat.le_refl _), Nat.min_eq_right (by omega), e1]
  congr 1
  unfold meanNum
  rw [Int.natCast_add, Int.natCast_mul, Int.natCast_mul, e1, Int.natCast_pow, Int.natCast_pow]
  grind
theorem div_le {a b c d : Int} (hb : 0 < b) (hd : 0 < d) (h : a * d ≤ c * b) : Rat.divInt a b ≤ Rat.divInt c d := by
  have b1 : (0 : Rat) < ((b : Int) : Rat) := Rat.intCast_pos.mpr hb
  have d1 : (0 : Rat) < ((d : Int) : Rat) := Rat.intCast_pos.mpr hd
  rw [Rat.divInt_eq_div, Rat.divInt_eq_div]
  refine Rat.not_lt.mp fun z => ?_
  have h1 := (Rat.div_lt_iff d1).mp z
  have e : (a : Rat) / (b : Rat) * (d : Rat) = ((a : Rat) * (d : Rat)) / (b : Rat) := by
    have := Rat.ne_of_gt b1
    grind
  rw [e] at h1
  have h2 := (Rat.lt_div_iff b1).mp h1
  rw [← Rat.intCast_mul, ← Rat.intCast_mul] at h2
  have := Rat.intCast_lt_intCast.mp h2
  omega
def optOk (p q s : Nat) : Bool := (List.range 65).all fun t => t == 0 || decide (meanNum p q s * (q ^ t - p ^ t) ≤ meanNum p q t * (q ^ s - p ^ s))
def isB (p q s : Nat) : Bool := decide (p ^ s * (p + q) ≤ q ^ s * q) && (s == 1 || decide (q ^ (s - 1) * q < p ^ (s - 1) * (p + q)))
def allOpt : Bool := (List.range 31).all fun q => (List.range q).all fun p => p == 0 || (List.range 31).all fun s => s == 0 || (!isB p q s || optOk p q s)
set_option maxHeartbeats 40000000 in
theorem all_opt : allOpt = true := by decide +kernel
theorem mean_opt {p q : Nat} (h : IsRat p q) {s t : Nat} (hs1 : 1 ≤ s) (hs : s ≤ 30) (hb : isB p q s = true) (ht : 1 ≤ t) (ht64 : t ≤ 64) : meanR s (rat p q) ≤ meanR t (rat p q) := by
  have a := all_opt
  unfold allOpt at a
  have a := List.all_eq_true.mp a q (List.mem_range.mpr (by have := h.q30; omega))
  have a := List.all_eq_true.mp a p (List.mem_range.mpr h.pq)
  have p0 : (p == 0) = false := by
    have := h.p1
    simp
    omega
  rw [p0, Bool.false_or] at a
  have a := List.all_eq_true.mp a s (List.mem_range.mpr (by omega))
  have s0 : (s == 0) = false := by
    simp
    omega
  rw [s0, Bool.false_or, hb] at a
  simp only [Bool.not_true, Bool.false_or] at a
  unfold optOk at a
  have a := List.all_eq_true.mp a t (List.mem_range.mpr (by omega))
  have t0 : (t == 0) = false := by
    simp
    omega
  rw [t0, Bool.false_or] at a
  have a := of_decide_eq_true a
  rw [mean_frac h hs1, mean_frac h ht]
  have l1 : p ^ s < q ^ s := Nat.pow_lt_pow_left h.pq (by omega)
  have l2 : p ^ t < q ^ t := Nat.pow_lt_pow_left h.pq (by omega)
  refine div_le (by omega) (by omega) ?_
  rw [← Int.natCast_mul, ← Int.natCast_mul]
  exact Int.ofNat_le.mpr a
end St
namespace St
open PySem PySem.Spec PyProof.Rows L2
/-! ### the fractions that the law reckons -/
def cutR (x : Rat) (s c i : Nat) : Rat := if i < c then (1 - x) * x ^ i else (1 - x) / (1 - x ^ s) * x ^ i
theorem natInt (n : Nat) : ((n : Int) : Rat) = (n : Rat) := rfl
theorem cut_frac1 (r : Rat) {p q : Nat} (hq : 0 < q) : Rat.divInt (r.num * ((q : Int) - (p : Int))) ((r.den : Int) * (q : Int)) = (1 - rat p q) * r := by
  have e1 := rat_eq r
  have h1 := cast_ne (den_ne r)
  have hQ : ((q : Int) : Rat) ≠ 0 := cast_ne (by omega)
  rw [Rat.divInt_eq_div, Rat.intCast_mul, Rat.intCast_mul, Rat.intCast_sub]
  unfold rat
  generalize (r.num : Rat) = a at *
  generalize ((r.den : Int) : Rat) = b at *
  generalize ((p : Int) : Rat) = c at *
  generalize ((q : Int) : Rat) = d at *
  rw [e1]
  grind
theorem cut_frac2 (r w : Rat) {p q : Nat} (hq : 0 < q) (hw : 1 - w ≠ 0) : Rat.divInt (r.num * ((q : Int) - (p : Int)) * (w.den : Int)) ((r.den : Int) * (q : Int) * ((w.den : Int) - w.num)) = (1 - rat p q) / (1 - w) * r := by
  have e1 := rat_eq r
  have e2 := rat_eq w
  have h1 := cast_ne (den_ne r)
  have h2 := cast_ne (den_ne w)
  have hQ : ((q : Int) : Rat) ≠ 0 := cast_ne (by omega)
  rw [Rat.divInt_eq_div, Rat.intCast_mul, Rat.intCast_mul, Rat.intCast_mul, Rat.intCast_mul, Rat.intCast_sub, Rat.intCast_sub]
  unfold rat
  generalize (r.num : Rat) = a at *
  generalize ((r.den : Int) : Rat) = b at *
  generalize (w.num : Rat) = e at *
  generalize ((w.den : Int) : Rat) = f at *
  generalize ((p : Int) : Rat) = c at *
  generalize ((q : Int) : Rat) = d at *
  rw [e1]
  rw [e2] at hw ⊢
  have h3 : f - e ≠ 0 := fun z => hw (by grind)
  grind
theorem law_end (M L : Int) (r w : Rat) (hL : 0 < L) (hw : 1 - w ≠ 0) : Rat.divInt (M * (r.den : Int) * ((w.den : Int) - w.num) + r.num * (w.den : Int) * L) (L * (r.den : Int) * ((w.den : Int) - w.num)) = (M : Rat) / (L : Rat) + r / (1 - w) := by
  have e1 := rat_eq r
  have e2 := rat_eq w
  have h1 := cast_ne (den_ne r)
  have h2 := cast_ne (den_ne w)
  have hL0 : (L : Rat) ≠ 0 := cast_ne (by omega)
  rw [Rat.divInt_eq_div]
  simp only [Rat.intCast_mul, Rat.intCast_add, Rat.intCast_sub]
  generalize (r.num : Rat) = a at *
  generalize ((r.den : Int) : Rat) = b at *
  generalize (w.num : Rat) = e at *
  generalize ((w.den : Int) : Rat) = f at *
  generalize (M : Rat) = m at *
  generalize (L : Rat) = l at *
  rw [e1]
  rw [e2] at hw ⊢
  have h3 : f - e ≠ 0 := fun z => hw (by grind)
  grind
/-! the common parts -/
theorem lcm_step (L : Nat) {d : Nat} (hd : 0 < d) : (Rat.divInt (L : Int) (d : Int)).num * (d : Int) = ((Nat.lcm L d : Nat) : Int) := by
  rw [frac_num (by omega)]
  have e : Int.gcd (L : Int) (d : Int) = Nat.gcd L d := rfl
  rw [e, ← Int.natCast_ediv, ← Int.natCast_mul]
  congr 1
  unfold Nat.lcm
  rw [Nat.mul_comm L d, Nat.mul_div_assoc d (Nat.gcd_dvd_left L d), Nat.mul_comm]
theorem weight_cast {r : Rat} {L : Nat} (h : r.den ∣ L) : ((r.num * ((L : Int) / (r.den : Int)) : Int) : Rat) = (L : Rat) * r := by
  obtain ⟨k, rfl⟩ := h
  have e1 := rat_eq r
  have h1 := cast_ne (den_ne r)
  rw [← Int.natCast_ediv, Nat.mul_div_cancel_left _ r.den_pos, Rat.intCast_mul, natInt]
  rw [show ((r.den * k : Nat) : Rat) = ((r.den : Nat) : Rat) * ((k : Nat) : Rat) from Rat.natCast_mul _ _]
  rw [show ((r.den : Int) : Rat) = ((r.den : Nat) : Rat) from rfl] at e1 h1
  generalize (r.num : Rat) = a at *
  generalize ((r.den : Nat) : Rat) = b at *
  generalize ((k : Nat) : Rat) = c at *
  rw [e1]
  grind
theorem den_dvd {r : Rat} {D : Nat} {A : Int} (hD : 0 < D) (h : r * ((D : Int) : Rat) = (A : Rat)) : r.den ∣ D := by
  have hD0 : ((D : Int) : Rat) ≠ 0 := cast_ne (by omega)
  have e : r = Rat.divInt A (D : Int) := by
    rw [Rat.divInt_eq_div, ← h]
    grind
  have e2 := frac_den (n := A) (d := (D : Int)) (by omega)
  rw [← e] at e2
  have e3 : (r.den : Int) ∣ (D : Int) := by
    rw [e2]
    exact Int.ediv_dvd_of_dvd (Int.gcd_dvd_right ..)
  exact Int.natCast_dvd_natCast.mp e3
def bigD (p q s c : Nat) : Nat := q ^ (c + s) * (q ^ s - p ^ s)
theorem cut_den {p q s c i : Nat} (h : IsRat p q) (hs : 1 ≤ s) (hi : i < c + s) : (cutR (rat p q) s c i).den ∣ bigD p q s c := by
  have hpq := h.pq
  have hlt : p ^ s < q ^ s := Nat.pow_lt_pow_left hpq (by omega)
  have hq0 : 0 < q := by omega
  have hQ : ((q : Int) : Rat) ≠ 0 := cast_ne (by omega)
  have ed : ((q ^ s - p ^ s : Nat) : Int) = (q : Int) ^ s - (p : Int) ^ s := by
    rw [Int.natCast_sub (Nat.le_of_lt hlt), Int.natCast_pow, Int.natCast_pow]
  have eN : q ^ (c + s) = q ^ (c + s - 1 - i) * q ^ i * q := by
    rw [← Nat.pow_add, ← Nat.pow_succ]
    congr 1
    omega
  have hx : ∀ t : Nat, rat p q ^ t * ((q : Int) : Rat) ^ t = ((p : Int) : Rat) ^ t := fun t => by
    rw [← rat_pow p q hq0 t, Rat.divInt_eq_div, Rat.intCast_pow, Rat.intCast_pow]
    refine Rat.div_mul_cancel ?_
    rw [← Rat.intCast_pow]
    exact cast_ne (Int.ne_of_gt (Int.pow_pos (by omega)))
  have h1 : (1 - rat p q) * ((q : Int) : Rat) = ((q : Int) : Rat) - ((p : Int) : Rat) := by
    have := hx 1
    rw [Rat.pow_one, Rat.pow_one, Rat.pow_one] at this
    grind
  have hL : (1 - rat p q ^ s) * ((q : Int) : Rat) ^ s = ((q : Int) : Rat) ^ s - ((p : Int) : Rat) ^ s := by
    have := hx s
    grind
  have hD : 0 < bigD p q s c := Nat.mul_pos (Nat.pow_pos hq0) (by omega)
  have eD : ((bigD p q s c : Int) : Rat) = ((q : Int) : Rat) ^ (c + s - 1 - i) * ((q : Int) : Rat) ^ i * ((q : Int) : Rat) * (((q : Int) : Rat) ^ s - ((p : Int) : Rat) ^ s) := by
    unfold bigD
    rw [eN, Int.natCast_mul, ed, Int.natCast_mul, Int.natCast_mul, Int.natCast_pow, Int.natCast_pow]
    simp only [Rat.intCast_mul, Rat.intCast_sub, Rat.intCast_pow]
  unfold cutR
  split
  · refine den_dvd (A := (q : Int) ^ (c + s - 1 - i) * (p : Int) ^ i * ((q : Int) - (p : Int)) * ((q : Int) ^ s - (p : Int) ^ s)) hD ?_
    rw [eD]
    simp only [Rat.intCast_mul, Rat.intCast_sub, Rat.intCast_pow]
    have h2 := hx i
    generalize ((q : Int) : Rat) ^ (c + s - 1 - i) = a at *
    generalize ((q : Int) : Rat) ^ i = b at *
    generalize ((p : Int) : Rat) ^ i = b' at *
    generalize rat p q ^ i = x at *
    generalize 1 - rat p q = y at *
    generalize ((q : Int) : Rat) ^ s - ((p : Int) : Rat) ^ s = z at *
    generalize ((q : Int) : Rat) - ((p : Int) : Rat) = u at *
    generalize ((q : Int) : Rat) = v at *
    grind
  · refine den_dvd (A := (q : Int) ^ (c + s - 1 - i) * (p : Int) ^ i * ((q : Int) - (p : Int)) * (q : Int) ^ s) hD ?_
    rw [eD, ← hL]
    simp only [Rat.intCast_mul, Rat.intCast_sub, Rat.intCast_pow]
    have h2 := hx i
    have hl : 1 - rat p q ^ s ≠ 0 := Rat.ne_of_gt (left_pos h hs)
    generalize ((q : Int) : Rat) ^ (c + s - 1 - i) = a at *
    generalize ((q : Int) : Rat) ^ i = b at *
    generalize ((p : Int) : Rat) ^ i = b' at *
    generalize rat p q ^ i = x at *
    generalize 1 - rat p q = y at *
    generalize 1 - rat p q ^ s = z at *
    generalize ((q : Int) : Rat) - ((p : Int) : Rat) = u at *
    generalize ((q : Int) : Rat) ^ s = t at *
    generalize ((q : Int) : Rat) = v at *
    grind
/-! the chances together -/
theorem cut_sum {x : Rat} {s : Nat} (B : BestC x s) (c : Nat) : sumN (cutR x s c) (c + s) = 1 := by
  have h0 : ∀ n, n ≤ c → sumN (cutR x s c) n = 1 - x ^ n := fun n hn => by
    rw [← geo x n, ← sumN_scale]
    refine sumN_congr fun i hi => ?_
    unfold cutR
    rw [if_pos (by omega)]
  have hne := Rat.ne_of_gt B.left
  have h1 : ∀ t, sumN (cutR x s c) (c + t) = 1 - x ^ c + (x ^ c - x ^ (c + t)) / (1 - x ^ s) := by
    intro t
    induction t with
    | zero =>
      rw [Nat.add_zero, h0 c (Nat.le_refl _)]
      generalize x ^ c = u
      generalize 1 - x ^ s = v at *
      grind
    | succ t ih =>
      rw [← Nat.add_assoc, sumN, ih]
      unfold cutR
      rw [if_neg (by omega), Rat.pow_succ]
      generalize x ^ c = u
      generalize x ^ (c + t) = w
      generalize 1 - x ^ s = v at *
      grind
  rw [h1 s, pow_plus]
  generalize x ^ c = u
  generalize x ^ s = v at *
  grind
theorem cut_list {x : Rat} {s : Nat} (B : BestC x s) (c : Nat) : (List.range (c + s)).map (cutR x s c) = (redL x s c).map ((1 - x) * ·) := by
  have hne := Rat.ne_of_gt B.left
  unfold redL
  rw [List.map_append, List.map_map, List.map_map, List.range_eq_range', List.range'_append_1.symm, List.map_append, Nat.zero_add, ← List.range_eq_range']
  congr 1
  · refine List.map_congr_left fun i hi => ?_
    have := List.mem_range.mp hi
    unfold cutR
    rw [if_pos this]
    rfl
  · refine List.map_congr_left fun i hi => ?_
    obtain ⟨h1, h2⟩ := List.mem_range'_1.mp hi
    unfold cutR
    rw [if_neg (by omega)]
    show _ = (1 - x) * ringR x s i
    unfold ringR
    generalize x ^ i = u
    generalize 1 - x ^ s = v at *
    grind
end St
namespace St
open PySem PySem.Spec PyProof.Rows L2
/-! ### lengths within a limit: none cost less -/
def pkgL (W : Nat → Int) (c m : Nat) : List RowB := plainB W c ++ pairsB c (limRows W c m)
theorem pkg_apart (W : Nat → Int) (c m : Nat) : ∀ a ∈ pkgL W c m, ∀ b ∈ pkgL W c m, a.n = b.n → a = b := by
  have key : ∀ a ∈ pkgL W c m, (∃ i, i < c ∧ a = ⟨((prsL W c).getD i (0, 0)).1, i, [((prsL W c).getD i (0, 0)).2]⟩) ∨ ∃ k, a = pairB c (limRows W c m) k := fun a ha => by
    rcases List.mem_append.mp ha with h | h
    · obtain ⟨i, hi, rfl⟩ := List.mem_map.mp h
      exact .inl ⟨i, List.mem_range.mp hi, rfl⟩
    · obtain ⟨k, _, rfl⟩ := List.mem_map.mp h
      exact .inr ⟨k, rfl⟩
  intro a ha b hb e
  rcases key a ha with ⟨i, hi, rfl⟩ | ⟨k, rfl⟩ <;> rcases key b hb with ⟨j, hj, rfl⟩ | ⟨l, rfl⟩
  · have e : i = j := e
    rw [e]
  · have e : i = c + 2 * l := e
    omega
  · have e : c + 2 * k = j := e
    omega
  · have e : c + 2 * k = c + 2 * l := e
    rw [show k = l by omega]
theorem lim_rowLe (W : Nat → Int) (c m : Nat) : limRows W c (m + 1) = (pkgL W c m).mergeSort rowLe := by
  have h := List.map_mergeSort (f := id) (r := leB) (s := rowLe) (l := pkgL W c m) fun a ha b hb => rowLt_data fun _ e => pkg_apart W c m a ha b hb e
  rw [List.map_id, List.map_id] at h
  exact h
theorem lim_srt (W : Nat → Int) (c : Nat) : ∀ m, (limRows W c m).Pairwise fun a b => rowLe a b = true
  | 0 => List.Pairwise.nil
  | m + 1 => by
    rw [lim_rowLe]
    exact List.pairwise_mergeSort (fun a b c => rowLe_trans a b c) (fun a b => rowLe_total a b) _
theorem lim_perm (W : Nat → Int) (c m : Nat) : (limRows W c (m + 1)).Perm (pkgL W c m) := by
  rw [lim_rowLe]
  exact List.mergeSort_perm _ _
theorem rowLe_w {a b : RowB} (h : rowLe a b = true) : a.w ≤ b.w := by
  rcases rowLe_iff.mp h with z | z <;> omega
/-- a row's weight is that of its numbers -/
theorem lim_w (W : Nat → Int) (c : Nat) : ∀ m, ∀ r ∈ limRows W c m, r.w = sumM W r.ms
  | 0, r, h => by cases h
  | m + 1, r, h => by
    have h := (lim_perm W c m).mem_iff.mp h
    rcases List.mem_append.mp h with h | h
    · obtain ⟨i, hi, rfl⟩ := List.mem_map.mp h
      have hi := List.mem_range.mp hi
      have hl : i < (prsL W c).length := by rw [prs_len]; exact hi
      have e : (prsL W c)[i]? = some (prsL W c)[i] := List.getElem?_eq_getElem hl
      have hm := (List.mergeSort_perm _ lePr).mem_iff.mp (List.mem_of_getElem? e)
      obtain ⟨j, _, ej⟩ := List.mem_map.mp hm
      rw [getD_of e, ← ej]
      unfold sumM
      simp
    · obtain ⟨i, hi, rfl⟩ := List.mem_map.mp h
      have hi := List.mem_range.mp hi
      have e1 : (limRows W c m)[2 * i]? = some (limRows W c m)[2 * i] := List.getElem?_eq_getElem (by omega)
      have e2 : (limRows W c m)[2 * i + 1]? = some (limRows W c m)[2 * i + 1] := List.getElem?_eq_getElem (by omega)
      unfold pairB
      rw [getD_of e1, getD_of e2, sumM_app, lim_w W c m _ (List.mem_of_getElem? e1), lim_w W c m _ (List.mem_of_getElem? e2)]
def sumR (rows : List RowB) : Int := (rows.map (·.w)).sum
theorem sumR_ms (W : Nat → Int) : ∀ {rows : List RowB}, (∀ r ∈ rows, r.w = sumM W r.ms) → sumR rows = sumM W (rows.flatMap (·.ms))
  | [], _ => rfl
  | r :: rows, h => by
    have ih := sumR_ms W (rows := rows) fun x hx => h x (List.mem_cons_of_mem _ hx)
    rw [List.flatMap_cons, sumM_app, ← ih, ← h r List.mem_cons_self]
    rfl
theorem sumI_perm {a b : List Int} (h : a.Perm b) : a.sum = b.sum := by
  induction h with
  | nil => rfl
  | cons x _ ih => rw [List.sum_cons, List.sum_cons, ih]
  | swap x y l => simp only [List.sum_cons]; omega
  | trans _ _ i1 i2 => rw [i1, i2]
/-! the least ones of a sorted list -/
theorem least_take : ∀ {s X Y : List Int}, s.Pairwise (· ≤ ·) → (X ++ Y).Perm s → (s.take X.length).sum ≤ X.sum
  | [], X, Y, _, h => by
    have := List.Perm.eq_nil h
    have : X = [] := (List.append_eq_nil_iff.mp this).1
    subst this
    exact Int.le_refl _
  | x :: s, X, Y, hs, h => by
    obtain ⟨h1, h2⟩ := List.pairwise_cons.mp hs
    have case1 : ∀ {X' : List Int}, (x :: X' ++ Y).Perm (x :: s) → (s.take X'.length).sum ≤ X'.sum := fun h => least_take h2 (h.cons_inv)
    rcases X with _ | ⟨z, X⟩
    · exact Int.le_refl _
    rw [List.length_cons, List.take_succ_cons, List.sum_cons, List.sum_cons]
    have hx : x ∈ z :: X ++ Y := h.mem_iff.mpr List.mem_cons_self
    rcases List.mem_append.mp hx with hx | hx
    · have p : (z :: X).Perm (x :: (z :: X).erase x) := List.perm_cons_erase hx
      have h3 : ((x :: (z :: X).erase x) ++ Y).Perm (x :: s) := (p.symm.append_right Y).trans h
      have := case1 h3
      have hl := p.length_eq
      have hsum : z + X.sum = x + ((z :: X).erase x).sum := by
        have := sumI_perm p
        rwa [List.sum_cons, List.sum_cons] at this
      rw [List.length_cons, List.length_cons] at hl
      rw [show ((z :: X).erase x).length = X.length by omega] at this
      omega
    · have p : Y.Perm (x :: Y.erase x) := List.perm_cons_erase hx
      have hz : x ≤ z := by
        have hz : z ∈ x :: s := h.mem_iff.mp (List.mem_append_left _ List.mem_cons_self)
        rcases List.mem_cons.mp hz with e | hz
        · omega
        · exact h1 z hz
      have h3 : (x :: X ++ (z :: Y.erase x)).Perm (x :: s) := by
        refine List.Perm.trans ?_ h
        have q1 : (x :: X ++ (z :: Y.erase x)).Perm (z :: (x :: X) ++ Y.erase x) := List.perm_middle
        have q2 : (z :: (x :: X) ++ Y.erase x).Perm (z :: X ++ (x :: Y.erase x)) := (List.Perm.cons z (List.perm_middle (l₁ := X) (a := x) (l₂ := Y.erase x)).symm)
        exact q1.trans (q2.trans (List.Perm.append_left _ p.symm))
      have := least_take h2 (X := X) (Y := z :: Y.erase x) h3.cons_inv
      omega
/-! lower bound: the coins of lengths, level by level -/
/-- the coins of number i up to level j -/
def eC (m : Nat) (g : Nat → Nat) (j i : Nat) : Nat := g i - (m - j)
def UC (m c : Nat) (g : Nat → Nat) (j : Nat) : Nat := ((List.range c).map fun i => 2 ^ j - 2 ^ (j - eC m g j i)).sum
def AC (m c : Nat) (g : Nat → Nat) (j : Nat) : List Nat := (List.range c).filter fun i => decide (m - (j + 1) < g i)
theorem eC_succ {m j : Nat} (g : Nat → Nat) (i : Nat) (hj : j < m) : eC m g (j + 1) i = eC m g j i + (if m - (j + 1) < g i then 1 else 0) := by
  unfold eC
  split <;> omega
theorem eC_zero {m j : Nat} (g : Nat → Nat) (i : Nat) (hj : j < m) (h : ¬ m - (j + 1) < g i) : eC m g j i = 0 := by
  unfold eC
  omega
theorem sum_pm (l : List Nat) (f g : Nat → Nat) : (l.map fun x => f x + g x).sum = (l.map f).sum + (l.map g).sum := by
  induction l with
  | nil => rfl
  | cons a l ih => simp only [List.map_cons, List.sum_cons, ih]; omega
theorem sum_ind (p : Nat → Bool) (v : Nat) (l : List Nat) : (l.map fun x => if p x = true then v else 0).sum = (l.filter p).length * v := by
  induction l with
  | nil => simp
  | cons a l ih =>
    rw [List.map_cons, List.sum_cons, ih, List.filter_cons]
    split
    · rw [List.length_cons, Nat.add_mul, Nat.one_mul, Nat.add_comm]
    · omega
theorem UC_succ {m j : Nat} (c : Nat) (g : Nat → Nat) (hj : j < m) (hg : ∀ i, i < c → g i ≤ m) : UC m c g (j + 1) = UC m c g j + (AC m c g j).length * 2 ^ j := by
  unfold UC AC
  rw [← sum_ind, ← sum_pm]
  congr 1
  refine List.map_congr_left fun i hi => ?_
  have hi := hg i (List.mem_range.mp hi)
  show 2 ^ (j + 1) - 2 ^ (j + 1 - eC m g (j + 1) i) = 2 ^ j - 2 ^ (j - eC m g j i) + if decide (m - (j + 1) < g i) = true then 2 ^ j else 0
  rw [eC_succ g i hj]
  by_cases c1 : m - (j + 1) < g i
  · rw [if_pos c1, if_pos (decide_eq_true c1), show j + 1 - (eC m g j i + 1) = j - eC m g j i by omega]
    have : 2 ^ (j - eC m g j i) ≤ 2 ^ j := Nat.pow_le_pow_right (by decide) (Nat.sub_le _ _)
    rw [Nat.pow_succ]
    omega
  · rw [if_neg c1, if_neg (by simp [c1]), eC_zero g i hj c1]
    simp
theorem dotI_AC {W : Nat → Int} {m j : Nat} (c : Nat) (g : Nat → Nat) (hj : j < m) : dotI W (eC m g (j + 1)) c = dotI W (eC m g j) c + ((AC m c g j).map W).sum := by
  unfold AC
  induction c with
  | zero => rfl
  | succ c ih =>
    rw [dotI, dotI, ih, List.range_succ, List.filter_append, List.map_append, List.sum_append, eC_succ g c hj]
    by_cases c1 : m - (j + 1) < g c
    · rw [if_pos c1, List.filter_cons, if_pos (decide_eq_true c1)]
      simp only [List.filter_nil, List.map_cons, List.map_nil, List.sum_cons, List.sum_nil]
      rw [Int.natCast_add, Int.mul_add]
      simp
      omega
    · rw [if_neg c1, List.filter_cons, if_neg (by simp [c1])]
      simp
      omega
theorem plain_w (W : Nat → Int) (c : Nat) : ((plainB W c).map (·.w)).Perm ((List.range c).map W) := by
  have e : (plainB W c).map (·.w) = (prsL W c).map (·.1) := by
    unfold plainB
    rw [List.map_map]
    have e : ∀ l : List (Int × Nat), (List.range l.length).map (fun i => (l.getD i (0, 0)).1) = l.map (·.1) := by
      intro l
      induction l with
      | nil => rfl
      | cons a r ih =>
        rw [List.length_cons, List.range_succ_eq_map, List.map_cons, List.map_map, List.map_cons, ← ih]
        rfl
    have h := e (prsL W c)
    rw [prs_len] at h
    exact h
  rw [e]
  have p := (List.mergeSort_perm ((List.range c).map fun i => (W i, i)) lePr).map (·.1)
  rw [List.map_map] at p
  exact p
theorem pairs_w (c : Nat) (rows : List RowB) : ∀ b, 2 * b ≤ rows.length → (((List.range b).map (pairB c rows)).map (·.w)).sum = sumR (rows.take (2 * b))
  | 0, _ => rfl
  | b + 1, h => by
    have e1 : rows[2 * b]? = some rows[2 * b] := List.getElem?_eq_getElem (by omega)
    have e2 : rows[2 * b + 1]? = some rows[2 * b + 1] := List.getElem?_eq_getElem (by omega)
    have ih := pairs_w c rows b (by omega)
    unfold sumR at *
    rw [List.range_succ, List.map_append, List.map_append, List.sum_append, ih, show 2 * (b + 1) = 2 * b + 1 + 1 by omega, take_more e2, take_more e1, List.map_append, List.map_append, List.sum_append, List.sum_append]
    simp only [List.map_cons, List.map_nil, List.sum_cons, List.sum_nil]
    unfold pairB
    rw [getD_of e1, getD_of e2]
    show _ + (_ + _ + 0) = _
    omega
theorem take_range (b n : Nat) (h : b ≤ n) : (List.range n).take b = List.range b := by
  rw [List.take_range, Nat.min_eq_left h]
/-- the first rows of a level cost no more than any coins that are worth as much -/
theorem lim_lower {W : Nat → Int} {c m : Nat} {g : Nat → Nat} (hW : ∀ i, 0 ≤ W i) (hg : ∀ i, i < c → g i ≤ m) : ∀ j, j ≤ m → ∀ k, k * 2 ^ j ≤ 2 * UC m c g j → k ≤ (limRows W c j).length ∧ sumR ((limRows W c j).take k) ≤ dotI W (eC m g j) c
  | 0, _, k, h => by
    have hU : UC m c g 0 = 0 := by
      unfold UC
      have : ∀ l : List Nat, (l.map fun i => 2 ^ 0 - 2 ^ (0 - eC m g 0 i)).sum = 0 := by
        intro l
        induction l with
        | nil => rfl
        | cons a l ih => rw [List.map_cons, List.sum_cons, ih]; simp
      exact this _
    have hk : k = 0 := by rw [hU] at h; simp at h; exact h
    subst hk
    refine ⟨Nat.zero_le _, ?_⟩
    have : ∀ c, (∀ i, i < c → g i ≤ m) → 0 ≤ dotI W (eC m g 0) c := by
      intro c
      induction c with
      | zero => intro _; exact Int.le_refl _
      | succ c ih =>
        intro h
        have := ih fun i hi => h i (by omega)
        have h2 := Int.mul_nonneg (hW c) (Int.natCast_nonneg (eC m g 0 c))
        rw [dotI]
        omega
    exact this c hg
  | j + 1, hj, k, h => by
    have hjm : j < m := by omega
    rw [UC_succ c g hjm hg, Nat.pow_succ] at h
    obtain ⟨a, ha⟩ : ∃ a, a = (AC m c g j).length := ⟨_, rfl⟩
    rw [← ha] at h
    obtain ⟨b, hb⟩ : ∃ b, b = k - a := ⟨_, rfl⟩
    have hb2 : (2 * b) * 2 ^ j ≤ 2 * UC m c g j := by
      rw [hb]
      by_cases cz : k ≤ a
      · rw [show k - a = 0 by omega]
        simp
      · obtain ⟨d, hd⟩ : ∃ d, k = a + d := ⟨k - a, by omega⟩
        rw [hd] at h ⊢
        rw [Nat.add_sub_cancel_left]
        have e1 : (a + d) * (2 ^ j * 2) = 2 * (a * 2 ^ j) + 2 * (d * 2 ^ j) := by grind
        have e2 : 2 * d * 2 ^ j = 2 * (d * 2 ^ j) := by grind
        rw [e1] at h
        rw [e2]
        omega
    obtain ⟨h1, h2⟩ := lim_lower hW hg j (by omega) (2 * b) hb2
    have hAC : (AC m c g j).length ≤ c := by
      unfold AC
      have := List.length_filter_le (fun i => decide (m - (j + 1) < g i)) (List.range c)
      rwa [List.length_range] at this
    have plen : (pairsB c (limRows W c j)).length = (limRows W c j).length / 2 := by
      unfold pairsB
      rw [List.length_map, List.length_range]
    have llen : (limRows W c (j + 1)).length = c + (limRows W c j).length / 2 := by
      rw [(lim_perm W c j).length_eq]
      unfold pkgL
      rw [List.length_append, plain_len, plen]
    refine ⟨by rw [llen]; omega, ?_⟩
    -- some of the coins
    obtain ⟨X1, hX1⟩ : ∃ X1, X1 = (AC m c g j).take (k - b) := ⟨_, rfl⟩
    have hX1l : X1.length = k - b := by rw [hX1, List.length_take]; omega
    have hpb : (pairsB c (limRows W c j)).take b = (List.range b).map (pairB c (limRows W c j)) := by
      unfold pairsB
      rw [← List.map_take, take_range b _ (by omega)]
    have hs : ((limRows W c (j + 1)).map (·.w)).Pairwise (· ≤ ·) := List.pairwise_map.mpr ((lim_srt W c (j + 1)).imp rowLe_w)
    have hp : ((X1.map W ++ ((pairsB c (limRows W c j)).take b).map (·.w)) ++ (((AC m c g j).drop (k - b)).map W ++ ((List.range c).filter fun i => !decide (m - (j + 1) < g i)).map W ++ ((pairsB c (limRows W c j)).drop b).map (·.w))).Perm ((limRows W c (j + 1)).map (·.w)) := by
      refine List.Perm.trans ?_ ((lim_perm W c j).map (·.w)).symm
      unfold pkgL
      rw [List.map_append]
      refine List.Perm.trans ?_ ((plain_w W c).symm.append_right _)
      have q1 : ((List.range c).map W).Perm (X1.map W ++ (((AC m c g j).drop (k - b)).map W ++ ((List.range c).filter fun i => !decide (m - (j + 1) < g i)).map W)) := by
        rw [← List.append_assoc, ← List.map_append, hX1, List.take_append_drop, ← List.map_append]
        exact (List.filter_append_perm (fun i => decide (m - (j + 1) < g i)) (List.range c)).symm.map W
      have q2 : (pairsB c (limRows W c j)).map (·.w) = ((pairsB c (limRows W c j)).take b).map (·.w) ++ ((pairsB c (limRows W c j)).drop b).map (·.w) := by rw [← List.map_append, List.take_append_drop]
      rw [q2]
      refine List.Perm.trans ?_ (q1.symm.append_right _)
      generalize X1.map W = A
      generalize ((AC m c g j).drop (k - b)).map W ++ ((List.range c).filter fun i => !decide (m - (j + 1) < g i)).map W = B
      generalize ((pairsB c (limRows W c j)).take b).map (·.w) = C
      generalize ((pairsB c (limRows W c j)).drop b).map (·.w) = D
      rw [List.append_assoc, List.append_assoc]
      refine List.Perm.append_left A ?_
      rw [← List.append_assoc, ← List.append_assoc]
      exact List.Perm.append_right D List.perm_append_comm
    have hl := least_take hs hp
    have hlen : (X1.map W ++ ((pairsB c (limRows W c j)).take b).map (·.w)).length = k := by
      rw [List.length_append, List.length_map, List.length_map, List.length_take, hX1l, plen]
      omega
    rw [hlen, List.sum_append, hpb, pairs_w c _ b h1, ← List.map_take] at hl
    have hX1s : (X1.map W).sum ≤ ((AC m c g j).map W).sum := by
      rw [hX1]
      have : ∀ (l : List Nat) (n : Nat), ((l.take n).map W).sum ≤ (l.map W).sum := by
        intro l
        induction l with
        | nil => intro n; simp
        | cons x l ih =>
          intro n
          cases n with
          | zero =>
            have h0 := ih 0
            have := hW x
            simp at h0 ⊢
            omega
          | succ n =>
            have h0 := ih n
            simp
            rw [← List.map_take]
            exact h0
      exact this _ _
    rw [dotI_AC c g hjm]
    have : sumR ((limRows W c (j + 1)).take k) ≤ (X1.map W).sum + sumR ((limRows W c j).take (2 * b)) := hl
    omega
theorem plain_flat' (W : Nat → Int) (c : Nat) : (plainB W c).flatMap (·.ms) = (prsL W c).map (·.2) := by
  unfold plainB
  rw [List.flatMap_map]
  have e : ∀ l : List (Int × Nat), (List.range l.length).flatMap (fun i => [(l.getD i (0, 0)).2]) = l.map (·.2) := by
    intro l
    induction l with
    | nil => rfl
    | cons a r ih =>
      rw [List.length_cons, List.range_succ_eq_map, List.flatMap_cons, List.flatMap_map, List.map_cons, ← ih]
      rfl
  have h := e (prsL W c)
  rw [prs_len] at h
  exact h
theorem plain_count' (W : Nat → Int) {c i : Nat} (h : i < c) : ((plainB W c).flatMap (·.ms)).count i = 1 := by
  rw [plain_flat']
  have p : ((prsL W c).map (·.2)).Perm (List.range c) := by
    have := (List.mergeSort_perm ((List.range c).map fun i => (W i, i)) lePr).map (·.2)
    rw [List.map_map] at this
    have e : (List.range c).map ((fun x : Int × Nat => x.2) ∘ fun i => (W i, i)) = List.range c := List.map_id' _
    rw [e] at this
    exact this
  rw [p.count_eq]
  exact (List.nodup_range.count).trans (if_pos (List.mem_range.mpr h))
theorem pairs_flat' (c : Nat) (rows : List RowB) : ∀ n, 2 * n ≤ rows.length → ((List.range n).map (pairB c rows)).flatMap (·.ms) = (rows.take (2 * n)).flatMap (·.ms)
  | 0, _ => rfl
  | n + 1, h => by
    have e1 : rows[2 * n]? = some rows[2 * n] := List.getElem?_eq_getElem (by omega)
    have e2 : rows[2 * n + 1]? = some rows[2 * n + 1] := List.getElem?_eq_getElem (by omega)
    rw [List.range_succ, List.map_append, List.flatMap_append, pairs_flat' c rows n (by omega), show 2 * (n + 1) = 2 * n + 1 + 1 by omega, take_more e2, take_more e1, List.flatMap_append, List.flatMap_append, List.append_assoc]
    congr 1
    show (pairB c rows n).ms ++ [] = _
    unfold pairB
    rw [getD_of e1, getD_of e2]
    simp
/-! the other side: what is computed are lengths of a book within the limit -/
theorem srt_uniqB {α : Type} {r : α → α → Bool} : ∀ {a b : List α}, (∀ x ∈ a, ∀ y ∈ a, r x y = true → r y x = true → x = y) → a.Pairwise (fun x y => r x y = true) → b.Pairwise (fun x y => r x y = true) → a.Perm b → a = b
  | [], b, _, _, _, h => (List.Perm.eq_nil h.symm).symm
  | x :: a, [], _, _, _, h => absurd h.length_eq (by simp)
  | x :: a, y :: b, hr, ha, hb, h => by
    obtain ⟨a1, a2⟩ := List.pairwise_cons.mp ha
    obtain ⟨b1, b2⟩ := List.pairwise_cons.mp hb
    have e : x = y := by
      rcases List.mem_cons.mp (h.mem_iff.mpr List.mem_cons_self) with e | hy
      · exact e.symm
      · rcases List.mem_cons.mp (h.mem_iff.mp List.mem_cons_self) with e | hx
        · exact e
        · exact hr x List.mem_cons_self y (List.mem_cons_of_mem _ hy) (a1 y hy) (b1 x hx)
    subst e
    rw [srt_uniqB (fun u hu v hv => hr u (List.mem_cons_of_mem _ hu) v (List.mem_cons_of_mem _ hv)) a2 b2 h.cons_inv]
theorem pairs_srt {c : Nat} {rows : List RowB} (h : rows.Pairwise fun a b => rowLe a b = true) : (pairsB c rows).Pairwise fun a b => rowLe a b = true := by
  unfold pairsB
  rw [List.pairwise_map]
  refine List.Pairwise.imp_of_mem (fun {i k} hi hk hik => ?_) List.pairwise_lt_range
  have hi := List.mem_range.mp hi
  have hk := List.mem_range.mp hk
  have e : ∀ x, x < rows.length → rows[x]? = some (rows.getD x rowD) := fun x hx => by
    rw [List.getElem?_eq_getElem hx, getD_of (List.getElem?_eq_getElem hx)]
  have le : ∀ x y, x < y → y < rows.length → (rows.getD x rowD).w ≤ (rows.getD y rowD).w := fun x y hxy hy => by
    have := List.pairwise_iff_getElem.mp h x y (by omega) hy hxy
    rw [getD_of (List.getElem?_eq_getElem (by omega)), getD_of (List.getElem?_eq_getElem hy)]
    exact rowLe_w this
  have l1 := le (2 * i) (2 * k) (by omega) (by omega)
  have l2 := le (2 * i + 1) (2 * k + 1) (by omega) (by omega)
  refine rowLe_iff.mpr ?_
  show (_ + _ < _ + _) ∨ (_ + _ = _ + _ ∧ c + 2 * i ≤ c + 2 * k)
  omega
theorem lim_pairs (W : Nat → Int) (c m : Nat) : (limRows W c (m + 1)).filter (fun r => decide (c ≤ r.n)) = pairsB c (limRows W c m) := by
  have hp : ((limRows W c (m + 1)).filter fun r => decide (c ≤ r.n)).Perm (pairsB c (limRows W c m)) := by
    refine ((lim_perm W c m).filter _).trans ?_
    unfold pkgL
    rw [List.filter_append]
    have e1 : (plainB W c).filter (fun r => decide (c ≤ r.n)) = [] := List.filter_eq_nil_iff.mpr fun r hr => by
      obtain ⟨i, hi, rfl⟩ := List.mem_map.mp hr
      have := List.mem_range.mp hi
      simp
      omega
    have e2 : (pairsB c (limRows W c m)).filter (fun r => decide (c ≤ r.n)) = pairsB c (limRows W c m) := List.filter_eq_self.mpr fun r hr => by
      obtain ⟨i, hi, rfl⟩ := List.mem_map.mp hr
      show decide (c ≤ c + 2 * i) = true
      simp
    rw [e1, e2]
    exact .refl _
  refine srt_uniqB (r := rowLe) (fun x hx y hy h1 h2 => ?_) (List.Pairwise.sublist List.filter_sublist (lim_srt W c (m + 1))) (pairs_srt (lim_srt W c m)) hp
  have hx := (lim_perm W c m).mem_iff.mp (List.mem_filter.mp hx).1
  have hy := (lim_perm W c m).mem_iff.mp (List.mem_filter.mp hy).1
  refine pkg_apart W c m x hx y hy ?_
  have a1 := rowLe_iff.mp h1
  have a2 := rowLe_iff.mp h2
  omega
def cnt (rows : List RowB) (i : Nat) : Nat := (rows.flatMap (·.ms)).count i
theorem sum_le' (l : List Nat) (f g : Nat → Nat) (h : ∀ x ∈ l, f x ≤ g x) : (l.map f).sum ≤ (l.map g).sum := by
  induction l with
  | nil => exact Nat.le_refl _
  | cons a l ih =>
    have := h a List.mem_cons_self
    have := ih fun x hx => h x (List.mem_cons_of_mem _ hx)
    rw [List.map_cons, List.map_cons, List.sum_cons, List.sum_cons]
    omega
theorem sum_count (c : Nat) : ∀ (l : List Nat), (∀ i ∈ l, i < c) → ((List.range c).map fun i => l.count i).sum = l.length
  | [], _ => by
    have : ∀ l : List Nat, (l.map fun i => ([] : List Nat).count i).sum = 0 := by
      intro l
      induction l with
      | nil => rfl
      | cons a l ih => rw [List.map_cons, List.sum_cons, ih]; rfl
    exact this _
  | a :: l, h => by
    have ih := sum_count c l fun i hi => h i (List.mem_cons_of_mem _ hi)
    have e : (fun i => (a :: l).count i) = fun i => l.count i + (if decide (i = a) = true then 1 else 0) := by
      funext i
      rw [List.count_cons]
      by_cases c : i = a
      · simp [c]
      · simp [c, Ne.symm c]
    rw [e, sum_pm, ih, sum_ind, List.length_cons]
    have : ((List.range c).filter fun i => decide (i = a)).length = 1 := by
      have ha := h a List.mem_cons_self
      have hc := List.count_eq_length_filter (a := a) (l := List.range c)
      have e2 : (List.range c).filter (fun i => decide (i = a)) = (List.range c).filter (fun i => i == a) := by
        congr 1
      rw [e2, ← hc]
      exact (List.nodup_range.count).trans (if_pos (List.mem_range.mpr ha))
    rw [this]
theorem subl_flat {α β : Type} (f : α → List β) {a b : List α} (h : a.Sublist b) : (a.flatMap f).Sublist (b.flatMap f) := by
  induction h with
  | slnil => exact .slnil
  | cons x _ ih =>
    rw [List.flatMap_cons]
    exact ih.trans (List.sublist_append_right _ _)
  | cons_cons x _ ih =>
    rw [List.flatMap_cons, List.flatMap_cons]
    exact List.Sublist.append (.refl _) ih
theorem lim_upper (W : Nat → Int) (c : Nat) : ∀ j, ∀ k, k ≤ (limRows W c j).length → (∀ i, i < c → cnt ((limRows W c j).take k) i ≤ j) ∧ k * 2 ^ j ≤ 2 * ((List.range c).map fun i => 2 ^ j - 2 ^ (j - cnt ((limRows W c j).take k) i)).sum
  | 0, k, h => by
    have : k = 0 := by simpa [limRows] using h
    subst this
    exact ⟨fun i _ => Nat.le_refl _, by simp⟩
  | j + 1, k, h => by
    obtain ⟨T, hT⟩ : ∃ T, T = (limRows W c (j + 1)).take k := ⟨_, rfl⟩
    have hTl : T.length = k := by rw [hT, List.length_take]; omega
    obtain ⟨b, hb⟩ : ∃ b, b = (T.filter fun r => decide (c ≤ r.n)).length := ⟨_, rfl⟩
    have plen : (pairsB c (limRows W c j)).length = (limRows W c j).length / 2 := by
      unfold pairsB
      rw [List.length_map, List.length_range]
    have hpre : T.filter (fun r => decide (c ≤ r.n)) = (pairsB c (limRows W c j)).take b := by
      have e := lim_pairs W c j
      rw [← List.take_append_drop k (limRows W c (j + 1)), ← hT, List.filter_append] at e
      rw [← e, List.take_left' hb.symm]
    have hbl : b ≤ (limRows W c j).length / 2 := by
      have := congrArg List.length hpre
      rw [← hb, List.length_take, plen] at this
      omega
    have hpb : (pairsB c (limRows W c j)).take b = (List.range b).map (pairB c (limRows W c j)) := by
      unfold pairsB
      rw [← List.map_take, take_range b _ hbl]
    obtain ⟨F, hF⟩ : ∃ F, F = T.filter fun r => !decide (c ≤ r.n) := ⟨_, rfl⟩
    have hFl : F.length + b = k := by
      have := (List.filter_append_perm (fun r : RowB => decide (c ≤ r.n)) T).length_eq
      rw [List.length_append, ← hb, ← hF, hTl] at this
      omega
    -- plain ones: each number once at most
    have hFsub : ∀ i, (F.flatMap (·.ms)).count i ≤ ((plainB W c).flatMap (·.ms)).count i := fun i => by
      have s1 : F.Sublist ((limRows W c (j + 1)).filter fun r => !decide (c ≤ r.n)) := by
        rw [hF, hT]
        exact (List.take_sublist k _).filter _
      have p1 : ((limRows W c (j + 1)).filter fun r => !decide (c ≤ r.n)).Perm (plainB W c) := by
        refine ((lim_perm W c j).filter _).trans ?_
        unfold pkgL
        rw [List.filter_append]
        have e1 : (plainB W c).filter (fun r => !decide (c ≤ r.n)) = plainB W c := List.filter_eq_self.mpr fun r hr => by
          obtain ⟨i, hi, rfl⟩ := List.mem_map.mp hr
          have := List.mem_range.mp hi
          simp
          omega
        have e2 : (pairsB c (limRows W c j)).filter (fun r => !decide (c ≤ r.n)) = [] := List.filter_eq_nil_iff.mpr fun r hr => by
          obtain ⟨i, hi, rfl⟩ := List.mem_map.mp hr
          show ¬ (!decide (c ≤ c + 2 * i)) = true
          simp
        rw [e1, e2, List.append_nil]
      have p2 := (List.Perm.flatMap_right (fun r : RowB => r.ms) p1).count_eq i
      have s2 : (F.flatMap (·.ms)).Sublist (((limRows W c (j + 1)).filter fun r => !decide (c ≤ r.n)).flatMap (·.ms)) := subl_flat _ s1
      have := s2.count_le i
      omega
    have hF1 : ∀ i, i < c → (F.flatMap (·.ms)).count i ≤ 1 := fun i hi => by
      have := hFsub i
      rw [plain_count' W hi] at this
      exact this
    have hFlen : (F.flatMap (·.ms)).length = F.length := by
      have : ∀ r ∈ F, r.ms.length = 1 := fun r hr => by
        have h1 : r ∈ T := by rw [hF] at hr; exact (List.mem_filter.mp hr).1
        have h2 : r ∈ limRows W c (j + 1) := by rw [hT] at h1; exact List.mem_of_mem_take h1
        rcases List.mem_append.mp ((lim_perm W c j).mem_iff.mp h2) with h3 | h3
        · obtain ⟨i, hi, rfl⟩ := List.mem_map.mp h3
          rfl
        · exfalso
          obtain ⟨i, hi, rfl⟩ := List.mem_map.mp h3
          rw [hF] at hr
          have := (List.mem_filter.mp hr).2
          have e : (pairB c (limRows W c j) i).n = c + 2 * i := rfl
          rw [e] at this
          simp at this
      clear hFsub hF1 hFl hF
      induction F with
      | nil => rfl
      | cons r F ih =>
        rw [List.flatMap_cons, List.length_append, this r List.mem_cons_self, ih fun x hx => this x (List.mem_cons_of_mem _ hx), List.length_cons]
        omega
    have hcount : ∀ i, cnt T i = (F.flatMap (·.ms)).count i + cnt ((limRows W c j).take (2 * b)) i := fun i => by
      unfold cnt
      have p := (List.Perm.flatMap_right (fun r : RowB => r.ms) (List.filter_append_perm (fun r : RowB => decide (c ≤ r.n)) T)).count_eq i
      rw [← p, List.flatMap_append, List.count_append, hpre, hpb, pairs_flat' c _ b (by omega), ← hF]
      omega
    obtain ⟨i1, i2⟩ := lim_upper W c j (2 * b) (by omega)
    rw [← hT]
    refine ⟨fun i hi => ?_, ?_⟩
    · have := i1 i hi
      have := hF1 i hi
      rw [hcount i]
      omega
    have hsum : ((List.range c).map fun i => (F.flatMap (·.ms)).count i * 2 ^ j + (2 ^ j - 2 ^ (j - cnt ((limRows W c j).take (2 * b)) i))).sum ≤ ((List.range c).map fun i => 2 ^ (j + 1) - 2 ^ (j + 1 - cnt T i)).sum := by
      refine sum_le' _ _ _ fun i hi => ?_
      have hi := List.mem_range.mp hi
      have h1 := hF1 i hi
      have h2 := i1 i hi
      rw [hcount i]
      generalize cnt ((limRows W c j).take (2 * b)) i = x at *
      have hx : 2 ^ (j - x) ≤ 2 ^ j := Nat.pow_le_pow_right (by decide) (Nat.sub_le _ _)
      rcases Nat.le_one_iff_eq_zero_or_eq_one.mp h1 with z | z
      · rw [z, Nat.zero_add, show j + 1 - x = (j - x) + 1 by omega, Nat.pow_succ, Nat.pow_succ]
        omega
      · rw [z, show j + 1 - (1 + x) = j - x by omega, Nat.pow_succ]
        omega
    rw [sum_pm] at hsum
    have hall : ((List.range c).map fun i => (F.flatMap (·.ms)).count i * 2 ^ j).sum = F.length * 2 ^ j := by
      have e : ∀ (l : List Nat) (f : Nat → Nat) (v : Nat), (l.map fun i => f i * v).sum = (l.map f).sum * v := by
        intro l f v
        induction l with
        | nil => simp
        | cons a l ih => rw [List.map_cons, List.sum_cons, ih, List.map_cons, List.sum_cons, Nat.add_mul]
      rw [e, sum_count c _ fun i hi => ?_, hFlen]
      obtain ⟨r, hr, hi⟩ := List.mem_flatMap.mp hi
      rw [hF] at hr
      have h1 := (List.mem_filter.mp hr).1
      rw [hT] at h1
      exact (lim_ms W c (j + 1) r (List.mem_of_mem_take h1)).1 i hi
    rw [hall] at hsum
    have e1 : 2 * b * 2 ^ j = 2 * (b * 2 ^ j) := Nat.mul_assoc _ _ _
    have e2 : k * 2 ^ (j + 1) = 2 * (F.length * 2 ^ j) + 2 * (b * 2 ^ j) := by rw [← hFl, Nat.pow_succ]; grind
    rw [e1] at i2
    rw [e2]
    omega
/-- lengths within a limit, of a book, that cost least -/
structure LimF (W : Nat → Int) (c m : Nat) (ls : List Nat) : Prop where
  len : ls.length = c
  low : ∀ l ∈ ls, l ≤ m
  room : krf m ls ≤ 2 ^ m
  least : ∀ ms : List Nat, ms.length = c → (∀ l ∈ ms, l ≤ m) → krf m ms ≤ 2 ^ m → (prodZ W 0 ls).sum ≤ (prodZ W 0 ms).sum
theorem krf_UC (c m : Nat) (g : Nat → Nat) (hg : ∀ i, i < c → g i ≤ m) : krf m ((List.range c).map g) + UC m c g m = c * 2 ^ m := by
  unfold krf UC
  rw [List.map_map, ← sum_pm]
  have e : ∀ c, (∀ i, i < c → g i ≤ m) → ((List.range c).map fun x => ((fun l => 2 ^ (m - l)) ∘ g) x + (2 ^ m - 2 ^ (m - eC m g m x))).sum = c * 2 ^ m := by
    intro c
    induction c with
    | zero => intro _; simp
    | succ c ih =>
      intro h
      rw [List.range_succ, List.map_append, List.sum_append, ih fun i hi => h i (by omega), Nat.add_mul, Nat.one_mul]
      congr 1
      have h1 : eC m g m c = g c := by unfold eC; omega
      simp only [List.map_cons, List.map_nil, List.sum_cons, List.sum_nil, Function.comp, h1]
      have : 2 ^ (m - g c) ≤ 2 ^ m := Nat.pow_le_pow_right (by decide) (Nat.sub_le _ _)
      omega
  exact e c hg
theorem lim_is {W : Nat → Int} {c m : Nat} (hW : ∀ i, 0 ≤ W i) (hf : ∀ k, k + 1 < c → W (k + 1) ≤ W k) (hc : 1 ≤ c) (hm : 1 ≤ m) (hcm : c ≤ 2 ^ m) {ls : List Nat} (h : ls.Perm ((List.range c).map (limG W c m))) (hs : ls.Pairwise (· ≤ ·)) : LimF W c m ls := by
  -- level m has enough rows
  have h2m : 2 ^ m = 2 * 2 ^ (m - 1) := by
    obtain ⟨d, rfl⟩ : ∃ d, m = d + 1 := ⟨m - 1, by omega⟩
    rw [Nat.add_sub_cancel, Nat.pow_succ, Nat.mul_comm]
  -- all of one length: a book
  have hk0 : 2 * c - 2 ≤ (limRows W c m).length := by
    have hU : UC m c (fun _ => m) m = c * 2 ^ m - c := by
      have := krf_UC c m (fun _ => m) fun _ _ => Nat.le_refl _
      have e : krf m ((List.range c).map fun _ => m) = c := by
        unfold krf
        rw [List.map_map]
        have : ∀ l : List Nat, (l.map ((fun l => 2 ^ (m - l)) ∘ fun _ => m)).sum = l.length := by
          intro l
          induction l with
          | nil => rfl
          | cons a l ih => rw [List.map_cons, List.sum_cons, ih, List.length_cons]; simp; omega
        rw [this, List.length_range]
      omega
    refine (lim_lower (W := W) (g := fun _ => m) hW (fun _ _ => Nat.le_refl _) m (Nat.le_refl _) (2 * c - 2) ?_).1
    rw [hU]
    obtain ⟨d, rfl⟩ : ∃ d, c = d + 1 := ⟨c - 1, by omega⟩
    have e1 : (2 * (d + 1) - 2) * 2 ^ m = 2 * (d * 2 ^ m) := by rw [show 2 * (d + 1) - 2 = 2 * d by omega, Nat.mul_assoc]
    have e2 : (d + 1) * 2 ^ m = d * 2 ^ m + 2 ^ m := by rw [Nat.add_mul, Nat.one_mul]
    rw [e1, e2]
    omega
  obtain ⟨u1, u2⟩ := lim_upper W c m (2 * c - 2) hk0
  have hg : ∀ i, limG W c m i = cnt ((limRows W c m).take (2 * c - 2)) i := fun i => by
    unfold limG bump cnt
    exact Nat.zero_add _
  have hlow : ∀ i, i < c → limG W c m i ≤ m := fun i hi => by rw [hg]; exact u1 i hi
  have hlen : ls.length = c := by rw [h.length_eq, List.length_map, List.length_range]
  have hkr : krf m ls ≤ 2 ^ m := by
    rw [krf_perm h]
    have e := krf_UC c m (limG W c m) hlow
    have e2 : UC m c (limG W c m) m = ((List.range c).map fun i => 2 ^ m - 2 ^ (m - cnt ((limRows W c m).take (2 * c - 2)) i)).sum := by
      unfold UC
      congr 1
      refine List.map_congr_left fun i _ => ?_
      unfold eC
      rw [hg]
      simp
    rw [← e2] at u2
    obtain ⟨d, rfl⟩ : ∃ d, c = d + 1 := ⟨c - 1, by omega⟩
    have e1 : (2 * (d + 1) - 2) * 2 ^ m = 2 * (d * 2 ^ m) := by rw [show 2 * (d + 1) - 2 = 2 * d by omega, Nat.mul_assoc]
    have e3 : (d + 1) * 2 ^ m = d * 2 ^ m + 2 ^ m := by rw [Nat.add_mul, Nat.one_mul]
    rw [e1] at u2
    rw [e3] at e
    omega
  refine ⟨hlen, fun l hl => ?_, hkr, fun ms h1 h2 h3 => ?_⟩
  · obtain ⟨i, hi, rfl⟩ := List.mem_map.mp (h.mem_iff.mp hl)
    exact hlow i (List.mem_range.mp hi)
  -- what ls costs
  have c1 : (prodZ W 0 ls).sum ≤ sumR ((limRows W c m).take (2 * c - 2)) := by
    have e1 : ls = sortN ((List.range c).map (limG W c m)) := nat_uniq hs (sortN_srt _) (h.trans (sortN_perm _).symm)
    have h1 := prod_sortN (W := W) ((List.range c).map (limG W c m)) 0 fun k _ hk => hf k (by rw [List.length_map, List.length_range] at hk; omega)
    rw [← e1] at h1
    refine Int.le_trans h1 (Int.le_of_eq ?_)
    rw [List.range_eq_range', prod_range, ← List.range_eq_range', ← dotI_sum]
    unfold limG
    rw [dotI_bump W _ _ c fun i hi => ?_, sumR_ms W fun r hr => lim_w W c m r (List.mem_of_mem_take hr)]
    · have : ∀ n, dotI W (fun _ => 0) n = 0 := by
        intro n
        induction n with
        | zero => rfl
        | succ n ih => rw [dotI, ih]; simp
      rw [this, Int.zero_add]
    · obtain ⟨r, hr, hi⟩ := List.mem_flatMap.mp hi
      exact (lim_ms W c m r (List.mem_of_mem_take hr)).1 i hi
  -- what others cost
  have hgm : ∀ i, i < c → ms.getD i 0 ≤ m := fun i hi => h2 _ (by
    rw [List.getD_eq_getElem?_getD, List.getElem?_eq_getElem (by omega)]
    exact List.getElem_mem _)
  have ems : ms = (List.range c).map fun i => ms.getD i 0 := by
    refine List.ext_getElem (by rw [List.length_map, List.length_range, h1]) fun i a b => ?_
    rw [List.getElem_map, List.getElem_range, List.getD_eq_getElem?_getD, List.getElem?_eq_getElem a]
    rfl
  have c2 := (lim_lower (W := W) (g := fun i => ms.getD i 0) hW hgm m (Nat.le_refl _) (2 * c - 2) (by
    have e := krf_UC c m (fun i => ms.getD i 0) hgm
    rw [← ems] at e
    obtain ⟨d, rfl⟩ : ∃ d, c = d + 1 := ⟨c - 1, by omega⟩
    have e1 : (2 * (d + 1) - 2) * 2 ^ m = 2 * (d * 2 ^ m) := by rw [show 2 * (d + 1) - 2 = 2 * d by omega, Nat.mul_assoc]
    have e3 : (d + 1) * 2 ^ m = d * 2 ^ m + 2 ^ m := by rw [Nat.add_mul, Nat.one_mul]
    rw [e3] at e
    rw [e1]
    omega)).2
  refine Int.le_trans c1 (Int.le_trans c2 (Int.le_of_eq ?_))
  have e4 : dotI W (eC m (fun i => ms.getD i 0) m) c = dotI W (fun i => ms.getD i 0) c := by
    rw [dotI_sum, dotI_sum]
    congr 1
    refine List.map_congr_left fun i hi => ?_
    unfold eC
    simp
  rw [e4, dotI_sum, List.range_eq_range', ← prod_range, ← List.range_eq_range', ← ems]
/-- no room is left -/
theorem LimF.whole {W : Nat → Int} {c m : Nat} {ls : List Nat} (hW : ∀ i, 0 < W i) (hc : 1 ≤ c) (h : LimF W c m ls) (hs : ls.Pairwise (· ≤ ·)) : krf m ls = 2 ^ m := by
  refine Nat.le_antisymm h.room (Nat.not_lt.mp fun z => ?_)
  rcases List.eq_nil_or_concat ls with e | ⟨p, x, e⟩
  · rw [e] at h
    have := h.len
    simp at this
    omega
  rw [List.concat_eq_append] at e
  subst e
  have hx := h.low x (List.mem_append_right _ (List.mem_singleton.mpr rfl))
  have hall : ∀ y ∈ p ++ [x], y ≤ x := fun y hy => by
    rcases List.mem_append.mp hy with hy | hy
    · exact (List.pairwise_append.mp hs).2.2 y hy x (List.mem_singleton.mpr rfl)
    · rw [List.mem_singleton.mp hy]
      exact Nat.le_refl _
  have app : ∀ a b : List Nat, krf m (a ++ b) = krf m a + krf m b := fun a b => by
    unfold krf
    rw [List.map_append, List.sum_append]
  have one : ∀ y : Nat, krf m [y] = 2 ^ (m - y) := fun y => by
    unfold krf
    simp
  have pz : ∀ (a : List Nat) (i y : Nat), (prodZ W i (a ++ [y])).sum = (prodZ W i a).sum + W (i + a.length) * (y : Nat) := by
    intro a
    induction a with
    | nil => intro i y; simp [prodZ]
    | cons b a ih =>
      intro i y
      rw [List.cons_append, prod_cons, prod_cons, ih, List.length_cons, show i + 1 + a.length = i + (a.length + 1) by omega]
      omega
  by_cases x0 : x = 0
  · rw [app, one, x0] at z
    simp at z
    omega
  · obtain ⟨d, hd⟩ := krf_dvd (K := m) hall hx
    have hd2 : (2 : Nat) ^ m = 2 ^ (m - x) * 2 ^ x := by rw [← Nat.pow_add, show m - x + x = m by omega]
    rw [hd, hd2] at z
    have hlt : d < 2 ^ x := Nat.lt_of_mul_lt_mul_left z
    have hroom : krf m (p ++ [x]) + 2 ^ (m - x) ≤ 2 ^ m := by
      rw [hd, hd2]
      have := Nat.mul_le_mul_left (2 ^ (m - x)) hlt
      rw [Nat.mul_succ] at this
      exact this
    have := h.least (p ++ [x - 1]) (by have := h.len; simpa using this) (fun l hl => by
      rcases List.mem_append.mp hl with hl | hl
      · exact h.low l (List.mem_append_left _ hl)
      · rw [List.mem_singleton.mp hl]
        omega) (by
      rw [app, one] at hroom ⊢
      rw [show m - (x - 1) = (m - x) + 1 by omega, Nat.pow_succ]
      omega)
    rw [pz, pz] at this
    have hw := hW (0 + p.length)
    rw [show ((x - 1 : Nat) : Int) = (x : Int) - 1 by omega, Int.mul_sub, Int.mul_one] at this
    omega
/-- the room within a limit, and within 60 -/
theorem krf_60 {m : Nat} (h : m ≤ 60) : ∀ {ls : List Nat}, (∀ l ∈ ls, l ≤ m) → krf 60 ls = 2 ^ (60 - m) * krf m ls
  | [], _ => by simp [krf]
  | l :: ls, hl => by
    have ih := krf_60 h (ls := ls) fun x hx => hl x (List.mem_cons_of_mem _ hx)
    have h1 := hl l List.mem_cons_self
    rw [krf_cons, krf_cons, ih, Nat.mul_add, ← Nat.pow_add, show 60 - m + (m - l) = 60 - l by omega]
end St
namespace St
open PySem PySem.Spec PyProof.Rows L2
/-! ### reading words -/
def onesN : List Bool → Nat
  | true :: r => onesN r + 1
  | _ => 0
/-- the number whose word begins a row of signs, and how long it is -/
def rd (m : Nat) (l : List Bool) : Option (Nat × Nat) :=
  let k := onesN l
  let t := l.drop (k + 1)
  let c := wideN m
  let r := worth (t.take (c - 1))
  if l.length ≤ k then none else if t.length < c - 1 then none else
    if 0 < c ∧ shortN m ≤ r then (if t.length < c then none else some (k * m + (2 * r + (if t[c - 1]? = some true then 1 else 0) - shortN m), k + 1 + c))
    else some (k * m + r, k + 1 + (c - 1))
theorem ones_rep (k : Nat) (t : List Bool) : onesN (List.replicate k true ++ false :: t) = k := by
  induction k with
  | zero => rfl
  | succ k ih =>
    rw [List.replicate_succ, List.cons_append, onesN, ih]
theorem ones_split : ∀ (l : List Bool), onesN l < l.length → l = List.replicate (onesN l) true ++ false :: l.drop (onesN l + 1)
  | [], h => by cases h
  | false :: r, _ => rfl
  | true :: r, h => by
    have e : onesN (true :: r) = onesN r + 1 := rfl
    rw [e] at h ⊢
    have ih := ones_split r (by rw [List.length_cons] at h; omega)
    rw [List.replicate_succ, List.cons_append, List.drop_succ_cons]
    rw [← ih]
theorem fig_snoc (n k : Nat) : fig n (k + 1) = fig (n / 2) k ++ [n % 2 == 1] := by
  induction k with
  | zero => simp [fig]
  | succ k ih =>
    rw [fig, ih, fig, List.cons_append]
    rw [Nat.div_div_eq_div_mul, Nat.pow_succ, Nat.mul_comm 2]
theorem fig_worth (l : List Bool) : fig (worth l) l.length = l := by
  have low : ∀ (l : List Bool) (a : Nat), fig (a * 2 ^ l.length + worth l) l.length = l := by
    intro l
    induction l with
    | nil => intro a; rfl
    | cons b r ih =>
      intro a
      have hw := worth_lt r
      rw [List.length_cons, fig, worth]
      have e1 : a * 2 ^ (r.length + 1) + ((if b then 2 ^ r.length else 0) + worth r) = (2 * a + (if b then 1 else 0)) * 2 ^ r.length + worth r := by
        rw [Nat.pow_succ]
        cases b <;> simp <;> grind
      rw [e1, ih]
      congr 1
      rw [Nat.add_comm, Nat.add_mul_div_right _ _ (Nat.pow_pos (by decide)), Nat.div_eq_of_lt hw]
      cases b <;> simp <;> omega
  have := low l 0
  rw [Nat.zero_mul, Nat.zero_add] at this
  exact this
theorem worth_snoc (l : List Bool) (b : Bool) : worth (l ++ [b]) = 2 * worth l + (if b then 1 else 0) := by
  induction l with
  | nil => cases b <;> rfl
  | cons a r ih =>
    rw [List.cons_append, worth, ih, worth, List.length_append, List.length_singleton, Nat.pow_succ]
    cases a <;> simp <;> omega
theorem pow_half {c : Nat} (h : 1 ≤ c) : 2 ^ c = 2 * 2 ^ (c - 1) := by
  obtain ⟨d, rfl⟩ : ∃ d, c = d + 1 := ⟨c - 1, by omega⟩
  rw [Nat.add_sub_cancel, Nat.pow_succ']
theorem short_half {m : Nat} (h : 1 ≤ wideN m) : shortN m < 2 ^ (wideN m - 1) := by
  have := wideN_lt m (wideN m - 1) (by omega)
  have e := pow_half h
  have hp : 0 < 2 ^ (wideN m - 1) := Nat.pow_pos (by decide)
  unfold shortN
  omega
theorem short_add {m : Nat} : shortN m + m = 2 ^ wideN m := by
  have := wide_le m
  unfold shortN
  omega
theorem rd_word (m : Nat) (hm : 1 ≤ m) (n : Nat) (post : List Bool) : rd m (wordB m n ++ post) = some (n, (wordB m n).length) := by
  have hk : onesN (wordB m n ++ post) = n / m := by
    unfold wordB
    rw [List.append_assoc, List.cons_append, ones_rep]
  have ht : (wordB m n ++ post).drop (n / m + 1) = restB m (n % m) ++ post := by
    have e : wordB m n ++ post = (List.replicate (n / m) true ++ [false]) ++ (restB m (n % m) ++ post) := by
      unfold wordB
      simp [List.append_assoc]
    rw [e]
    exact List.drop_left' (by simp)
  have hr : n % m < m := Nat.mod_lt _ hm
  have hsa := @short_add m
  have hlen : (wordB m n).length = n / m + 1 + (restB m (n % m)).length := word_len m n
  have hn : n / m * m + n % m = n := Nat.div_add_mod' n m
  unfold rd
  simp only [hk, ht]
  rw [if_neg (by rw [List.length_append, hlen]; omega)]
  by_cases c : n % m < shortN m
  · have w1 : 1 ≤ wideN m := by
      refine Nat.not_lt.mp fun z => ?_
      have e := short_zero (show wideN m = 0 by omega) hm
      subst e
      have : shortN 1 = 0 := by decide
      omega
    have hh := short_half w1
    have er : restB m (n % m) = fig (n % m) (wideN m - 1) := if_pos c
    have el : (restB m (n % m)).length = wideN m - 1 := by rw [er, fig_len]
    have et : (restB m (n % m) ++ post).take (wideN m - 1) = fig (n % m) (wideN m - 1) := by
      rw [List.take_append_of_le_length (by omega), ← el, List.take_length, er, fig_len]
    rw [if_neg (by rw [List.length_append]; omega), et, worth_fig, Nat.mod_eq_of_lt (by omega), if_neg (by omega), hlen, el, hn]
  · have er : restB m (n % m) = fig (n % m + shortN m) (wideN m) := if_neg c
    have el : (restB m (n % m)).length = wideN m := by rw [er, fig_len]
    by_cases w0 : wideN m = 0
    · have e := short_zero w0 hm
      subst e
      rw [if_neg (by rw [List.length_append, w0]; omega), if_neg (by omega), hlen, el, w0]
      simp [worth] at hn ⊢
    · obtain ⟨d, hd⟩ : ∃ d, wideN m = d + 1 := ⟨wideN m - 1, by omega⟩
      have ef : fig (n % m + shortN m) (wideN m) = fig ((n % m + shortN m) / 2) d ++ [(n % m + shortN m) % 2 == 1] := by rw [hd, fig_snoc]
      have et : (restB m (n % m) ++ post).take (wideN m - 1) = fig ((n % m + shortN m) / 2) d := by
        rw [er, ef, hd, List.append_assoc, Nat.add_sub_cancel]
        rw [List.take_append_of_le_length (by rw [fig_len]; exact Nat.le_refl _), List.take_of_length_le (by rw [fig_len]; exact Nat.le_refl _)]
      have eg : (restB m (n % m) ++ post)[wideN m - 1]? = some ((n % m + shortN m) % 2 == 1) := by
        rw [er, ef, hd, List.append_assoc, Nat.add_sub_cancel]
        rw [List.getElem?_append_right (by rw [fig_len]; exact Nat.le_refl _), fig_len, Nat.sub_self]
        rfl
      have hlt : (n % m + shortN m) / 2 < 2 ^ d := by
        have : 2 ^ wideN m = 2 * 2 ^ d := by rw [hd, Nat.pow_succ']
        omega
      rw [if_neg (by rw [List.length_append]; omega), et, worth_fig, Nat.mod_eq_of_lt hlt, if_pos ⟨by omega, by omega⟩, if_neg (by rw [List.length_append]; omega), eg, hlen, el]
      congr 2
      have hb : (if some ((n % m + shortN m) % 2 == 1) = some true then 1 else 0) = (n % m + shortN m) % 2 := by
        rcases Nat.mod_two_eq_zero_or_one (n % m + shortN m) with h | h <;> rw [h] <;> rfl
      rw [hb]
      omega
theorem rd_some (m : Nat) (hm : 1 ≤ m) (l : List Bool) (n e : Nat) (h : rd m l = some (n, e)) : ∃ post, l = wordB m n ++ post ∧ e = (wordB m n).length := by
  unfold rd at h
  simp only at h
  have hsa := @short_add m
  by_cases h1 : l.length ≤ onesN l
  · rw [if_pos h1] at h
    cases h
  rw [if_neg h1] at h
  have hl := ones_split l (by omega)
  generalize onesN l = k at *
  generalize l.drop (k + 1) = t at *
  subst hl
  by_cases h2 : t.length < wideN m - 1
  · rw [if_pos h2] at h
    cases h
  rw [if_neg h2] at h
  have tl : (t.take (wideN m - 1)).length = wideN m - 1 := by
    rw [List.length_take]
    omega
  have wl := worth_lt (t.take (wideN m - 1))
  rw [tl] at wl
  have fw := fig_worth (t.take (wideN m - 1))
  rw [tl] at fw
  by_cases h3 : 0 < wideN m ∧ shortN m ≤ worth (t.take (wideN m - 1))
  · rw [if_pos h3] at h
    by_cases h4 : t.length < wideN m
    · rw [if_pos h4] at h
      cases h
    rw [if_neg h4] at h
    obtain ⟨b, hb⟩ : ∃ b, t[wideN m - 1]? = some b := ⟨_, List.getElem?_eq_getElem (by omega)⟩
    rw [hb] at h
    have e2 := pow_half (c := wideN m) (by omega)
    generalize hbv : (if some b = some true then 1 else 0) = bv at h
    have hbv2 : bv ≤ 1 := by
      rw [← hbv]
      split <;> omega
    obtain ⟨rfl, rfl⟩ : k * m + (2 * worth (t.take (wideN m - 1)) + bv - shortN m) = n ∧ k + 1 + wideN m = e := by
      have := Option.some.inj h
      exact ⟨congrArg (·.1) this, congrArg (·.2) this⟩
    have r0 : 2 * worth (t.take (wideN m - 1)) + bv - shortN m < m := by omega
    have d1 : (k * m + (2 * worth (t.take (wideN m - 1)) + bv - shortN m)) / m = k := by
      rw [Nat.add_comm, Nat.add_mul_div_right _ _ (by omega), Nat.div_eq_of_lt r0, Nat.zero_add]
    have d2 : (k * m + (2 * worth (t.take (wideN m - 1)) + bv - shortN m)) % m = 2 * worth (t.take (wideN m - 1)) + bv - shortN m := by
      rw [Nat.add_comm, Nat.add_mul_mod_self_right, Nat.mod_eq_of_lt r0]
    have et : t.take (wideN m) = t.take (wideN m - 1) ++ [b] := by
      have := take_more hb
      rw [show wideN m - 1 + 1 = wideN m by omega] at this
      exact this
    have er : restB m (2 * worth (t.take (wideN m - 1)) + bv - shortN m) = t.take (wideN m) := by
      unfold restB
      rw [if_neg (by omega), show 2 * worth (t.take (wideN m - 1)) + bv - shortN m + shortN m = 2 * worth (t.take (wideN m - 1)) + bv by omega]
      have hw := worth_snoc (t.take (wideN m - 1)) b
      have hw2 : worth (t.take (wideN m)) = 2 * worth (t.take (wideN m - 1)) + bv := by
        rw [et, hw, ← hbv]
        cases b <;> rfl
      rw [← hw2]
      have := fig_worth (t.take (wideN m))
      rw [List.length_take, Nat.min_eq_left (by omega)] at this
      exact this
    refine ⟨t.drop (wideN m), ?_, ?_⟩
    · unfold wordB
      rw [d1, d2, er, List.append_assoc, List.cons_append, List.take_append_drop]
    · rw [word_len, d1, d2, er, List.length_take]
      omega
  · rw [if_neg h3] at h
    obtain ⟨rfl, rfl⟩ : k * m + worth (t.take (wideN m - 1)) = n ∧ k + 1 + (wideN m - 1) = e := by
      have := Option.some.inj h
      exact ⟨congrArg (·.1) this, congrArg (·.2) this⟩
    have r0 : worth (t.take (wideN m - 1)) < m := by
      by_cases w0 : wideN m = 0
      · rw [w0] at wl
        simp at wl
        rw [w0]
        simp [worth]
        omega
      · have := short_lt hm
        have : worth (t.take (wideN m - 1)) < shortN m := Nat.not_le.mp fun z => h3 ⟨by omega, z⟩
        omega
    have d1 : (k * m + worth (t.take (wideN m - 1))) / m = k := by
      rw [Nat.add_comm, Nat.add_mul_div_right _ _ (by omega), Nat.div_eq_of_lt r0, Nat.zero_add]
    have d2 : (k * m + worth (t.take (wideN m - 1))) % m = worth (t.take (wideN m - 1)) := by
      rw [Nat.add_comm, Nat.add_mul_mod_self_right, Nat.mod_eq_of_lt r0]
    have er : restB m (worth (t.take (wideN m - 1))) = t.take (wideN m - 1) := by
      unfold restB
      by_cases w0 : wideN m = 0
      · rw [if_neg (by have := short_zero w0 hm; subst this; have : shortN 1 = 0 := by decide
                       omega), w0]
        simp [fig]
      · have : worth (t.take (wideN m - 1)) < shortN m := Nat.not_le.mp fun z => h3 ⟨by omega, z⟩
        rw [if_pos this]
        exact fw
    refine ⟨t.drop (wideN m - 1), ?_, ?_⟩
    · unfold wordB
      rw [d1, d2, er, List.append_assoc, List.cons_append, List.take_append_drop]
    · rw [word_len, d1, d2, er, List.length_take]
      omega
theorem word_pre {m : Nat} (hm : 1 ≤ m) {a b : Nat} {p q : List Bool} (h : wordB m a ++ p = wordB m b ++ q) : a = b ∧ p = q := by
  have e1 := rd_word m hm a p
  have e2 := rd_word m hm b q
  rw [h, e2] at e1
  have e3 : b = a := congrArg (·.1) (Option.some.inj e1)
  subst e3
  exact ⟨rfl, List.append_cancel_left h⟩
theorem word_pos (m n : Nat) : 1 ≤ (wordB m n).length := by
  rw [word_len]
  generalize n / m = k
  omega
theorem ones_at : ∀ (l : List Bool) (i : Nat), i ≤ onesN l → (l[i]? = some true ↔ i < onesN l)
  | [], i, h => by
    have e : onesN [] = 0 := rfl
    rw [e]
    simp
  | false :: r, i, h => by
    have e : onesN (false :: r) = 0 := rfl
    rw [e] at h ⊢
    have : i = 0 := by omega
    subst this
    simp
  | true :: r, 0, h => by
    have e : onesN (true :: r) = onesN r + 1 := rfl
    rw [e]
    simp
  | true :: r, i + 1, h => by
    have e : onesN (true :: r) = onesN r + 1 := rfl
    rw [e] at h ⊢
    have ih := ones_at r i (by omega)
    rw [List.getElem?_cons_succ, ih]
    omega
theorem ones_le (l : List Bool) : onesN l ≤ l.length := by
  induction l with
  | nil => exact Nat.le_refl _
  | cons b r ih =>
    cases b
    · exact Nat.zero_le _
    · show onesN r + 1 ≤ r.length + 1
      omega
def bitN (t : List Bool) (i : Nat) : Nat := if t[i]? = some true then 1 else 0
theorem bitN_le (t : List Bool) (i : Nat) : bitN t i ≤ 1 := by
  unfold bitN
  split <;> omega
/-- what the first figures tell, those that lack being 0 -/
def pvN (t : List Bool) : Nat → Nat
  | 0 => 0
  | i + 1 => 2 * pvN t i + bitN t i
theorem pvN_eq (t : List Bool) : ∀ i, i ≤ t.length → pvN t i = worth (t.take i)
  | 0, _ => by simp [pvN, worth]
  | i + 1, h => by
    have ih := pvN_eq t i (by omega)
    have e : t[i]? = some t[i] := List.getElem?_eq_getElem (by omega)
    rw [pvN, ih, take_more e, worth_snoc]
    unfold bitN
    rw [e]
    cases t[i] <;> rfl
theorem pvN_lt (t : List Bool) : ∀ i, pvN t i < 2 ^ i
  | 0 => Nat.one_pos
  | i + 1 => by
    have ih := pvN_lt t i
    have := bitN_le t i
    rw [pvN, Nat.pow_succ]
    omega
/-- the same with figures that may lack, as the program reckons -/
theorem rd_pv (m : Nat) (l : List Bool) : rd m l =
    (if l.length ≤ onesN l then none else
      if 0 < wideN m ∧ shortN m ≤ pvN (l.drop (onesN l + 1)) (wideN m - 1) then
        (if onesN l + 1 + (wideN m - 1) + 1 ≤ l.length then some (onesN l * m + (2 * pvN (l.drop (onesN l + 1)) (wideN m - 1) + bitN (l.drop (onesN l + 1)) (wideN m - 1) - shortN m), onesN l + 1 + (wideN m - 1) + 1) else none)
      else (if onesN l + 1 + (wideN m - 1) ≤ l.length then some (onesN l * m + pvN (l.drop (onesN l + 1)) (wideN m - 1), onesN l + 1 + (wideN m - 1)) else none)) := by
  unfold rd
  simp only
  by_cases h1 : l.length ≤ onesN l
  · rw [if_pos h1, if_pos h1]
  rw [if_neg h1, if_neg h1]
  have tl : (l.drop (onesN l + 1)).length = l.length - (onesN l + 1) := List.length_drop
  by_cases h2 : (l.drop (onesN l + 1)).length < wideN m - 1
  · rw [if_pos h2]
    split
    · rw [if_neg (by omega)]
    · rw [if_neg (by omega)]
  rw [if_neg h2, pvN_eq _ _ (by omega)]
  by_cases h3 : 0 < wideN m ∧ shortN m ≤ worth ((l.drop (onesN l + 1)).take (wideN m - 1))
  · rw [if_pos h3, if_pos h3]
    by_cases h4 : (l.drop (onesN l + 1)).length < wideN m
    · rw [if_pos h4, if_neg (by omega)]
    · rw [if_neg h4]
      unfold bitN
      rw [if_pos (show onesN l + 1 + (wideN m - 1) + 1 ≤ l.length by omega)]
      rw [show onesN l + 1 + wideN m = onesN l + 1 + (wideN m - 1) + 1 by omega]
  · rw [if_neg h3, if_neg h3, if_pos (by omega)]
/-- the number whose word begins at a place, and where it ends -/
def feN (m : Nat) (l : List Bool) (b : Nat) : Option (Nat × Nat) := (rd m (l.drop b)).map fun p => (p.1, b + p.2)
theorem rd_le {m : Nat} {l : List Bool} {n e : Nat} (hm : 1 ≤ m) (h : rd m l = some (n, e)) : 1 ≤ e ∧ e ≤ l.length := by
  obtain ⟨post, rfl, rfl⟩ := rd_some m hm l n e h
  exact ⟨word_pos m n, by rw [List.length_append]; omega⟩
/-- all words that stand one behind the other, and where each ends -/
def cutsF (m : Nat) : Nat → List Bool → Nat → List (Nat × Nat)
  | 0, _, _ => []
  | f + 1, l, b => match rd m l with
    | none => []
    | some (n, e) => (n, b + e) :: cutsF m f (l.drop e) (b + e)
def cuts (m : Nat) (l : List Bool) : List (Nat × Nat) := cutsF m (l.length + 1) l 0
theorem cutsF_none {m : Nat} {l : List Bool} (h : rd m l = none) (f b : Nat) : cutsF m f l b = [] := by
  cases f with
  | zero => rfl
  | succ f => rw [cutsF, h]
theorem cutsF_some {m : Nat} {l : List Bool} {n e : Nat} (h : rd m l = some (n, e)) (f b : Nat) : cutsF m (f + 1) l b = (n, b + e) :: cutsF m f (l.drop e) (b + e) := by
  rw [cutsF, h]
theorem cutsF_fuel {m : Nat} (hm : 1 ≤ m) : ∀ (f g : Nat) (l : List Bool) (b : Nat), l.length < f → l.length < g → cutsF m f l b = cutsF m g l b
  | 0, _, _, _, h, _ => by omega
  | _ + 1, 0, _, _, _, h => by omega
  | f + 1, g + 1, l, b, h1, h2 => by
    cases h : rd m l with
    | none => rw [cutsF_none h, cutsF_none h]
    | some p =>
      obtain ⟨n, e⟩ := p
      obtain ⟨e1, e2⟩ := rd_le hm h
      rw [cutsF_some h, cutsF_some h]
      rw [cutsF_fuel hm f g (l.drop e) (b + e) (by rw [List.length_drop]; omega) (by rw [List.length_drop]; omega)]
theorem rd_nil (m : Nat) : rd m [] = none := by
  unfold rd
  simp
theorem cuts_word {m : Nat} (hm : 1 ≤ m) (n : Nat) : cuts m (wordB m n) = [(n, (wordB m n).length)] := by
  have h := rd_word m hm n []
  rw [List.append_nil] at h
  unfold cuts
  rw [cutsF_some h, List.drop_length, cutsF_none (rd_nil m), Nat.zero_add]
/-! ### words of greater numbers are greater -/
def ltB (a b : List Bool) : Prop := ∃ c p q, a = c ++ false :: p ∧ b = c ++ true :: q
theorem worth_ltB : ∀ (a b : List Bool) (p q : List Bool), a.length = b.length → worth a < worth b → ltB (a ++ p) (b ++ q)
  | [], b, p, q, hl, h => by
    cases b with
    | nil => exact absurd h (by decide)
    | cons => cases hl
  | x :: a, [], p, q, hl, h => by cases hl
  | x :: a, y :: b, p, q, hl, h => by
    have hl' : a.length = b.length := by simpa using hl
    rw [worth, worth, hl'] at h
    have h1 := worth_lt a
    have h2 := worth_lt b
    rw [hl'] at h1
    cases x <;> cases y
    · obtain ⟨c, p', q', e1, e2⟩ := worth_ltB a b p q hl' (by simpa using h)
      exact ⟨false :: c, p', q', by rw [List.cons_append, e1]; rfl, by rw [List.cons_append, e2]; rfl⟩
    · exact ⟨[], a ++ p, b ++ q, rfl, rfl⟩
    · simp at h
      omega
    · obtain ⟨c, p', q', e1, e2⟩ := worth_ltB a b p q hl' (by simpa using h)
      exact ⟨true :: c, p', q', by rw [List.cons_append, e1]; rfl, by rw [List.cons_append, e2]; rfl⟩
theorem ltB_pre (c : List Bool) {a b : List Bool} (h : ltB a b) : ltB (c ++ a) (c ++ b) := by
  obtain ⟨d, p, q, rfl, rfl⟩ := h
  exact ⟨c ++ d, p, q, by rw [List.append_assoc], by rw [List.append_assoc]⟩
theorem rest_ltB {m r s : Nat} (hm : 1 ≤ m) (hs : s < m) (h : r < s) : ltB (restB m r) (restB m s) := by
  have hsa := @short_add m
  unfold restB
  by_cases c1 : s < shortN m
  · have w1 : 1 ≤ wideN m := by
      refine Nat.not_lt.mp fun z => ?_
      have e := short_zero (show wideN m = 0 by omega) hm
      subst e
      have : shortN 1 = 0 := by decide
      omega
    have hh := short_half w1
    rw [if_pos (by omega), if_pos c1]
    have := worth_ltB (fig r (wideN m - 1)) (fig s (wideN m - 1)) [] [] (by rw [fig_len, fig_len]) (by rw [worth_fig, worth_fig, Nat.mod_eq_of_lt (by omega), Nat.mod_eq_of_lt (by omega)]; exact h)
    simpa using this
  · rw [if_neg c1]
    by_cases c2 : r < shortN m
    · rw [if_pos c2]
      have w1 : 1 ≤ wideN m := by
        refine Nat.not_lt.mp fun z => ?_
        have e := short_zero (show wideN m = 0 by omega) hm
        subst e
        have : shortN 1 = 0 := by decide
        omega
      have hh := short_half w1
      have ph := pow_half w1
      obtain ⟨d, hd⟩ : ∃ d, wideN m = d + 1 := ⟨wideN m - 1, by omega⟩
      rw [hd, fig_snoc, Nat.add_sub_cancel]
      rw [hd, Nat.add_sub_cancel] at hh ph
      have := worth_ltB (fig r d) (fig ((s + shortN m) / 2) d) [] [(s + shortN m) % 2 == 1] (by rw [fig_len, fig_len]) (by
        rw [worth_fig, worth_fig, Nat.mod_eq_of_lt (by omega), Nat.mod_eq_of_lt (by rw [hd] at hsa; omega)]
        omega)
      simpa using this
    · rw [if_neg c2]
      have := worth_ltB (fig (r + shortN m) (wideN m)) (fig (s + shortN m) (wideN m)) [] [] (by rw [fig_len, fig_len]) (by rw [worth_fig, worth_fig, Nat.mod_eq_of_lt (by omega), Nat.mod_eq_of_lt (by omega)]; omega)
      simpa using this
theorem word_ltB {m a b : Nat} (hm : 1 ≤ m) (h : a < b) : ltB (wordB m a) (wordB m b) := by
  have ha := Nat.div_add_mod' a m
  have hb := Nat.div_add_mod' b m
  have ra := Nat.mod_lt a (show m > 0 by omega)
  have rb := Nat.mod_lt b (show m > 0 by omega)
  have hle : a / m ≤ b / m := Nat.div_le_div_right (by omega)
  unfold wordB
  by_cases c : a / m = b / m
  · rw [c]
    refine ltB_pre _ ?_
    have := ltB_pre [false] (rest_ltB (m := m) (r := a % m) (s := b % m) hm rb (by rw [c] at ha; omega))
    simpa using this
  · obtain ⟨d, hd⟩ : ∃ d, b / m = a / m + (d + 1) := ⟨b / m - a / m - 1, by omega⟩
    rw [hd, ← List.replicate_append_replicate, List.append_assoc]
    refine ltB_pre _ ⟨[], restB m (a % m), List.replicate d true ++ false :: restB m (b % m), rfl, ?_⟩
    rw [List.replicate_succ]
    rfl
theorem ltB_codes {a b : List Bool} (h : ltB a b) : a.map sg < b.map sg := by
  obtain ⟨c, p, q, rfl, rfl⟩ := h
  rw [List.map_append, List.map_append]
  induction c with
  | nil =>
    show (48 :: p.map sg : List Nat) < 49 :: q.map sg
    exact List.Lex.rel (by decide)
  | cons x c ih => exact List.Lex.cons ih
theorem codes_irrefl (a : List Nat) : ¬ a < a := List.lt_irrefl a
theorem ltB_not {a b : List Bool} (h : ltB a b) : ¬ b.map sg < a.map sg := fun z => List.lt_irrefl _ (List.lt_trans (ltB_codes h) z)
/-- where the last word ends -/
def endOf (r : List (Nat × Nat)) : Nat := (r.getLast?.map (·.2)).getD 0
theorem endOf_snoc (r : List (Nat × Nat)) (x : Nat × Nat) : endOf (r ++ [x]) = x.2 := by
  unfold endOf
  rw [List.getLast?_concat]
  rfl
/-- vs are tuples of these pairs -/
structure PrAt (H : Hp) (vs : List V) (r : List (Nat × Nat)) : Prop where
  len : vs.length = r.length
  at_ : ∀ (i : Nat) (x : Nat × Nat), r[i]? = some x → ∃ t, vs[i]? = some (.ref t) ∧ H t = some (.tup [.int (x.1 : Nat), .int (x.2 : Nat)])
theorem PrAt.same {H H' : Hp} {vs : List V} {r : List (Nat × Nat)} (h : PrAt H vs r) (s : Same H H') : PrAt H' vs r := ⟨h.len, fun i x e => by
  obtain ⟨t, a, b⟩ := h.at_ i x e
  exact ⟨t, a, s _ _ b⟩⟩
theorem PrAt.snoc {H : Hp} {vs : List V} {r : List (Nat × Nat)} {t : Addr} {n e : Nat} (h : PrAt H vs r) (ht : H t = some (.tup [.int (n : Nat), .int (e : Nat)])) : PrAt H (vs ++ [.ref t]) (r ++ [(n, e)]) := by
  refine ⟨by rw [List.length_append, List.length_append, h.len]; rfl, fun i x hx => ?_⟩
  by_cases hi : i < r.length
  · rw [List.getElem?_append_left hi] at hx
    obtain ⟨t', a, b⟩ := h.at_ i x hx
    exact ⟨t', by rw [List.getElem?_append_left (by rw [h.len]; exact hi)]; exact a, b⟩
  · have hi2 : i < (r ++ [(n, e)]).length := (List.getElem?_eq_some_iff.mp hx).1
    rw [List.length_append, List.length_singleton] at hi2
    have : i = r.length := by omega
    subst this
    rw [List.getElem?_append_right (Nat.le_refl _), Nat.sub_self] at hx
    cases Option.some.inj hx
    exact ⟨t, by rw [← h.len, List.getElem?_append_right (Nat.le_refl _), Nat.sub_self]; rfl, ht⟩
def prD (r : List (Nat × Nat)) : List PyData := r.map fun p => .tuple [.int (p.1 : Nat), .int (p.2 : Nat)]
theorem PrAt.dpAll {K : PySem.W.Frag} {H : Hp} : ∀ {vs : List V} {r : List (Nat × Nat)}, PrAt H vs r → DpAll K H vs (prD r)
  | [], [], _ => .nil
  | [], _ :: _, h => by have := h.len; cases this
  | _ :: _, [], h => by have := h.len; cases this
  | v :: vs, x :: r, h => by
    obtain ⟨t, a, b⟩ := h.at_ 0 x rfl
    cases Option.some.inj a
    have h' : PrAt H vs r := ⟨by have := h.len; simpa using this, fun i y e => h.at_ (i + 1) y e⟩
    exact .cons (.tup (.inl (.inl b)) (.cons (.int _) (.cons (.int _) .nil))) (PrAt.dpAll h')
theorem prD_ok (r : List (Nat × Nat)) : OkN 2 (.list (prD r)) := by
  intro d hd
  obtain ⟨p, _, rfl⟩ := List.mem_map.mp hd
  intro d hd
  simp only [List.mem_cons, List.not_mem_nil, or_false] at hd
  rcases hd with rfl | rfl <;> trivial
theorem rd_bound {m : Nat} (hm : 1 ≤ m) {l : List Bool} {b n e : Nat} (hb : b ≤ l.length) (h : feN m l b = some (n, e)) : b < e ∧ e ≤ l.length ∧ ∃ d, rd m (l.drop b) = some (n, d) ∧ e = b + d := by
  unfold feN at h
  cases h2 : rd m (l.drop b) with
  | none => rw [h2] at h; cases h
  | some p =>
    obtain ⟨n', d⟩ := p
    rw [h2] at h
    obtain ⟨rfl, rfl⟩ : n' = n ∧ b + d = e := by
      have := Option.some.inj h
      exact ⟨congrArg (·.1) this, congrArg (·.2) this⟩
    have := rd_le hm h2
    rw [List.length_drop] at this
    exact ⟨by omega, by omega, d, rfl, rfl⟩
theorem fe_none {m : Nat} {l : List Bool} {b : Nat} (h : feN m l b = none) : rd m (l.drop b) = none := by
  unfold feN at h
  cases h2 : rd m (l.drop b) with
  | none => rfl
  | some p => rw [h2] at h; cases h
theorem cuts_step {m : Nat} (hm : 1 ≤ m) {l : List Bool} {b n e : Nat} (hb : b ≤ l.length) (h : feN m l b = some (n, e)) :
    cutsF m ((l.drop b).length + 1) (l.drop b) b = (n, e) :: cutsF m ((l.drop e).length + 1) (l.drop e) e := by
  obtain ⟨h1, h2, d, h3, rfl⟩ := rd_bound hm hb h
  rw [cutsF_some h3, List.drop_drop]
  rw [cutsF_fuel hm (l.drop b).length ((l.drop (b + d)).length + 1) (l.drop (b + d)) (b + d) (by rw [List.length_drop, List.length_drop]; omega) (by omega)]
theorem cutsF_len {m : Nat} (hm : 1 ≤ m) : ∀ (f : Nat) (l : List Bool) (b : Nat), (cutsF m f l b).length ≤ l.length
  | 0, _, _ => Nat.zero_le _
  | f + 1, l, b => by
    cases h : rd m l with
    | none => rw [cutsF_none h]; exact Nat.zero_le _
    | some p =>
      obtain ⟨n, e⟩ := p
      obtain ⟨e1, e2⟩ := rd_le hm h
      have := cutsF_len hm f (l.drop e) (b + e)
      rw [cutsF_some h, List.length_cons]
      rw [List.length_drop] at this
      omega
theorem cuts_len {m : Nat} (hm : 1 ≤ m) (l : List Bool) : (cuts m l).length ≤ l.length := cutsF_len hm _ l 0
end St
namespace St
open PySem PySem.Spec PyProof.Rows L2
/-! ### readers within words: their standings, sign by sign -/
abbrev St3 := Nat × Nat × Nat
/-- the standing behind a sign -/
def nxS (m : Nat) (t : Nat × Nat × Nat) (b : Bool) : Nat × Nat × Nat :=
  if t.1 < 2 ∧ b = true then (1, 0, 0) else if wideN m = 0 then (0, 0, 0) else
    if (if t.1 = 2 then t.2.2 + 1 else t.2.2) = wideN m ∨ ((if t.1 = 2 then t.2.2 + 1 else t.2.2) = wideN m - 1 ∧ (if t.1 = 2 then 2 * t.2.1 + b.toNat else t.2.1) < shortN m) then (0, 0, 0)
    else (2, (if t.1 = 2 then 2 * t.2.1 + b.toNat else t.2.1), (if t.1 = 2 then t.2.2 + 1 else t.2.2))
abbrev AtE : St3 := (0, 0, 0)
def run (m : Nat) (t : St3) (l : List Bool) : St3 := l.foldl (nxS m) t
theorem run_app (m : Nat) (t : St3) (a b : List Bool) : run m t (a ++ b) = run m (run m t a) b := List.foldl_append
theorem nx_le2 (m : Nat) (t : St3) (b : Bool) : (nxS m t b).1 ≤ 2 := by
  unfold nxS
  repeat' split
  all_goals simp
theorem snocL {α : Type} (l : List α) : l = [] ∨ ∃ p b, l = p ++ [b] := by
  rcases List.eq_nil_or_concat l with h | ⟨p, b, h⟩
  · exact .inl h
  · exact .inr ⟨p, b, by rw [h, List.concat_eq_append]⟩
theorem run_le2 (m : Nat) (l : List Bool) : (run m AtE l).1 ≤ 2 := by
  rcases snocL l with rfl | ⟨p, b, rfl⟩
  · exact Nat.zero_le _
  · rw [run_app]
    exact nx_le2 ..
theorem run_ones (m k : Nat) : run m AtE (List.replicate (k + 1) true) = (1, 0, 0) := by
  induction k with
  | zero => rfl
  | succ k ih =>
    rw [List.replicate_succ', run_app, ih]
    rfl
theorem short_one {m : Nat} (h : wideN m = 1) : shortN m = 0 := by
  have h1 := wideN_lt m 0 (by omega)
  unfold shortN
  rw [h]
  omega
theorem nx_zero {m : Nat} {t : St3} (ht : t.1 < 2) (h2 : t.2 = (0, 0)) : nxS m t false = if wideN m = 0 then AtE else (2, 0, 0) := by
  obtain ⟨a, b, c⟩ := t
  cases h2
  unfold nxS
  have h2 : ¬ (a = 2) := by have : a < 2 := ht; omega
  simp only [Bool.false_eq_true, and_false, if_false, h2]
  by_cases c0 : wideN m = 0
  · rw [if_pos c0, if_pos c0]
  · rw [if_neg c0, if_neg c0, if_neg]
    rintro (z | ⟨z1, z2⟩)
    · omega
    · rw [short_one (by omega)] at z2
      omega
theorem run_zero (m k : Nat) : run m AtE (List.replicate k true ++ [false]) = if wideN m = 0 then AtE else (2, 0, 0) := by
  rw [run_app]
  cases k with
  | zero => exact nx_zero (t := (0, 0, 0)) (by decide) rfl
  | succ k =>
    rw [run_ones]
    exact nx_zero (t := (1, 0, 0)) (by decide) rfl
theorem nx_bits {m r f : Nat} (hc : 1 ≤ wideN m) (b : Bool) : nxS m (2, r, f) b = if f + 1 = wideN m ∨ (f + 1 = wideN m - 1 ∧ 2 * r + b.toNat < shortN m) then AtE else (2, 2 * r + b.toNat, f + 1) := by
  unfold nxS
  rw [if_neg (by intro z; have := z.1; omega), if_neg (by omega)]
  rfl
theorem worth_snoc' (l : List Bool) (b : Bool) : worth (l ++ [b]) = 2 * worth l + b.toNat := by
  rw [worth_snoc]
  cases b <;> rfl
theorem run_bits {m : Nat} (hc : 1 ≤ wideN m) : ∀ (n : Nat) (p : List Bool), p.length = n → n ≤ wideN m - 1 → (n < wideN m - 1 ∨ shortN m ≤ worth p) → run m (2, 0, 0) p = (2, worth p, n)
  | 0, p, h, _, _ => by
    cases List.length_eq_zero_iff.mp h
    rfl
  | n + 1, p, h, h1, h2 => by
    rcases snocL p with rfl | ⟨q, b, rfl⟩
    · cases h
    rw [List.length_append, List.length_singleton] at h
    rw [run_app, run_bits hc n q (by omega) (by omega) (.inl (by omega))]
    show nxS m (2, worth q, n) b = _
    rw [nx_bits hc, ← worth_snoc', if_neg]
    rintro (z | ⟨z1, z2⟩) <;> omega
theorem run_end1 {m : Nat} (hm : 1 ≤ wideN m) {p : List Bool} (h : p.length = wideN m - 1) (h2 : worth p < shortN m) : run m (2, 0, 0) p = AtE := by
  rcases snocL p with rfl | ⟨q, b, rfl⟩
  · have : wideN m = 1 := by simp at h; omega
    rw [short_one this] at h2
    omega
  rw [List.length_append, List.length_singleton] at h
  rw [run_app, run_bits hm q.length q rfl (by omega) (.inl (by omega))]
  show nxS m (2, worth q, q.length) b = _
  rw [nx_bits hm, ← worth_snoc', if_pos (.inr ⟨h, h2⟩)]
theorem run_end2 {m : Nat} (hm : 1 ≤ wideN m) {p : List Bool} (h : p.length = wideN m) (h2 : shortN m ≤ worth (p.take (wideN m - 1))) : run m (2, 0, 0) p = AtE := by
  rcases snocL p with rfl | ⟨q, b, rfl⟩
  · simp at h; omega
  rw [List.length_append, List.length_singleton] at h
  rw [List.take_left' (by omega)] at h2
  rw [run_app, run_bits hm q.length q rfl (by omega) (.inr h2)]
  show nxS m (2, worth q, q.length) b = _
  rw [nx_bits hm, if_pos (.inl (by omega))]
/-- where a reader stands in its first word -/
theorem run_take {m : Nat} {l : List Bool} {i : Nat} (h : onesN l < i) (hi : i ≤ l.length) : run m AtE (l.take i) = if wideN m = 0 then run m AtE ((l.drop (onesN l + 1)).take (i - (onesN l + 1))) else run m (2, 0, 0) ((l.drop (onesN l + 1)).take (i - (onesN l + 1))) := by
  have e : l.take i = (List.replicate (onesN l) true ++ [false]) ++ (l.drop (onesN l + 1)).take (i - (onesN l + 1)) := by
    have hs := ones_split l (by omega)
    have e1 : (List.replicate (onesN l) true ++ [false]).length = onesN l + 1 := by simp
    have e2 : l = (List.replicate (onesN l) true ++ [false]) ++ l.drop (onesN l + 1) := by
      rw [List.append_assoc]
      exact hs
    have e3 : l.take i = ((List.replicate (onesN l) true ++ [false]) ++ l.drop (onesN l + 1)).take i := by rw [← e2]
    rw [e3, List.take_append, e1, List.take_of_length_le (by rw [e1]; omega)]
  rw [e, run_app, run_zero]
  split <;> rfl
theorem run_take_ones {m : Nat} {l : List Bool} {i : Nat} (h : i ≤ onesN l) (hi : 0 < i) : run m AtE (l.take i) ≠ AtE := by
  have ho : ∀ (l : List Bool) (i : Nat), i ≤ onesN l → l.take i = List.replicate i true := by
    intro l
    induction l with
    | nil => intro i h; cases Nat.le_zero.mp h; rfl
    | cons b r ih =>
      intro i h
      cases i with
      | zero => rfl
      | succ i =>
        cases b
        · exact absurd h (by show ¬ i + 1 ≤ 0; omega)
        · rw [List.take_succ_cons, List.replicate_succ, ih i (by have : i + 1 ≤ onesN r + 1 := h; omega)]
  obtain ⟨j, rfl⟩ : ∃ j, i = j + 1 := ⟨i - 1, by omega⟩
  rw [ho l _ h, run_ones]
  decide
theorem two_ne (a b : Nat) : ((2, a, b) : St3) ≠ AtE := fun z => by cases z
/-- a word is read: the reader is at an end just behind it -/
theorem run_rd {m : Nat} (hm : 1 ≤ m) (l : List Bool) : (∀ n e, rd m l = some (n, e) → run m AtE (l.take e) = AtE ∧ ∀ i, 0 < i → i < e → run m AtE (l.take i) ≠ AtE) ∧ (rd m l = none → ∀ i, 0 < i → i ≤ l.length → run m AtE (l.take i) ≠ AtE) := by
  have bits : ∀ p : List Bool, 1 ≤ wideN m → p.length ≤ wideN m - 1 → (p.length < wideN m - 1 ∨ shortN m ≤ worth p) → run m (2, 0, 0) p ≠ AtE := fun p h1 h2 h3 => by
    rw [run_bits h1 p.length p rfl h2 h3]
    exact two_ne _ _
  have tl : (l.drop (onesN l + 1)).length = l.length - (onesN l + 1) := List.length_drop
  have key : rd m l = if l.length ≤ onesN l then none else if (l.drop (onesN l + 1)).length < wideN m - 1 then none else
    if 0 < wideN m ∧ shortN m ≤ worth ((l.drop (onesN l + 1)).take (wideN m - 1)) then (if (l.drop (onesN l + 1)).length < wideN m then none else some (onesN l * m + (2 * worth ((l.drop (onesN l + 1)).take (wideN m - 1)) + (if (l.drop (onesN l + 1))[wideN m - 1]? = some true then 1 else 0) - shortN m), onesN l + 1 + wideN m))
    else some (onesN l * m + worth ((l.drop (onesN l + 1)).take (wideN m - 1)), onesN l + 1 + (wideN m - 1)) := rfl
  rw [key]
  clear key
  obtain ⟨k, hk⟩ : ∃ k, onesN l = k := ⟨_, rfl⟩
  have ones : ∀ i, i ≤ k → 0 < i → run m AtE (l.take i) ≠ AtE := fun i h h0 => run_take_ones (by omega) h0
  have rt : ∀ i, k < i → i ≤ l.length → run m AtE (l.take i) = if wideN m = 0 then run m AtE ((l.drop (k + 1)).take (i - (k + 1))) else run m (2, 0, 0) ((l.drop (k + 1)).take (i - (k + 1))) := fun i h1 h2 => by
    rw [← hk] at h1 ⊢
    exact run_take h1 h2
  rw [hk] at tl ⊢
  clear hk
  generalize l.drop (k + 1) = t at tl rt ⊢
  have lt : ∀ i, (t.take i).length = min i t.length := fun i => List.length_take
  by_cases h1 : l.length ≤ k
  · rw [if_pos h1]
    exact ⟨fun n e z => (by cases z), fun _ i a b => ones i (by omega) a⟩
  rw [if_neg h1]
  by_cases h2 : t.length < wideN m - 1
  · rw [if_pos h2]
    refine ⟨fun n e z => (by cases z), fun _ i a b => ?_⟩
    by_cases hi : i ≤ k
    · exact ones i hi a
    rw [rt i (by omega) b, if_neg (by omega)]
    have := lt (i - (k + 1))
    exact bits _ (by omega) (by omega) (.inl (by omega))
  rw [if_neg h2]
  by_cases h3 : 0 < wideN m ∧ shortN m ≤ worth (t.take (wideN m - 1))
  · rw [if_pos h3]
    have lower : ∀ i, 0 < i → i ≤ k + 1 + (wideN m - 1) → i ≤ l.length → run m AtE (l.take i) ≠ AtE := fun i a b c => by
      by_cases hi : i ≤ k
      · exact ones i hi a
      rw [rt i (by omega) c, if_neg (by omega)]
      have := lt (i - (k + 1))
      refine bits _ (by omega) (by omega) ?_
      by_cases e : i - (k + 1) = wideN m - 1
      · rw [e]
        exact .inr h3.2
      · exact .inl (by omega)
    by_cases h4 : t.length < wideN m
    · rw [if_pos h4]
      exact ⟨fun n e z => (by cases z), fun _ i a b => lower i a (by omega) b⟩
    · rw [if_neg h4]
      refine ⟨fun n e z => ?_, fun z => by cases z⟩
      have he : e = k + 1 + wideN m := ((Prod.mk.inj (Option.some.inj z)).2).symm
      subst he
      refine ⟨?_, fun i a b => lower i a (by omega) (by omega)⟩
      rw [rt _ (by omega) (by omega), if_neg (by omega), Nat.add_sub_cancel_left]
      refine run_end2 h3.1 (by rw [lt]; omega) ?_
      rw [List.take_take, Nat.min_eq_left (by omega)]
      exact h3.2
  · rw [if_neg h3]
    refine ⟨fun n e z => ?_, fun z => by cases z⟩
    have he : e = k + 1 + (wideN m - 1) := ((Prod.mk.inj (Option.some.inj z)).2).symm
    subst he
    refine ⟨?_, fun i a b => ?_⟩
    · rw [rt _ (by omega) (by omega), Nat.add_sub_cancel_left]
      by_cases c0 : wideN m = 0
      · rw [if_pos c0, c0]
        rfl
      · rw [if_neg c0]
        exact run_end1 (by omega) (by rw [lt]; omega) (by omega)
    · by_cases hi : i ≤ k
      · exact ones i hi a
      rw [rt i (by omega) (by omega), if_neg (by omega)]
      have := lt (i - (k + 1))
      exact bits _ (by omega) (by omega) (.inl (by omega))
/-! ### the ends of a text are the places where the reader is at an end -/
theorem mem_ends {m : Nat} (hm : 1 ≤ m) : ∀ (f : Nat) (l : List Bool) (b e : Nat), l.length < f → (e ∈ (cutsF m f l b).map (fun x => x.2) ↔ b < e ∧ e ≤ b + l.length ∧ run m AtE (l.take (e - b)) = AtE)
  | 0, l, b, e, h => by omega
  | f + 1, l, b, e, h => by
    obtain ⟨r1, r2⟩ := run_rd hm l
    cases hr : rd m l with
    | none =>
      rw [cutsF_none hr]
      refine ⟨fun z => (by cases z), fun ⟨z1, z2, z3⟩ => ?_⟩
      exact absurd z3 (r2 hr _ (by omega) (by omega))
    | some p =>
      obtain ⟨n, d⟩ := p
      obtain ⟨d1, d2⟩ := rd_le hm hr
      obtain ⟨q1, q2⟩ := r1 n d hr
      rw [cutsF_some hr, List.map_cons, List.mem_cons, mem_ends hm f (l.drop d) (b + d) e (by rw [List.length_drop]; omega), List.length_drop]
      have split : ∀ e, b + d < e → run m AtE (l.take (e - b)) = run m AtE ((l.drop d).take (e - (b + d))) := fun e he => by
        rw [show e - b = d + (e - (b + d)) by omega, List.take_add, run_app, q1]
      constructor
      · rintro (rfl | ⟨z1, z2, z3⟩)
        · exact ⟨by omega, by omega, by rw [Nat.add_sub_cancel_left]; exact q1⟩
        · exact ⟨by omega, by omega, by rw [split e z1]; exact z3⟩
      · rintro ⟨z1, z2, z3⟩
        by_cases c : e = b + d
        · exact .inl c
        · by_cases c2 : b + d < e
          · exact .inr ⟨c2, by omega, by rw [← split e c2]; exact z3⟩
          · exact absurd z3 (q2 _ (by omega) (by omega))
theorem ends_gt {m : Nat} (hm : 1 ≤ m) : ∀ (f : Nat) (l : List Bool) (b : Nat), l.length < f → ((cutsF m f l b).map (fun x => x.2)).Pairwise (· < ·)
  | 0, l, b, h => by omega
  | f + 1, l, b, h => by
    cases hr : rd m l with
    | none =>
      rw [cutsF_none hr]
      exact .nil
    | some p =>
      obtain ⟨n, d⟩ := p
      obtain ⟨d1, d2⟩ := rd_le hm hr
      rw [cutsF_some hr, List.map_cons]
      have hl : (l.drop d).length < f := by rw [List.length_drop]; omega
      refine .cons (fun e he => ?_) (ends_gt hm f _ _ hl)
      exact ((mem_ends hm f _ _ e hl).mp he).1
/-- the places behind the words of a text that is read from a place on -/
def endsN (m : Nat) (l : List Bool) (b : Nat) : List Nat := (cutsF m ((l.drop b).length + 1) (l.drop b) b).map (fun x => x.2)
theorem mem_endsN {m : Nat} (hm : 1 ≤ m) {l : List Bool} {b e : Nat} (hb : b ≤ l.length) : e ∈ endsN m l b ↔ b < e ∧ e ≤ l.length ∧ run m AtE ((l.drop b).take (e - b)) = AtE := by
  unfold endsN
  rw [mem_ends hm _ _ _ _ (Nat.lt_succ_self _), List.length_drop]
  constructor
  · rintro ⟨a, b, c⟩; exact ⟨a, by omega, c⟩
  · rintro ⟨a, b, c⟩; exact ⟨a, by omega, c⟩
theorem endsN_asc {m : Nat} (hm : 1 ≤ m) (l : List Bool) (b : Nat) : (endsN m l b).Pairwise (· < ·) := ends_gt hm _ _ _ (Nat.lt_succ_self _)
/-- the last of some numbers, ascending, is the greatest -/
theorem last_is {l : List Nat} (h : l.Pairwise (· < ·)) {e : Nat} (he : e ∈ l) (hm : ∀ x ∈ l, x ≤ e) : l.getLast? = some e := by
  induction l with
  | nil => cases he
  | cons a r ih =>
    obtain ⟨h1, h2⟩ := List.pairwise_cons.mp h
    cases r with
    | nil =>
      rcases List.mem_cons.mp he with rfl | z
      · rfl
      · cases z
    | cons b r =>
      rw [List.getLast?_cons_cons]
      refine ih h2 ?_ fun x hx => hm x (List.mem_cons_of_mem _ hx)
      rcases List.mem_cons.mp he with rfl | z
      · have := h1 b List.mem_cons_self
        have := hm b (List.mem_cons_of_mem _ List.mem_cons_self)
        omega
      · exact z
/-- the last end of a text is its length just if it is a row of words -/
theorem row_iff {m : Nat} (hm : 1 ≤ m) (l : List Bool) : ((endsN m l 0).getLast?.getD 0 = l.length) ↔ run m AtE l = AtE := by
  have hme : ∀ e, e ∈ endsN m l 0 ↔ 0 < e ∧ e ≤ l.length ∧ run m AtE (l.take e) = AtE := fun e => by
    rw [mem_endsN hm (Nat.zero_le _)]
    rfl
  constructor
  · intro h
    cases hl : (endsN m l 0).getLast? with
    | none =>
      rw [hl] at h
      have : l = [] := List.length_eq_zero_iff.mp h.symm
      subst this
      rfl
    | some e =>
      rw [hl] at h
      obtain ⟨h1, h2, h3⟩ := (hme e).mp (List.mem_of_getLast? hl)
      have h' : e = l.length := h
      rw [h', List.take_length] at h3
      exact h3
  · intro h
    by_cases h0 : l = []
    · subst h0
      cases hl : (endsN m [] 0).getLast? with
      | none => rfl
      | some e =>
        obtain ⟨h1, h2, h3⟩ := (hme e).mp (List.mem_of_getLast? hl)
        simp at h2
        omega
    · have hp : 0 < l.length := List.length_pos_iff.mpr h0
      have he : l.length ∈ endsN m l 0 := (hme _).mpr ⟨hp, Nat.le_refl _, by rw [List.take_length]; exact h⟩
      rw [last_is (endsN_asc hm l 0) he fun x hx => ((hme x).mp hx).2.1]
      rfl
/-- words, one behind the other -/
theorem run_word {m : Nat} (hm : 1 ≤ m) (n : Nat) : run m AtE (wordB m n) = AtE := by
  have h := rd_word m hm n []
  rw [List.append_nil] at h
  have := ((run_rd hm (wordB m n)).1 _ _ h).1
  rwa [List.take_length] at this
/-! ### there are few standings -/
def Std (m : Nat) (t : St3) : Prop := t = AtE ∨ t = (1, 0, 0) ∨ (t.1 = 2 ∧ t.2.2 < wideN m ∧ t.2.1 < 2 ^ t.2.2)
theorem std_le {m : Nat} {t : St3} (h : Std m t) : t.1 ≤ 2 := by
  rcases h with rfl | rfl | ⟨h, _⟩
  · decide
  · decide
  · omega
theorem std_nx {m : Nat} {t : St3} (h : Std m t) (b : Bool) : Std m (nxS m t b) := by
  have low : ∀ t : St3, t.1 < 2 → t.2 = (0, 0) → Std m (nxS m t b) := fun t h1 h2 => by
    cases b
    · rw [nx_zero h1 h2]
      split
      · exact .inl rfl
      · exact .inr (.inr ⟨rfl, by show 0 < _; omega, by show 0 < 2 ^ 0; decide⟩)
    · unfold nxS
      rw [if_pos ⟨h1, rfl⟩]
      exact .inr (.inl rfl)
  rcases h with rfl | rfl | ⟨h1, h2, h3⟩
  · exact low _ (by show 0 < 2; decide) rfl
  · exact low _ (by show 1 < 2; decide) rfl
  · obtain ⟨a, r, f⟩ := t
    cases (show a = 2 from h1)
    rw [nx_bits (by omega)]
    split
    · exact .inl rfl
    · rename_i c
      have h2 : f < wideN m := h2
      have h3 : r < 2 ^ f := h3
      refine .inr (.inr ⟨rfl, ?_, ?_⟩)
      · show f + 1 < wideN m
        have : ¬ f + 1 = wideN m := fun z => c (.inl z)
        omega
      · show 2 * r + b.toNat < 2 ^ (f + 1)
        rw [Nat.pow_succ]
        have : b.toNat ≤ 1 := by cases b <;> decide
        omega
theorem std_run {m : Nat} : ∀ (l : List Bool) {t : St3}, Std m t → Std m (run m t l)
  | [], _, h => h
  | b :: l, _, h => std_run l (std_nx h b)
theorem nodup_bound : ∀ (n : Nat) (l : List Nat), l.Nodup → (∀ x ∈ l, x < n) → l.length ≤ n
  | 0, [], _, _ => Nat.le_refl _
  | 0, x :: l, _, h => by have := h x List.mem_cons_self; omega
  | n + 1, l, h, hb => by
    have h1 : (l.erase n).Nodup := h.sublist List.erase_sublist
    have h2 := nodup_bound n (l.erase n) h1 fun x hx => by
      have := hb x (List.mem_of_mem_erase hx)
      have : x ≠ n := fun z => by
        rw [z] at hx
        exact (h.mem_erase_iff.mp hx).1 rfl
      omega
    rw [List.length_erase] at h2
    split at h2 <;> omega
def codeS (t : St3) : Nat := t.1 * 512 + t.2.2 * 64 + t.2.1
theorem std_small {m : Nat} (h64 : m ≤ 64) {t : St3} (h : Std m t) : t.1 ≤ 2 ∧ t.2.2 < 8 ∧ t.2.1 < 64 := by
  have h6 := wide_64 h64
  rcases h with rfl | rfl | ⟨h1, h2, h3⟩
  · exact ⟨by decide, by decide, by decide⟩
  · exact ⟨by decide, by decide, by decide⟩
  · have : 2 ^ t.2.2 ≤ 2 ^ 6 := Nat.pow_le_pow_right (by decide) (by omega)
    exact ⟨by omega, by omega, by omega⟩
theorem nodup_map {α β : Type} {f : α → β} : ∀ {l : List α}, l.Nodup → (∀ x ∈ l, ∀ y ∈ l, f x = f y → x = y) → (l.map f).Nodup
  | [], _, _ => .nil
  | a :: l, h, hi => by
    obtain ⟨h1, h2⟩ := List.nodup_cons.mp h
    refine List.nodup_cons.mpr ⟨fun z => ?_, nodup_map h2 fun x hx y hy => hi x (List.mem_cons_of_mem _ hx) y (List.mem_cons_of_mem _ hy)⟩
    obtain ⟨y, hy, e⟩ := List.mem_map.mp z
    exact h1 (hi y (List.mem_cons_of_mem _ hy) a List.mem_cons_self e ▸ hy)
theorem std_len {m : Nat} (h64 : m ≤ 64) {l : List St3} (h : l.Nodup) (hs : ∀ t ∈ l, Std m t) : l.length ≤ 1536 := by
  have hn : (l.map codeS).Nodup := nodup_map h fun x hx y hy e => by
    have a := std_small h64 (hs x hx)
    have b := std_small h64 (hs y hy)
    unfold codeS at e
    have e1 : x.1 = y.1 := by omega
    have e2 : x.2.2 = y.2.2 := by omega
    have e3 : x.2.1 = y.2.1 := by omega
    exact Prod.ext e1 (Prod.ext e3 e2)
  have := nodup_bound 1536 _ hn fun x hx => by
    obtain ⟨t, ht, rfl⟩ := List.mem_map.mp hx
    have a := std_small h64 (hs t ht)
    unfold codeS
    omega
  rwa [List.length_map] at this
end St
namespace St
open PySem PySem.Spec PyProof.Rows L2
/-! ### rows: things, each with a number, all different -/
/-- a row: how many fillings lead to each standing, in the order in which they came -/
abbrev SR (α : Type) := List (α × Nat)
section
variable {α : Type} [DecidableEq α]
def valR (r : SR α) (t : α) : Option Nat := (r.find? fun x => decide (x.1 = t)).map (·.2)
def addR (r : SR α) (t : α) (n : Nat) : SR α := if (valR r t).isSome then r.map (fun x => if x.1 = t then (x.1, (valR r t).getD 0 + n) else x) else r ++ [(t, n)]
/-! a row whose standings are different ones -/
def keysR (r : SR α) : List α := r.map (·.1)
theorem valR_none {r : SR α} {t : α} : valR r t = none ↔ t ∉ keysR r := by
  unfold valR keysR
  rw [Option.map_eq_none_iff, List.find?_eq_none]
  simp only [decide_eq_true_eq, List.mem_map, not_exists, not_and]
theorem valR_some {r : SR α} {t : α} : (valR r t).isSome = true ↔ t ∈ keysR r := by
  rw [← Decidable.not_iff_not, ← valR_none]
  cases valR r t <;> simp
theorem valR_mem {r : SR α} (h : (keysR r).Nodup) {t : α} {n : Nat} (hx : (t, n) ∈ r) : valR r t = some n := by
  unfold valR
  induction r with
  | nil => cases hx
  | cons a r ih =>
    obtain ⟨h1, h2⟩ := List.nodup_cons.mp h
    rw [List.find?_cons]
    rcases List.mem_cons.mp hx with z | z
    · subst z
      simp
    · have : a.1 ≠ t := fun e => h1 (List.mem_map.mpr ⟨_, z, e.symm⟩)
      rw [decide_eq_false this]
      exact ih h2 z
theorem keys_add (r : SR α) (t : α) (n : Nat) : keysR (addR r t n) = if t ∈ keysR r then keysR r else keysR r ++ [t] := by
  unfold addR
  by_cases c : t ∈ keysR r
  · rw [if_pos c, if_pos (valR_some.mpr c)]
    unfold keysR
    rw [List.map_map]
    refine List.map_congr_left fun x _ => ?_
    show (if x.1 = t then (x.1, (valR r t).getD 0 + n) else x).1 = _
    split <;> rfl
  · rw [if_neg c, if_neg (fun z => c (valR_some.mp z))]
    unfold keysR
    rw [List.map_append]
    rfl
theorem add_nodup {r : SR α} (h : (keysR r).Nodup) (t : α) (n : Nat) : (keysR (addR r t n)).Nodup := by
  rw [keys_add]
  split
  · exact h
  · rename_i c
    exact List.nodup_append.mpr ⟨h, by simp, fun a ha b hb => by
      rw [List.mem_singleton.mp hb]
      exact fun z => c (z ▸ ha)⟩
def wsum (g : α → Nat) (r : SR α) : Nat := (r.map fun x => x.2 * g x.1).sum
theorem add_sum (g : α → Nat) {r : SR α} (h : (keysR r).Nodup) (t : α) (n : Nat) : wsum g (addR r t n) = wsum g r + n * g t := by
  unfold addR wsum
  by_cases c : t ∈ keysR r
  · rw [if_pos (valR_some.mpr c)]
    obtain ⟨⟨t', k⟩, hk, rfl⟩ := List.mem_map.mp c
    rw [valR_mem h hk]
    show (List.map _ (List.map (fun x => if x.1 = t' then (x.1, k + n) else x) r)).sum = _ + n * g t'
    induction r with
    | nil => cases hk
    | cons a r ih =>
      obtain ⟨h1, h2⟩ := List.nodup_cons.mp h
      rw [List.map_cons, List.map_cons, List.map_cons, List.sum_cons, List.sum_cons]
      rcases List.mem_cons.mp hk with z | z
      · subst z
        have e : List.map (fun x : α × Nat => if x.1 = t' then (x.1, k + n) else x) r = r := by
          have : ∀ x ∈ r, (if x.1 = t' then (x.1, k + n) else x) = x := fun x hx => if_neg fun e => h1 (by rw [← e]; exact List.mem_map.mpr ⟨x, hx, rfl⟩)
          exact (List.map_congr_left this).trans (List.map_id _)
        rw [e, if_pos rfl]
        show (k + n) * g t' + _ = k * g t' + _ + _
        rw [Nat.add_mul]
        omega
      · have : a.1 ≠ t' := fun e => h1 (List.mem_map.mpr ⟨_, z, e.symm⟩)
        rw [if_neg this, ih h2 z (List.mem_map.mpr ⟨_, z, rfl⟩)]
        omega
  · rw [if_neg (fun z => c (valR_some.mp z)), List.map_append, List.sum_append]
    simp
theorem add_mem (r : SR α) (t : α) (n : Nat) (u : α) : u ∈ keysR (addR r t n) ↔ u ∈ keysR r ∨ u = t := by
  rw [keys_add]
  split
  · rename_i c
    exact ⟨.inl, fun z => z.elim id fun e => e ▸ c⟩
  · rw [List.mem_append, List.mem_singleton]
/-- many adds, one behind the other -/
def adds (r : SR α) (l : List (α × Nat)) : SR α := l.foldl (fun r x => addR r x.1 x.2) r
theorem adds_facts : ∀ (l : List (α × Nat)) {r : SR α}, (keysR r).Nodup → (keysR (adds r l)).Nodup ∧ (∀ g, wsum g (adds r l) = wsum g r + (l.map fun x => x.2 * g x.1).sum) ∧ ∀ u, u ∈ keysR (adds r l) ↔ u ∈ keysR r ∨ u ∈ l.map (·.1)
  | [], r, h => ⟨h, fun g => rfl, fun u => ⟨.inl, fun z => z.elim id fun e => by cases e⟩⟩
  | x :: l, r, h => by
    obtain ⟨h1, h2, h3⟩ := adds_facts l (add_nodup h x.1 x.2)
    refine ⟨h1, fun g => ?_, fun u => ?_⟩
    · show wsum g (adds (addR r x.1 x.2) l) = _
      rw [h2, add_sum g h, List.map_cons, List.sum_cons]
      omega
    · show u ∈ keysR (adds (addR r x.1 x.2) l) ↔ _
      rw [h3, add_mem, List.map_cons, List.mem_cons, or_assoc]
theorem wsum_one {r : SR α} (h : (keysR r).Nodup) (t : α) : wsum (fun u => if u = t then 1 else 0) r = (valR r t).getD 0 := by
  unfold wsum valR
  induction r with
  | nil => rfl
  | cons a r ih =>
    obtain ⟨h1, h2⟩ := List.nodup_cons.mp h
    rw [List.map_cons, List.sum_cons, ih h2, List.find?_cons]
    show a.2 * (if a.1 = t then 1 else 0) + _ = _
    by_cases c : a.1 = t
    · rw [decide_eq_true c, if_pos c]
      have e : (List.find? (fun x : α × Nat => decide (x.1 = t)) r) = none := List.find?_eq_none.mpr fun x hx z => h1 (List.mem_map.mpr ⟨x, hx, (of_decide_eq_true z).trans c.symm⟩)
      rw [e]
      show a.2 * 1 + 0 = a.2
      omega
    · rw [decide_eq_false c, if_neg c, Nat.mul_zero, Nat.zero_add]
end
theorem count_filter {α : Type} (l : List α) (p : α → Prop) [DecidablePred p] : (l.map fun x => if p x then 1 else 0).sum = (l.filter p).length := by
  induction l with
  | nil => rfl
  | cons a l ih =>
    rw [List.map_cons, List.sum_cons, ih, List.filter_cons]
    by_cases c : p a
    · rw [if_pos c, decide_eq_true c, if_pos rfl, List.length_cons, Nat.add_comm]
    · rw [if_neg c, decide_eq_false c, if_neg (by decide), Nat.zero_add]
theorem sum_flatMap {α β : Type} (l : List α) (f : α → List β) (g : β → Nat) : ((l.flatMap f).map g).sum = (l.map fun x => ((f x).map g).sum).sum := by
  induction l with
  | nil => rfl
  | cons a l ih => rw [List.flatMap_cons, List.map_append, List.sum_append, ih, List.map_cons, List.sum_cons]
section
variable {α : Type} [DecidableEq α]
/-- a number put to a thing -/
def setR (r : SR α) (t : α) (n : Nat) : SR α := if (valR r t).isSome then r.map (fun x => if x.1 = t then (x.1, n) else x) else r ++ [(t, n)]
theorem addR_set (r : SR α) (t : α) (n : Nat) : addR r t n = setR r t ((valR r t).getD 0 + n) := by
  unfold addR setR
  cases h : valR r t with
  | none => simp
  | some k => rfl
theorem valR_set (r : SR α) (t u : α) (n : Nat) : valR (setR r t n) u = if u = t then some n else valR r u := by
  unfold setR
  by_cases c : (valR r t).isSome = true
  · rw [if_pos c]
    have e : ∀ r : SR α, valR (r.map fun x => if x.1 = t then (x.1, n) else x) u = if u = t then (valR r t).map (fun _ => n) else valR r u := by
      intro r
      induction r with
      | nil => by_cases h : u = t <;> simp [valR, h]
      | cons a r ih =>
        unfold valR at ih ⊢
        rw [List.map_cons, List.find?_cons, List.find?_cons, List.find?_cons]
        by_cases h1 : a.1 = t
        · rw [if_pos h1, decide_eq_true h1]
          by_cases h2 : u = t
          · rw [if_pos h2, decide_eq_true (show a.1 = u by rw [h1, h2])]
            rfl
          · rw [if_neg h2, decide_eq_false (show ¬ a.1 = u by rw [h1]; exact Ne.symm h2)]
            rw [if_neg h2] at ih
            exact ih
        · rw [if_neg h1, decide_eq_false h1]
          by_cases h2 : u = t
          · rw [if_pos h2, decide_eq_false (show ¬ a.1 = u by rw [h2]; exact h1)]
            rw [if_pos h2] at ih
            exact ih
          · rw [if_neg h2]
            by_cases h3 : a.1 = u
            · rw [decide_eq_true h3]
            · rw [decide_eq_false h3]
              rw [if_neg h2] at ih
              exact ih
    rw [e]
    by_cases h : u = t
    · rw [if_pos h, if_pos h]
      cases hv : valR r t with
      | none => rw [hv] at c; cases c
      | some k => rfl
    · rw [if_neg h, if_neg h]
  · rw [if_neg c]
    unfold valR
    rw [List.find?_append]
    by_cases h : u = t
    · have e : List.find? (fun x : α × Nat => decide (x.1 = u)) r = none := by
        have : valR r u = none := by
          rw [h]
          cases hv : valR r t with
          | none => rfl
          | some k => rw [hv] at c; exact absurd rfl c
        exact Option.map_eq_none_iff.mp this
      rw [e, if_pos h, h]
      simp
    · rw [if_neg h]
      have : List.find? (fun x : α × Nat => decide (x.1 = u)) [(t, n)] = none := by
        simp [Ne.symm h]
      rw [this, Option.or_none]
end
section
variable {α : Type} [DecidableEq α]
theorem keys_set (r : SR α) (t : α) (n : Nat) : keysR (setR r t n) = if t ∈ keysR r then keysR r else keysR r ++ [t] := by
  unfold setR
  by_cases c : t ∈ keysR r
  · rw [if_pos c, if_pos (valR_some.mpr c)]
    unfold keysR
    rw [List.map_map]
    refine List.map_congr_left fun x _ => ?_
    show (if x.1 = t then (x.1, n) else x).1 = _
    split <;> rfl
  · rw [if_neg c, if_neg (fun z => c (valR_some.mp z))]
    unfold keysR
    rw [List.map_append]
    rfl
theorem set_nodup {r : SR α} (h : (keysR r).Nodup) (t : α) (n : Nat) : (keysR (setR r t n)).Nodup := by
  rw [keys_set]
  split
  · exact h
  · rename_i c
    exact List.nodup_append.mpr ⟨h, by simp, fun a ha b hb => by
      rw [List.mem_singleton.mp hb]
      exact fun z => c (z ▸ ha)⟩
theorem set_mem (r : SR α) (t : α) (n : Nat) (u : α) : u ∈ keysR (setR r t n) ↔ u ∈ keysR r ∨ u = t := by
  rw [keys_set]
  split
  · rename_i c
    exact ⟨.inl, fun z => z.elim id fun e => e ▸ c⟩
  · rw [List.mem_append, List.mem_singleton]
end
end St
namespace St
open PySem PySem.Spec PyProof.Rows L2
/-! ### the least cost by how many words end at each length -/
/-- what the numbers from t on weigh -/
def TW (W : Nat → Nat) (c t : Nat) : Nat := ((List.range' t (c - t)).map W).sum
theorem TW_end (W : Nat → Nat) (c : Nat) : TW W c c = 0 := by
  unfold TW
  simp
theorem TW_step (W : Nat → Nat) {c t : Nat} (h : t < c) : TW W c t = W t + TW W c (t + 1) := by
  unfold TW
  rw [show c - t = (c - (t + 1)) + 1 by omega, List.range'_succ, List.map_cons, List.sum_cons]
def roomM (c f e : Nat) : Nat := min (2 * (f - e)) c
/-- costs that can be paid from a standing on, r lengths being left -/
inductive Pay (W : Nat → Nat) (c : Nat) : Nat → Nat → Nat → Nat → Prop
  | fin {r t f e : Nat} : e ≤ f → t + e = c → Pay W c (r + 1) t f (TW W c (t + e))
  | step {r t f e v : Nat} : e ≤ f → t + e < c → 0 < roomM c f e → Pay W c r (t + e) (roomM c f e) v → Pay W c (r + 1) t f (TW W c (t + e) + v)
/-- weights times lengths, from a number on -/
def costN (W : Nat → Nat) : Nat → List Nat → Nat
  | _, [] => 0
  | t, l :: ls => W t * l + costN W (t + 1) ls
theorem costN_app (W : Nat → Nat) : ∀ (t : Nat) (a b : List Nat), costN W t (a ++ b) = costN W t a + costN W (t + a.length) b
  | t, [], b => by simp [costN]
  | t, x :: a, b => by
    rw [List.cons_append, costN, costN, costN_app W (t + 1) a b, List.length_cons, show t + 1 + a.length = t + (a.length + 1) by omega]
    omega
theorem costN_zero (W : Nat → Nat) : ∀ (n t : Nat), costN W t (List.replicate n 0) = 0
  | 0, _ => rfl
  | n + 1, t => by rw [List.replicate_succ, costN, costN_zero W n]; simp
theorem costN_succ (W : Nat → Nat) (c : Nat) : ∀ (ls : List Nat) (t : Nat), t + ls.length = c → costN W t (ls.map (· + 1)) = TW W c t + costN W t ls
  | [], t, h => by
    have : t = c := by simpa using h
    rw [this, TW_end]
    rfl
  | l :: ls, t, h => by
    rw [List.length_cons] at h
    rw [List.map_cons, costN, costN, costN_succ W c ls (t + 1) (by omega), TW_step W (show t < c by omega), Nat.mul_add]
    omega
theorem krf_succ (K : Nat) (ls : List Nat) : krf (K + 1) (ls.map (· + 1)) = krf K ls := by
  unfold krf
  rw [List.map_map]
  congr 1
  refine List.map_congr_left fun l _ => ?_
  show 2 ^ (K + 1 - (l + 1)) = 2 ^ (K - l)
  rw [Nat.add_sub_add_right]
theorem krf_app (K : Nat) (a b : List Nat) : krf K (a ++ b) = krf K a + krf K b := by
  unfold krf
  rw [List.map_append, List.sum_append]
theorem krf_zeros (K n : Nat) : krf K (List.replicate n 0) = n * 2 ^ K := by
  unfold krf
  rw [List.map_replicate, List.sum_replicate_nat, Nat.sub_zero]
/-- what can be paid is what lengths of a book cost -/
theorem pay_lens {W : Nat → Nat} {c : Nat} : ∀ {r t f v : Nat}, Pay W c r t f v → ∃ ls : List Nat, t + ls.length = c ∧ (∀ l ∈ ls, l + 1 ≤ r) ∧ krf (r - 1) ls ≤ f * 2 ^ (r - 1) ∧ costN W t ls = v := by
  intro r t f v h
  induction h with
  | @fin r t f e h1 h2 =>
    refine ⟨List.replicate e 0, by rw [List.length_replicate]; exact h2, fun l hl => by rw [List.eq_of_mem_replicate hl]; omega, ?_, ?_⟩
    · rw [krf_zeros]
      exact Nat.mul_le_mul_right _ h1
    · rw [costN_zero, h2, TW_end]
  | @step r t f e v h1 h2 h3 _ ih =>
    obtain ⟨ls, i1, i2, i3, i4⟩ := ih
    have hne : ls ≠ [] := fun z => by rw [z] at i1; simp at i1; omega
    obtain ⟨x, hx⟩ := List.exists_mem_of_ne_nil ls hne
    have hr := i2 x hx
    obtain ⟨r', rfl⟩ : ∃ r', r = r' + 1 := ⟨r - 1, by omega⟩
    refine ⟨List.replicate e 0 ++ ls.map (· + 1), ?_, fun l hl => ?_, ?_, ?_⟩
    · rw [List.length_append, List.length_replicate, List.length_map]
      omega
    · rcases List.mem_append.mp hl with hl | hl
      · rw [List.eq_of_mem_replicate hl]
        omega
      · obtain ⟨y, hy, rfl⟩ := List.mem_map.mp hl
        have := i2 y hy
        omega
    · rw [krf_app, krf_zeros, show r' + 1 + 1 - 1 = r' + 1 by omega, krf_succ]
      rw [Nat.add_sub_cancel] at i3
      have h4 : roomM c f e * 2 ^ r' ≤ 2 * (f - e) * 2 ^ r' := Nat.mul_le_mul_right _ (Nat.min_le_left _ _)
      have h5 : 2 * (f - e) * 2 ^ r' = (f - e) * 2 ^ (r' + 1) := by rw [Nat.pow_succ, Nat.mul_comm 2 (f - e), Nat.mul_assoc, Nat.mul_comm 2]
      have h6 : e * 2 ^ (r' + 1) + (f - e) * 2 ^ (r' + 1) = f * 2 ^ (r' + 1) := by rw [← Nat.add_mul, show e + (f - e) = f by omega]
      omega
    · rw [costN_app, costN_zero, List.length_replicate, Nat.zero_add, costN_succ W c ls (t + e) i1, i4]
/-- .. and the other way round, rising lengths -/
theorem lens_pay {W : Nat → Nat} {c : Nat} : ∀ (r t f : Nat) (ls : List Nat), t + ls.length = c → ls.Pairwise (· ≤ ·) → (∀ l ∈ ls, l ≤ r) → krf r ls ≤ f * 2 ^ r → Pay W c (r + 1) t f (costN W t ls) := by
  -- the zeros ahead
  have split : ∀ ls : List Nat, ls.Pairwise (· ≤ ·) → ∃ (e : Nat) (ms : List Nat), ls = List.replicate e 0 ++ ms.map (· + 1) ∧ ms.Pairwise (· ≤ ·) := by
    intro ls
    induction ls with
    | nil => intro _; exact ⟨0, [], rfl, .nil⟩
    | cons x ls ih =>
      intro h
      obtain ⟨h1, h2⟩ := List.pairwise_cons.mp h
      by_cases c0 : x = 0
      · obtain ⟨e, ms, rfl, hp⟩ := ih h2
        exact ⟨e + 1, ms, by rw [c0, List.replicate_succ]; rfl, hp⟩
      · refine ⟨0, (x :: ls).map (· - 1), ?_, List.pairwise_map.mpr (h.imp fun h => by omega)⟩
        rw [List.replicate_zero, List.nil_append, List.map_map]
        refine ((List.map_congr_left fun y hy => ?_).trans (List.map_id _)).symm
        show y - 1 + 1 = y
        rcases List.mem_cons.mp hy with rfl | hy
        · omega
        · have := h1 y hy
          omega
  intro r
  induction r with
  | zero =>
    intro t f ls h1 h2 h3 h4
    have e : ls = List.replicate ls.length 0 := List.eq_replicate_iff.mpr ⟨rfl, fun x hx => by have := h3 x hx; omega⟩
    rw [e, krf_zeros] at h4
    have := Pay.fin (W := W) (c := c) (r := 0) (t := t) (f := f) (e := ls.length) (by simpa using h4) h1
    rw [h1, TW_end] at this
    rw [e, costN_zero]
    exact this
  | succ r ih =>
    intro t f ls h1 h2 h3 h4
    obtain ⟨e, ms, rfl, hp⟩ := split ls h2
    rw [List.length_append, List.length_replicate, List.length_map] at h1
    rw [krf_app, krf_zeros, krf_succ] at h4
    by_cases cm : ms = []
    · subst cm
      rw [List.map_nil, List.append_nil, costN_zero]
      have h4' : e * 2 ^ (r + 1) ≤ f * 2 ^ (r + 1) := by omega
      have := Pay.fin (W := W) (c := c) (r := r + 1) (t := t) (f := f) (e := e) (Nat.le_of_mul_le_mul_right h4' (Nat.two_pow_pos _)) (by simpa using h1)
      rw [show t + e = c by simpa using h1, TW_end] at this
      exact this
    · have hl : 0 < ms.length := List.length_pos_iff.mpr cm
      have hpos : 0 < krf r ms := by
        obtain ⟨x, ms', rfl⟩ := List.exists_cons_of_ne_nil cm
        rw [krf_cons]
        have := Nat.two_pow_pos (r - x)
        omega
      have hef : e < f := Nat.lt_of_mul_lt_mul_right (show e * 2 ^ (r + 1) < f * 2 ^ (r + 1) by omega)
      have hb : krf r ms ≤ ms.length * 2 ^ r := by
        have : ∀ l : List Nat, krf r l ≤ l.length * 2 ^ r := by
          intro l
          induction l with
          | nil => simp [krf]
          | cons a l ih =>
            have : 2 ^ (r - a) ≤ 2 ^ r := Nat.pow_le_pow_right (by decide) (Nat.sub_le _ _)
            rw [krf_cons, List.length_cons, Nat.add_mul]
            omega
        exact this ms
      have h5 : krf r ms ≤ 2 * (f - e) * 2 ^ r := by
        have h5 : 2 * (f - e) * 2 ^ r = (f - e) * 2 ^ (r + 1) := by rw [Nat.pow_succ, Nat.mul_comm 2 (f - e), Nat.mul_assoc, Nat.mul_comm 2]
        have h6 : e * 2 ^ (r + 1) + (f - e) * 2 ^ (r + 1) = f * 2 ^ (r + 1) := by rw [← Nat.add_mul, show e + (f - e) = f by omega]
        omega
      have h6 : krf r ms ≤ roomM c f e * 2 ^ r := by
        unfold roomM
        rcases Nat.le_total (2 * (f - e)) c with z | z
        · rw [Nat.min_eq_left z]
          exact h5
        · rw [Nat.min_eq_right z]
          exact Nat.le_trans hb (Nat.mul_le_mul_right _ (by omega))
      have hpay := ih (t + e) (roomM c f e) ms (by omega) hp (fun l hl => by
        have := h3 (l + 1) (List.mem_append_right _ (List.mem_map.mpr ⟨l, hl, rfl⟩))
        omega) h6
      have := Pay.step (W := W) (c := c) (r := r + 1) (t := t) (f := f) (e := e) (by omega) (by omega) (by
        unfold roomM
        omega) hpay
      rw [costN_app, costN_zero, List.length_replicate, Nat.zero_add, costN_succ W c ms (t + e) (by omega)]
      exact this
theorem cost_prod (W : Nat → Nat) : ∀ (ls : List Nat) (t : Nat), (prodZ (fun i => ((W i : Nat) : Int)) t ls).sum = ((costN W t ls : Nat) : Int)
  | [], _ => rfl
  | l :: ls, t => by
    rw [prod_cons, cost_prod W ls, costN]
    simp
/-! the going through -/
/-- the best so far got better, or stays -/
def ImpB (b b' : Option Nat) : Prop := ∀ x, b = some x → ∃ y, b' = some y ∧ y ≤ x
def ImpR (q q' : SR (Nat × Nat)) : Prop := ∀ k x, valR q k = some x → ∃ y, valR q' k = some y ∧ y ≤ x
theorem ImpB.refl (b : Option Nat) : ImpB b b := fun x h => ⟨x, h, Nat.le_refl _⟩
theorem ImpR.refl (q : SR (Nat × Nat)) : ImpR q q := fun k x h => ⟨x, h, Nat.le_refl _⟩
theorem ImpB.trans {a b c : Option Nat} (h : ImpB a b) (k : ImpB b c) : ImpB a c := fun x hx => by
  obtain ⟨y, h1, h2⟩ := h x hx
  obtain ⟨z, h3, h4⟩ := k y h1
  exact ⟨z, h3, by omega⟩
theorem ImpR.trans {a b c : SR (Nat × Nat)} (h : ImpR a b) (k : ImpR b c) : ImpR a c := fun u x hx => by
  obtain ⟨y, h1, h2⟩ := h u x hx
  obtain ⟨z, h3, h4⟩ := k u y h1
  exact ⟨z, h3, by omega⟩
/-- a way was gone -/
def DoneP (W : Nat → Nat) (c : Nat) (x : (Nat × Nat) × Nat) (e : Nat) (b : Option Nat) (q : SR (Nat × Nat)) : Prop :=
  (x.1.1 + e = c → ∃ y, b = some y ∧ y ≤ x.2 + TW W c (x.1.1 + e)) ∧ (x.1.1 + e < c → 0 < roomM c x.1.2 e → ∃ y, valR q (x.1.1 + e, roomM c x.1.2 e) = some y ∧ y ≤ x.2 + TW W c (x.1.1 + e))
theorem DoneP.imp {W : Nat → Nat} {c : Nat} {x : (Nat × Nat) × Nat} {e : Nat} {b b' : Option Nat} {q q' : SR (Nat × Nat)} (h : DoneP W c x e b q) (hb : ImpB b b') (hq : ImpR q q') : DoneP W c x e b' q' := by
  refine ⟨fun z => ?_, fun z z2 => ?_⟩
  · obtain ⟨y, h1, h2⟩ := h.1 z
    obtain ⟨y', h3, h4⟩ := hb y h1
    exact ⟨y', h3, by omega⟩
  · obtain ⟨y, h1, h2⟩ := h.2 z z2
    obtain ⟨y', h3, h4⟩ := hq _ y h1
    exact ⟨y', h3, by omega⟩
def minO (b : Option Nat) (p : Nat) : Option Nat := some (match b with | none => p | some x => min x p)
theorem minO_imp (b : Option Nat) (p : Nat) : ImpB b (minO b p) := fun x h => ⟨min x p, by rw [h]; rfl, Nat.min_le_left _ _⟩
def minPut (q : SR (Nat × Nat)) (k : Nat × Nat) (p : Nat) : SR (Nat × Nat) := setR q k (min p ((valR q k).getD p))
theorem minPut_imp (q : SR (Nat × Nat)) (k : Nat × Nat) (p : Nat) : ImpR q (minPut q k p) := fun u x h => by
  unfold minPut
  rw [valR_set]
  by_cases c : u = k
  · rw [if_pos c]
    refine ⟨_, rfl, ?_⟩
    rw [← c, h]
    exact Nat.min_le_right _ _
  · rw [if_neg c]
    exact ⟨x, h, Nat.le_refl _⟩
theorem minPut_at (q : SR (Nat × Nat)) (k : Nat × Nat) (p : Nat) : ∃ y, valR (minPut q k p) k = some y ∧ y ≤ p := by
  unfold minPut
  rw [valR_set, if_pos rfl]
  exact ⟨_, rfl, Nat.min_le_left _ _⟩
/-- all that stands can be paid -/
structure AchP (W : Nat → Nat) (c R : Nat) (b : Option Nat) (r : Nat) (q : SR (Nat × Nat)) : Prop where
  best : ∀ x, b = some x → Pay W c R 0 1 x
  rows : ∀ k x, valR q k = some x → ∀ v, Pay W c r k.1 k.2 v → Pay W c R 0 1 (x + v)
  keys : ∀ k ∈ keysR q, k.1 < c ∧ 0 < k.2 ∧ k.2 ≤ max 1 c
  nd : (keysR q).Nodup
theorem AchP.fin {W : Nat → Nat} {c R r : Nat} {b : Option Nat} {q : SR (Nat × Nat)} (h : AchP W c R b r q) {p : Nat} (hp : Pay W c R 0 1 p) : AchP W c R (minO b p) r q where
  best := fun x hx => by
    have hx := Option.some.inj hx
    cases b with
    | none => exact hx ▸ hp
    | some y =>
      have e : x = min y p := hx.symm
      rcases Nat.le_total y p with z | z
      · rw [e, Nat.min_eq_left z]
        exact h.best y rfl
      · rw [e, Nat.min_eq_right z]
        exact hp
  rows := h.rows
  keys := h.keys
  nd := h.nd
theorem AchP.put {W : Nat → Nat} {c R r : Nat} {b : Option Nat} {q : SR (Nat × Nat)} (h : AchP W c R b r q) {k : Nat × Nat} {p : Nat} (hk : k.1 < c ∧ 0 < k.2 ∧ k.2 ≤ max 1 c) (hp : ∀ v, Pay W c r k.1 k.2 v → Pay W c R 0 1 (p + v)) : AchP W c R b r (minPut q k p) where
  best := h.best
  rows := fun u x hx v hv => by
    unfold minPut at hx
    rw [valR_set] at hx
    by_cases c1 : u = k
    · rw [if_pos c1] at hx
      subst c1
      have hx := Option.some.inj hx
      cases hv2 : valR q u with
      | none =>
        rw [hv2] at hx
        have : x = p := by rw [← hx]; exact Nat.min_self p
        rw [this]
        exact hp v hv
      | some y =>
        rw [hv2] at hx
        have e : x = min p y := hx.symm
        rcases Nat.le_total p y with z | z
        · rw [e, Nat.min_eq_left z]
          exact hp v hv
        · rw [e, Nat.min_eq_right z]
          exact h.rows u y hv2 v hv
    · rw [if_neg c1] at hx
      exact h.rows u x hx v hv
  keys := fun u hu => by
    rcases (set_mem _ _ _ _).mp hu with z | rfl
    · exact h.keys u z
    · exact hk
  nd := set_nodup h.nd _ _
/-- nothing is lost -/
def CovP (W : Nat → Nat) (c R : Nat) (b : Option Nat) (r : Nat) (q : SR (Nat × Nat)) : Prop := ∀ v, Pay W c R 0 1 v → (∃ x, b = some x ∧ x ≤ v) ∨ ∃ k x u, valR q k = some x ∧ Pay W c r k.1 k.2 u ∧ x + u ≤ v
theorem CovP.next {W : Nat → Nat} {c R r : Nat} {b b' : Option Nat} {q q' : SR (Nat × Nat)} (h : CovP W c R b (r + 1) q) (hb : ImpB b b') (hd : ∀ k x, valR q k = some x → ∀ e, e ≤ k.2 → k.1 + e ≤ c → DoneP W c (k, x) e b' q') : CovP W c R b' r q' := by
  intro v hv
  rcases h v hv with ⟨x, h1, h2⟩ | ⟨k, x, u, h1, h2, h3⟩
  · obtain ⟨y, h4, h5⟩ := hb x h1
    exact .inl ⟨y, h4, by omega⟩
  · generalize hr : r + 1 = r1 at h2
    cases h2 with
    | @fin r2 _ _ e a1 a2 =>
      obtain ⟨y, h4, h5⟩ := (hd k x h1 e a1 (by omega)).1 a2
      exact .inl ⟨y, h4, by have : y ≤ x + TW W c (k.1 + e) := h5; omega⟩
    | @step r2 _ _ e v' a1 a2 a3 a4 =>
      obtain ⟨y, h4, h5⟩ := (hd k x h1 e a1 (by omega)).2 a2 a3
      have : r = r2 := by omega
      subst this
      exact .inr ⟨_, y, v', h4, a4, by have : y ≤ x + TW W c (k.1 + e) := h5; omega⟩
theorem CovP.done {W : Nat → Nat} {c R : Nat} {b : Option Nat} {q : SR (Nat × Nat)} (h : CovP W c R b 0 q) {v : Nat} (hv : Pay W c R 0 1 v) : ∃ x, b = some x ∧ x ≤ v := by
  rcases h v hv with z | ⟨k, x, u, h1, h2, h3⟩
  · exact z
  · cases h2
end St
namespace St
open PySem PySem.Spec PyProof.Rows L2
/-! ### dicts whose keys are tuples, tuples of tuples too, the module's own ones too -/
mutual
theorem nk_is {X : Cx} {pins : List (Addr × Obj)} {σ : L2.St} {H : Hp} {s : Shared} (I : Inv X pins σ H s) : ∀ (k : NestedKey) (v : V) (u : Value), Dp X.K H v k.data → RelV v u → PySem.NestedIs s.heap k u
  | .none, _, _, h, r => by
    cases h
    cases r
    exact .none
  | .num i, _, _, h, r => by
    cases h
    obtain ⟨t, rfl⟩ := r
    exact .int i t
  | .text x, _, _, h, r => by
    cases h
    obtain ⟨t, rfl⟩ := r
    exact .text x t
  | .tup ks, v, u, h, r => by
    cases h with
    | tup hq hd =>
      obtain ⟨its, rv, ⟨o, ho, hc, n, hdt⟩, _⟩ := I.tuple hq
      cases (show u = Value.ref _ from r)
      exact .tup ho hc hdt (by simpa using nk_all I ks _ _ hd rv)
theorem nk_all {X : Cx} {pins : List (Addr × Obj)} {σ : L2.St} {H : Hp} {s : Shared} (I : Inv X pins σ H s) : ∀ (ks : List NestedKey) (vs : List V) (us : List Value), DpAll X.K H vs (NestedKey.datas ks) → Vals vs us → PySem.NestedAll s.heap ks us
  | [], _, _, h, r => by
    cases h
    cases r
    exact .nil
  | k :: ks, _, _, h, r => by
    cases h with
    | cons h1 h2 =>
      cases r with
      | cons r1 r2 => exact .cons (nk_is I k _ _ h1 r1) (nk_all I ks _ _ h2 r2)
end
/-- where a key lies -/
def NkAt (K : PySem.W.Frag) (H : Hp) (b : Addr) (k : NestedKey) : Prop := Dp K H (.ref b) k.data ∧ k.depth ≤ 8
theorem NkAt.same {K : PySem.W.Frag} {H H' : Hp} {b : Addr} {k : NestedKey} (s : Same H H') (h : NkAt K H b k) : NkAt K H' b k := ⟨Dp.same s h.1, h.2⟩
abbrev DEnt := NestedKey × Addr × V
abbrev EntRel : List DEnt → List (NestedKey × Addr × Value) → Prop := Paired fun p q => p.1 = q.1 ∧ p.2.1 = q.2.1 ∧ RelV p.2.2 q.2.2
/-- the dict at d with these entries: key, where the key lies, value -/
def DV (P : Program) (w : World) (d : Addr) (xs : List DEnt) : HO := .ext fun h => xs.length ≤ sizeLine ∧ (d == sysModules) = false ∧ ∃ vs, EntRel xs vs ∧ ∃ o es ep, h.get? d = some o ∧ o.ExactDict ∧ o.data = .dict es ep ∧ es.toList = vs.map (entryOfKey (nestedKind P w)) ∧ (vs.map (·.1)).Nodup
def valD (xs : List DEnt) (k : NestedKey) : Option V := (xs.find? fun x => decide (x.1 = k)).map (·.2.2)
def putD (xs : List DEnt) (k : NestedKey) (b : Addr) (v : V) : List DEnt := if (valD xs k).isSome then xs.map (fun x => if x.1 = k then (x.1, x.2.1, v) else x) else xs ++ [(k, b, v)]
theorem EntRel.val {xs : List DEnt} {vs : List (NestedKey × Addr × Value)} (r : EntRel xs vs) (k : NestedKey) : RelO (valD xs k) ((atKey vs k).map (·.2)) := by
  unfold valD atKey
  induction r with
  | nil => exact True.intro
  | @cons p q l m h t ih =>
    rw [List.find?_cons, List.find?_cons, h.1]
    cases e : decide (q.1 = k) with
    | true => exact h.2.2
    | false => exact ih
theorem EntRel.len {xs : List DEnt} {vs : List (NestedKey × Addr × Value)} (r : EntRel xs vs) : xs.length = vs.length := Paired.length r
theorem EntRel.keys {xs : List DEnt} {vs : List (NestedKey × Addr × Value)} (r : EntRel xs vs) : ∀ q ∈ vs, ∃ p ∈ xs, p.1 = q.1 ∧ p.2.1 = q.2.1 := by
  induction r with
  | nil => intro q h; cases h
  | @cons p q l m h t ih =>
    intro x hx
    rcases List.mem_cons.mp hx with rfl | hx
    · exact ⟨p, List.mem_cons_self, h.1, h.2.1⟩
    · obtain ⟨y, hy, e⟩ := ih x hx
      exact ⟨y, List.mem_cons_of_mem _ hy, e⟩
theorem EntRel.repl {xs : List DEnt} {vs : List (NestedKey × Addr × Value)} (r : EntRel xs vs) (k : NestedKey) {y : V} {u : Value} (ry : RelV y u) :
    EntRel (xs.map fun x => if x.1 = k then (x.1, x.2.1, y) else x) (vs.map (putAt k u)) := by
  induction r with
  | nil => exact .nil
  | @cons p q l m h t ih =>
    refine .cons ?_ ih
    unfold putAt
    by_cases c : q.1 = k
    · have c' : p.1 = k := h.1.trans c
      simp only [if_pos c, if_pos c']
      exact ⟨h.1, h.2.1, ry⟩
    · have c' : ¬ p.1 = k := fun z => c (h.1.symm.trans z)
      simp only [if_neg c, if_neg c']
      exact h
theorem EntRel.snoc {xs : List DEnt} {vs : List (NestedKey × Addr × Value)} (r : EntRel xs vs) {k : NestedKey} {b : Addr} {y : V} {u : Value} (ry : RelV y u) : EntRel (xs ++ [(k, b, y)]) (vs ++ [(k, b, u)]) := by
  induction r with
  | nil => exact .cons ⟨rfl, rfl, ry⟩ .nil
  | cons h t ih => exact .cons h ih
theorem EntRel.put {xs : List DEnt} {vs : List (NestedKey × Addr × Value)} (r : EntRel xs vs) (k : NestedKey) (b : Addr) {y : V} {u : Value} (ry : RelV y u) : EntRel (putD xs k b y) (storedH vs k b u) := by
  have e : (valD xs k).isSome = (atKey vs k).isSome := by
    have h := r.val k
    cases hx : valD xs k <;> cases hv : atKey vs k <;> rw [hx, hv] at h
    · rfl
    · exact h.elim
    · exact h.elim
    · rfl
  unfold putD storedH
  rw [e]
  split
  · exact r.repl k ry
  · exact r.snoc ry
theorem putD_len (xs : List DEnt) (k : NestedKey) (b : Addr) (v : V) : (putD xs k b v).length ≤ xs.length + 1 := by
  unfold putD
  split
  · rw [List.length_map]
    omega
  · rw [List.length_append]
    exact Nat.le_refl _
section
variable {X : Cx} {pins : List (Addr × Obj)} {σ : L2.St} {H : Hp} {s : Shared} {a b : Addr} {xs : List DEnt} {k : NestedKey} {u : Value} {A : Around} {E : Value → Shared → Prop}
/-- a dict, read -/
def DAt (K : PySem.W.Frag) (P : Program) (w : World) (H : Hp) (a : Addr) (xs : List DEnt) : Prop := Rd H a (DV P w a xs) ∧ ∀ x ∈ xs, NkAt K H x.2.1 x.1
theorem dv_rd (I : Inv X pins σ H s) (e : DAt X.K X.prog X.w H a xs) : xs.length ≤ sizeLine ∧ (a == sysModules) = false ∧ ∃ vs, EntRel xs vs ∧ s.heap.DictOfH (nestedKind X.prog X.w) a vs := by
  obtain ⟨⟨z, hd, vs, rel, o, es, ep, h1, h2, h3, h4, h5⟩, _⟩ := rd_of I.hok e.1
  refine ⟨z, hd, vs, rel, o, es, ep, h1, h2, h3, h4, fun q hq => ?_, h5⟩
  obtain ⟨p, hp, e1, e2⟩ := rel.keys q hq
  obtain ⟨k1, k2⟩ := e.2 p hp
  rw [← e1, ← e2]
  exact ⟨nk_is I _ _ _ k1 rfl, k2⟩
theorem nk_key (I : Inv X pins σ H s) (kb : NkAt X.K H b k) : (nestedKind X.prog X.w).is s.heap k b := ⟨nk_is I _ _ _ kb.1 rfl, kb.2⟩
theorem nk_room (hu : A.units + 9 < cLine) : (nestedKind X.prog X.w).room A.in1 := by
  show A.units + 1 + 8 < cLine
  omega
/-- d[y] -/
theorem dv_getItem {v : V} {Q : Value → Shared → Prop} (hu : A.units + 9 < cLine) (I : Inv X pins σ H s) (e : DAt X.K X.prog X.w H a xs) (kb : NkAt X.K H b k) (hv : valD xs k = some v) (h : ∀ w' s', Inv X pins σ H s' → RelV v w' → Q w' s') :
    wpAny (model X.prog X.w) A (getItem (.ref a) (.ref b)) Q E s := by
  obtain ⟨z, hd, vs, rel, dd⟩ := dv_rd I e
  have r := rel.val k
  rw [hv] at r
  cases hw : atKey vs k with
  | none => rw [hw] at r; exact r.elim
  | some p =>
    rw [hw] at r
    exact wpAny_getItem_heap (nk_room (X := X) hu) (nk_key I kb) dd hw (h _ _ (I.tok _) r)
theorem dv_some (rel : EntRel xs vs) : (atKey vs k).isSome = (valD xs k).isSome := by
  have h := rel.val k
  cases hx : valD xs k <;> cases hv : atKey vs k <;> rw [hx, hv] at h
  · rfl
  · exact h.elim
  · exact h.elim
  · rfl
/-- y in d -/
theorem dv_in {Q : Value → Shared → Prop} (hu : A.units + 9 < cLine) (I : Inv X pins σ H s) (e : DAt X.K X.prog X.w H a xs) (kb : NkAt X.K H b k) (h : ∀ s', Inv X pins σ H s' → Q (.bool (valD xs k).isSome) s') :
    wpAny (model X.prog X.w) A (compareOp .In (.ref b) (.ref a)) Q E s := by
  obtain ⟨z, hd, vs, rel, dd⟩ := dv_rd I e
  refine wpAny_in_heap (nk_room (X := X) hu) (nk_key I kb) hd dd ?_
  rw [dv_some rel]
  exact h _ (I.tok _)
/-- d.get(y, x) -/
theorem dv_get2 {Q : Value → Shared → Prop} {d : V} {r : Value} (hu : A.units + 9 < cLine) (I : Inv X pins σ H s) (e : DAt X.K X.prog X.w H a xs) (kb : NkAt X.K H b k) (rd : RelV d r) (h : ∀ w' s', Inv X pins σ H s' → RelV ((valD xs k).getD d) w' → Q w' s') :
    wpAny (model X.prog X.w) A (call (.builtin "dict.get") [.ref a, .ref b, r]) Q E s := by
  obtain ⟨z, hd, vs, rel, dd⟩ := dv_rd I e
  refine call_meetsIn PySem.F.slot_dict_get dd.typeIs PySem.F.entry_dict_get (PySem.F.args_dict_get_3 _ _ _) (meetsH_dict_get_default (nestedKind X.prog X.w) a b hd r) ⟨nk_room (X := X) hu, k, vs, nk_key I kb, dd, h _ _ (I.tok _) ?_⟩
  exact (rel.val k).getD rd
theorem dv_at {h : Heap} {vs : List (NestedKey × Addr × Value)} (z : xs.length ≤ sizeLine) (hd : (a == sysModules) = false) (rel : EntRel xs vs) {o : Obj} {es : Array DictEntry} {ep : Nat} (h1 : h.get? a = some o) (h2 : o.ExactDict) (h3 : o.data = .dict es ep) (h4 : es.toList = vs.map (entryOfKey (nestedKind X.prog X.w))) (h5 : (vs.map (·.1)).Nodup) {H' : Hp} :
    ObjOk X.prog X.w H' h a (DV X.prog X.w a xs) := by
  refine ⟨⟨z, hd, vs, rel, o, es, ep, h1, h2, h3, h4, h5⟩, ⟨o, h1⟩, fun g1 g2 q k => ?_⟩
  obtain ⟨z, hd, vs, rel, o, es, ep, h1, h2, h3, h4, h5⟩ := q
  exact ⟨z, hd, vs, rel, o, es, ep, k o h1, h2, h3, h4, h5⟩
/-- d[y] = v -/
theorem dv_setItem {v : V} {r : Value} {Q : Unit → Shared → Prop} (hu : A.units + 9 < cLine) (I : Inv X pins σ H s) (e : H a = some (DV X.prog X.w a xs)) (hk : ∀ x ∈ xs, NkAt X.K H x.2.1 x.1) (kb : NkAt X.K H b k) (hl : xs.length < sizeLine) (rv : RelV v r) (h : ∀ s', Inv X pins σ (upd H a (DV X.prog X.w a (putD xs k b v))) s' → Q () s') :
    wpAny (model X.prog X.w) A (setItem (.ref a) (.ref b) r) Q E s := by
  obtain ⟨z, hd, vs, rel, dd⟩ := dv_rd I ⟨.inl e, hk⟩
  have hz : vs.length ≤ sizeLine := by rw [← rel.len]; exact z
  have hl2 : (putD xs k b v).length ≤ sizeLine := by have := putD_len xs k b v; omega
  refine wpAny_setItem_heap (hsz := hz) (nk_room (X := X) hu) (nk_key I kb) dd fun h' dd' hs => h _ ?_
  obtain ⟨q, es, ep, hq, h2, h3, h4, _, h5⟩ := dd'
  exact d_write I (by rw [e]; exact True.intro) hs ⟨q, hq⟩ (dv_at hl2 hd (rel.put k b rv) hq h2 h3 h4 h5)
end
section
variable {X : Cx} {o i e f value : Expr} {pos pos' apos cpos : Pos} {td ty tv tx : L2.TE}
def tDVGet (K : PySem.W.Frag) (P : Program) (w : World) (td ty : L2.TE) : L2.TE := fun σ H Q => td σ H fun x H1 => ty σ H1 fun y H2 => ∃ a b xs k v, x = .ref a ∧ y = .ref b ∧ DAt K P w H2 a xs ∧ NkAt K H2 b k ∧ valD xs k = some v ∧ Q v H2
def tDVIn (K : PySem.W.Frag) (P : Program) (w : World) (ty td : L2.TE) : L2.TE := fun σ H Q => ty σ H fun y H1 => td σ H1 fun x H2 => ∃ a b xs k, x = .ref a ∧ y = .ref b ∧ DAt K P w H2 a xs ∧ NkAt K H2 b k ∧ Q (.bl (valD xs k).isSome) H2
def tDVGet2 (K : PySem.W.Frag) (P : Program) (w : World) (td ty tx : L2.TE) : L2.TE := fun σ H Q => td σ H fun x H1 => ∃ a xs, x = .ref a ∧ DAt K P w H1 a xs ∧ ty σ H1 fun y H2 => tx σ H2 fun z H3 => ∃ b k ys, y = .ref b ∧ DAt K P w H3 a ys ∧ NkAt K H3 b k ∧ Q ((valD ys k).getD z) H3
def sDVPut (K : PySem.W.Frag) (P : Program) (w : World) (td ty tv : L2.TE) : L2.TS := fun D σ H => tv σ H fun v H1 => td σ H1 fun x H2 => ty σ H2 fun y H3 => ∃ a b xs k, x = .ref a ∧ y = .ref b ∧ H3 a = some (DV P w a xs) ∧ (∀ x ∈ xs, NkAt K H3 x.2.1 x.1) ∧ NkAt K H3 b k ∧ xs.length < sizeLine ∧ D.nx σ (upd H3 a (DV P w a (putD xs k b v)))
def tDVNew (P : Program) (w : World) : L2.TE := fun _ H Q => ∀ p, H p = none → Q (.ref p) (upd H p (DV P w p []))
theorem pe_dvget (hu : X.A.units + 9 < cLine) (ho : PE X o td) (hi : PE X i ty) (hs : NoSl i) : PE X (.Subscript o i pos) (tDVGet X.K X.prog X.w td ty) := by
  refine ⟨fun pins s σ H Q I h => ?_⟩
  refine subD_of PySem.F.slot_dict_getitem.lookup hs (thn (ho.run pins s σ H _ I h) fun u s1 ⟨x, H1, I1, rx, q1⟩ => thn (hi.run pins s1 σ H1 _ I1 q1) fun iv s2 ⟨y, H2, I2, ry, a, b, xs, k, v, ex, ey, g, kb, hv, q2⟩ => ?_)
  subst ex ey
  obtain rfl : u = Value.ref a := rx
  obtain rfl : iv = Value.ref b := ry
  obtain ⟨_, _, vs, _, dd⟩ := dv_rd I2 g
  exact ⟨dd.typeIs, dv_getItem hu I2 g kb hv fun w' s3 I3 rw' => ⟨v, H2, I3, rw', q2⟩⟩
theorem pc_dvin (hu : X.A.units + 9 < cLine) (hi : PE X i ty) (ho : PE X o td) : PC X .In i o (tDVIn X.K X.prog X.w ty td) := by
  refine ⟨fun pins s σ H Q I h => ?_⟩
  refine thn (hi.run pins s σ H _ I h) fun iv s1 ⟨y, H1, I1, ry, q1⟩ => thn (ho.run pins s1 σ H1 _ I1 q1) fun u s2 ⟨x, H2, I2, rx, a, b, xs, k, ex, ey, g, kb, q2⟩ => ?_
  subst ex ey
  obtain rfl : u = Value.ref a := rx
  obtain rfl : iv = Value.ref b := ry
  exact dv_in hu I2 g kb fun s3 I3 => ⟨.bl (valD xs k).isSome, H2, I3, rfl, q2⟩
theorem ps_dvput (hu : X.A.units + 9 < cLine) (ho : PE X o td) (hi : PE X i ty) (hv : PE X value tv) (hs : swapsWith value (some (.Subscript o i pos')) pos.line X.env = pure false) :
    PS X (.Assign [.Subscript o i pos'] value pos) (sDVPut X.K X.prog X.w td ty tv) := by
  refine ⟨fun pins s σ H D I h => ?_⟩
  refine wpAny_Assign_Subscript (thn (hv.run pins s σ H _ I h) fun r s1 ⟨v, H1, I1, rv, q1⟩ => thn (ho.run pins s1 σ H1 _ I1 q1) fun u s2 ⟨x, H2, I2, rx, q2⟩ => thn (hi.run pins s2 σ H2 _ I2 q2) fun iv s3 ⟨y, H3, I3, ry, a, b, xs, k, ex, ey, g, hk, kb, hl, q3⟩ => ?_) hs
  subst ex ey
  obtain rfl : u = Value.ref a := rx
  obtain rfl : iv = Value.ref b := ry
  exact dv_setItem hu I3 g hk kb hl rv fun s4 I4 => ⟨σ, _, I4, q3⟩
theorem pe_dvget2 (hu : X.A.units + 9 < cLine) (ho : PE X o td) (he : PE X e ty) (hf : PE X f tx) (m : M2 X o "get" apos e f cpos) : PE X (.Call (.Attribute o "get" apos) [e, f] [] cpos) (tDVGet2 X.K X.prog X.w td ty tx) := by
  refine ⟨fun pins s σ H Q I h => ?_⟩
  refine wpAny_Call_method m.base m.few m.line PySem.F.plainAttrs_dict PySem.F.slot_dict_get PySem.F.type_dict_get (thn (ho.run pins s σ H _ I h) fun u s1 ⟨x, H1, I1, rx, a, xs, ex, d, q1⟩ => ?_)
  subst ex
  obtain rfl : u = Value.ref a := rx
  obtain ⟨_, _, vs, _, dd⟩ := dv_rd I1 d
  obtain ⟨ob, es, ep, h1, h2, _⟩ := id dd
  refine ⟨dd.typeIs, fun b q => ?_, ?_⟩
  · cases q
    exact ⟨ob, h1, h2.2.1⟩
  rw [m.trees]
  refine Calls.callWith_builtin rfl (Calls.evalArgs_plain (Calls.spliced_cons (thn (he.run pins s1 σ H1 _ I1 q1) fun iv s2 ⟨y, H2, I2, ry, q2⟩ =>
    Calls.spliced_cons (thn (hf.run pins s2 σ H2 _ I2 q2) fun fv s3 ⟨z, H3, I3, rz, b, k, ys, ey, g, kb, q3⟩ => Calls.spliced_nil ?_))))
  subst ey
  obtain rfl : iv = Value.ref b := ry
  exact dv_get2 hu I3 g kb rz fun w' s4 I4 rw' => ⟨_, H3, I4, rw', q3⟩
theorem pe_dvnew : PE X (.Dict [] [] pos) (tDVNew X.prog X.w) := ⟨fun pins s σ H Q I h =>
  wpAny_Dict_empty ⟨.ref s.heap.objs.size, _, I.laid (a := s.heap.objs.size) (o := DV X.prog X.w s.heap.objs.size []) (t' := s.toks) (fun _ _ q => Heap.get?_push_of_some _ q) (Nat.le_refl _)
    (dv_at (Nat.zero_le _) (beq_eq_false_iff_ne.mpr (Ne.symm (Nat.ne_of_lt I.big))) .nil (Heap.get?_push_size _ rfl) ⟨rfl, rfl, rfl⟩ rfl (es := #[]) rfl List.nodup_nil), rfl, h _ (I.hok.fresh (Nat.le_refl _))⟩⟩
end
theorem nine {n c : Nat} (h : n + 64 < c) : n + 9 < c := by omega
def rSetDV (K : PySem.W.Frag) (P : Program) (w : World) : V → V → V → Hp → (Hp → Prop) → Prop := fun o i v H Q => ∃ a b xs k, o = .ref a ∧ i = .ref b ∧ H a = some (DV P w a xs) ∧ (∀ x ∈ xs, NkAt K H x.2.1 x.1) ∧ NkAt K H b k ∧ xs.length < sizeLine ∧ Q (upd H a (DV P w a (putD xs k b v)))
section
variable {X : Cx} {o i e f : Expr} {pos apos cpos : Pos} {td ty tx : L2.TE} (K : PySem.W.Frag) (P : Program) (w : World)
theorem set_dv (hu : X.A.units + 64 < cLine) (hK : X.K = K := by rfl) (hP : X.prog = P := by rfl) (hw : X.w = w := by rfl) : PSet X (rSetDV K P w) := by
  subst hK hP hw
  intro pins s σ H o i v ov iv u Q I ro ri rv h
  obtain ⟨a, b, xs, k, rfl, rfl, g, hk, kb, hl, q⟩ := h
  cases ro
  cases ri
  exact dv_setItem (nine hu) I g hk kb hl rv fun s' I' => ⟨_, I', q⟩
theorem pe_dvget_ (hu : X.A.units + 64 < cLine) (ho : PE X o td) (hi : PE X i ty) (hs : NoSl i) (hK : X.K = K := by rfl) (hP : X.prog = P := by rfl) (hw : X.w = w := by rfl) : PE X (.Subscript o i pos) (tDVGet K P w td ty) := by
  subst hK hP hw
  exact pe_dvget (nine hu) ho hi hs
theorem pc_dvin_ (hu : X.A.units + 64 < cLine) (hi : PE X i ty) (ho : PE X o td) (hK : X.K = K := by rfl) (hP : X.prog = P := by rfl) (hw : X.w = w := by rfl) : PC X .In i o (tDVIn K P w ty td) := by
  subst hK hP hw
  exact pc_dvin (nine hu) hi ho
theorem pe_dvget2_ (hu : X.A.units + 64 < cLine) (ho : PE X o td) (he : PE X e ty) (hf : PE X f tx) (m : M2 X o "get" apos e f cpos) (hK : X.K = K := by rfl) (hP : X.prog = P := by rfl) (hw : X.w = w := by rfl) : PE X (.Call (.Attribute o "get" apos) [e, f] [] cpos) (tDVGet2 K P w td ty tx) := by
  subst hK hP hw
  exact pe_dvget2 (nine hu) ho he hf m
theorem pe_dvnew_ (hP : X.prog = P := by rfl) (hw : X.w = w := by rfl) : PE X (.Dict [] [] pos) (tDVNew P w) := by
  subst hP hw
  exact pe_dvnew
end
end St
namespace St
open PySem PySem.Spec PyProof.Rows L2
/-! ### walks over the keys of such a dict -/
def ItV (P : Program) (w : World) (d : Addr) (o : Obj) (xs : List DEnt) : It :=
  ⟨fun i H => H d = some (.frz o (DV P w d xs)) ∧ i < xs.length, fun i H x H' => H' = H ∧ ∃ k b v, xs[i]? = some (k, b, v) ∧ x = .ref b, fun i H => H d = some (.frz o (DV P w d xs)) ∧ xs.length ≤ i⟩
section
variable {X : Cx} {pins : List (Addr × Obj)} {σ : L2.St} {H : Hp} {s : Shared} {d : Addr} {xs : List DEnt} {o : Obj}
theorem rel_get {xs : List DEnt} {vs : List (NestedKey × Addr × Value)} (r : EntRel xs vs) : ∀ {i : Nat} {k : NestedKey} {b : Addr} {v : V}, xs[i]? = some (k, b, v) → ∃ u, vs[i]? = some (k, b, u) := by
  induction r with
  | nil => intro i k b v h; cases h
  | @cons p q l m h t ih =>
    intro i k b v e
    cases i with
    | zero =>
      cases Option.some.inj (show some p = some (k, b, v) from e)
      obtain ⟨h1, h2, _⟩ := h
      obtain ⟨q1, q2, q3⟩ := q
      cases h1
      cases h2
      exact ⟨q3, rfl⟩
    | succ i => exact ih e
theorem frzV (I : Inv X pins σ H s) (h : H d = some (.frz o (DV X.prog X.w d xs))) :
    (d == sysModules) = false ∧ s.heap.get? d = some o ∧ o.ExactDict ∧ ∃ (es : Array DictEntry) (ep : Nat), o.data = .dict es ep ∧ es.size = xs.length ∧
      ∀ (i : Nat) (k : NestedKey) (b : Addr) (v : V), xs[i]? = some (k, b, v) → ∃ (en : DictEntry), es[i]? = some en ∧ en.key = .ref b := by
  obtain ⟨hd, ⟨z, hs, vs, rel, o', es, ep, ho, hx, hdt, he, _⟩, _⟩ := I.hok d _ h
  rw [hd] at ho
  cases ho
  refine ⟨hs, hd, hx, es, ep, hdt, ?_, fun i k b v e => ?_⟩
  · have l1 : es.size = vs.length := size_of_entries he
    have l2 := rel.len
    omega
  · obtain ⟨u, hu⟩ := rel_get rel e
    have q := entry_at he i
    rw [hu] at q
    exact ⟨_, q, rfl⟩
theorem turn_keysV {P : Program} {w : World} {K : PySem.W.Frag} {tg : Expr} {es : Array DictEntry} {ep : Nat} (it : Addr) (hod : o.data = .dict es ep) : Turn P w K tg (ItV P w d o xs) [it] it (fun i h => h.IsKeyIter it d i xs.length ep) where
  mem := by simp
  obj := fun i h st b hb => by
    have e : b = it := by simpa using hb
    subst e
    obtain ⟨oi, e, c, dd⟩ := st
    exact ⟨oi, e, fun v z => by rw [dd] at z; cases z⟩
  keep := fun i h h' st k => st.at fun oi e => k it (by simp) oi e
  item := by
    intro X hP hw hK hc i pins s σ H E I hf st hg
    subst hP hw hK
    obtain ⟨hd, hi⟩ := hg
    obtain ⟨f0, f1, f2, f3, f4, f5⟩ := hf it (by simp)
    obtain ⟨hs, hgd, hx, es', ep', hdt, hsz, ent⟩ := frzV I hd
    obtain ⟨rfl, rfl⟩ := dict_ep hod hdt
    obtain ⟨⟨k, b, v⟩, hkv⟩ : ∃ p, xs[i]? = some p := ⟨xs[i], List.getElem?_eq_getElem hi⟩
    obtain ⟨en, hen, hkey⟩ := ent i k b v hkv
    refine next_key_item st hgd hdt hsz hen fun h' st' sb => ?_
    have I1 : Inv X pins σ H { s with heap := h' } := I.turned (t' := s.toks) (fun b ob hb e => (sb.2 b hb).trans e) f0 f1 f3 f4 f5
    obtain ⟨oi, e, c, dd⟩ := id st'
    exact ⟨en.key, rfl, go_of (s := { s with heap := h' }) e c dd (by decide) ⟨.ref b, H, I1, hkey, ⟨rfl, k, b, v, hkv, rfl⟩, st', fun b hb => (hf b hb).1⟩⟩
  done := by
    intro X hP hw hK hc i pins s σ H E I hf st hg
    subst hP hw hK
    obtain ⟨hd, hi⟩ := hg
    obtain ⟨f0, f1, f2, f3, f4, f5⟩ := hf it (by simp)
    obtain ⟨hs, hgd, hx, es', ep', hdt, hsz, ent⟩ := frzV I hd
    obtain ⟨rfl, rfl⟩ := dict_ep hod hdt
    exact next_key_end (I.ok.hd hc) st hgd hdt hsz hi fun h' eb => ⟨rfl, I.turned (t' := s.toks) (fun b ob hb e => eb b ob hb e) f0 f1 f3 f4 f5⟩
  self := fun A i s Q E st h => by
    refine wpAny_pyIter_slot st.typeIs F.slot_dict_keyiterator_iter (wpAny_call_entry F.slot_dict_keyiterator_iter st.typeIs F.entry_dict_keyiterator_iter ?_ (F.args_dict_keyiterator_iter_1 _))
    show wpAny _ _ (ret (.ref it)) _ _ s
    exact wpAny_pure ⟨_, rfl, "dict_keyiterator", _, st.typeIs, F.slot_dict_keyiterator_next.lookup, h⟩
end
/-- for k in d: the dict is locked from then on (it is read only) -/
def iKeysV (P : Program) (w : World) (td : L2.TE) : TI := fun σ H R => td σ H fun x H1 => ∃ d xs, x = .ref d ∧
  ((H1 d = some (DV P w d xs) ∧ ∀ od, R (ItV P w d od xs) (upd H1 d (.frz od (DV P w d xs)))) ∨ ∃ od, H1 d = some (.frz od (DV P w d xs)) ∧ R (ItV P w d od xs) H1)
section
variable {X : Cx} {tg e : Expr} {td : L2.TE}
theorem pi_keysV (he : PE X e td) : PI X tg e (iKeysV X.prog X.w td) := by
  refine ⟨fun pins s σ H R I h => ?_⟩
  refine thn (he.run pins s σ H _ I h) fun u s1 ⟨x, H1, I1, rx, d, xs, ex, q⟩ => ?_
  subst ex
  obtain rfl : u = Value.ref d := rx
  rcases q with ⟨hd, q⟩ | ⟨od, hd, q⟩
  · obtain ⟨od, I2⟩ := I1.lock hd True.intro
    obtain ⟨hs, hgd, hx, es, ep, hdt, hsz, ent⟩ := frzV I2 upd_same
    refine iter_keys hs hgd hx hdt (pi_one (tk := s1.toks) I2 _ (turn_keysV _ hdt) ⟨_, Heap.get?_push_size _ rfl, rfl, ?_⟩ (q od))
    rw [hsz] <;> rfl
  · obtain ⟨hs, hgd, hx, es, ep, hdt, hsz, ent⟩ := frzV I1 hd
    refine iter_keys hs hgd hx hdt (pi_one (tk := s1.toks) I1 _ (turn_keysV _ hdt) ⟨_, Heap.get?_push_size _ rfl, rfl, ?_⟩ q)
    rw [hsz] <;> rfl
end
/-- a loop over the keys -/
theorem for_keysV {P : Program} {w : World} {d : Addr} {o : Obj} {xs : List DEnt} {g : TG} {tb : TS} {D : Ends} {σ : L2.St} {H : Hp} (Pv : Nat → L2.St → Hp → Prop) (h0 : Pv 0 σ H) (hl : ∀ i σ H, i ≤ xs.length → Pv i σ H → H d = some (.frz o (DV P w d xs)))
    (hs : ∀ i k b v σ H, xs[i]? = some (k, b, v) → Pv i σ H → g (.ref b) σ H fun σ2 H2 => tb { D with nx := Pv (i + 1), ct := Pv (i + 1), bk := D.nx } σ2 H2) (hd : ∀ σ H, Pv xs.length σ H → D.nx σ H) :
    ∃ W : Nat → Nat → L2.St → Hp → Prop, (∃ m, W 0 m σ H) ∧ ∀ i m σ H, W i m σ H →
      ((ItV P w d o xs).stop i H ∧ D.nx σ H) ∨ ((ItV P w d o xs).go i H ∧ ∃ Nx : L2.St → Hp → Prop, (∀ σ' H', Nx σ' H' → ∃ m', m' < m ∧ W (i + 1) m' σ' H') ∧
        ∀ x H', (ItV P w d o xs).yld i H x H' → g x σ H' fun σ2 H2 => tb { D with nx := Nx, ct := Nx, bk := D.nx } σ2 H2) := by
  refine ⟨fun i m σ H => m = xs.length - i ∧ i ≤ xs.length ∧ Pv i σ H, ⟨xs.length, by simp, Nat.zero_le _, h0⟩, ?_⟩
  rintro i m σ H ⟨rfl, hi, p⟩
  have q := hl i σ H hi p
  by_cases hlt : i < xs.length
  · refine .inr ⟨⟨q, hlt⟩, Pv (i + 1), fun σ' H' p' => ⟨xs.length - (i + 1), by omega, rfl, hlt, p'⟩, fun x H' y => ?_⟩
    obtain ⟨rfl, k, b, v, e, rfl⟩ := y
    exact hs i k b v σ _ e p
  · have e : i = xs.length := by omega
    subst e
    exact .inl ⟨⟨q, Nat.le_refl _⟩, hd σ H p⟩
section
variable {X : Cx} {tg e : Expr} {td : L2.TE} (P : Program) (w : World)
theorem pi_keysV_ (he : PE X e td) (hP : X.prog = P := by rfl) (hw : X.w = w := by rfl) : PI X tg e (iKeysV P w td) := by
  subst hP hw
  exact pi_keysV he
end
end St
namespace St
open PySem PySem.Spec PyProof.Rows L2
/-! ### {k: v} with a tuple as its key -/
section
variable {prog : Program} {w : World} {K : Type} [DecidableEq K] {knd : HeapKind prog w K} {A : Around} {E : Value → Shared → Prop}
theorem disp_one {env : Env} {ke ve : Expr} {pos : Pos} {s : Shared} {Q : Value → Shared → Prop} (hu : knd.room A)
    (h : wpAny (model prog w) A (evalPairs (pairTrees [some ke] [ve] env pos)) (fun vs s₁ => ∃ ps, CarriesH knd s₁.heap vs ps ∧ s₁.heap.DictOfH knd s.heap.objs.size [] ∧
      ∀ h' tk, h'.DictOfH knd s.heap.objs.size (storedAllH [] ps) → Heap.SameBut s.heap.objs.size s₁.heap h' → Q (.ref s.heap.objs.size) { s₁ with heap := h', toks := tk }) E
      { s with heap := s.heap.push { cls := .type "dict", data := .dict #[] } }) :
    wpAny (model prog w) A (eval (.Dict [some ke] [ve] pos) env) Q E s := by
  have hs := zip_pairTrees [some ke] [ve] env pos rfl rfl
  have hl := pairTrees_length [some ke] [ve] env pos rfl rfl
  rw [arm_eval_Dict, hs, dictDisplay_pairs (pairTrees [some ke] [ve] env pos) (by intro z; rw [z] at hl; cases hl) (by rw [hl]; show 1 < 17; decide)]
  exact wpAny_bind (wpAny_standAt (wpAny_bind (wpAny_subDictH (knd := knd) (Q := fun d s' => wpAny (model prog w) A (pure (Value.ref d)) Q E s') hu (by rw [hl]; show 1 ≤ 15; decide)
    (wpAny_mono h (fun vs s₁ h₁ => by obtain ⟨ps, hc, hm, hq⟩ := h₁; exact ⟨ps, hc, hm, fun h' tk a b => wpAny_pure (hq h' tk a b)⟩) fun _ _ e => e))))
end
def tDVOne (K : PySem.W.Frag) (P : Program) (w : World) (tk tv : L2.TE) : L2.TE := fun σ H Q => ∀ p, H p = none → L2.tPairs [(tk, tv)] σ (upd H p (DV P w p [])) fun ps H2 => ∃ b k y, ps = [(.ref b, y)] ∧ H2 p = some (DV P w p []) ∧ NkAt K H2 b k ∧ Q (.ref p) (upd H2 p (DV P w p [(k, b, y)]))
theorem pe_dvone {X : Cx} {pos : Pos} {ke ve : Expr} {tk tv : L2.TE} (hu : X.A.units + 9 < cLine) (h : PPs X pos [some ke] [ve] [(tk, tv)]) : PE X (.Dict [some ke] [ve] pos) (tDVOne X.K X.prog X.w tk tv) := by
  refine ⟨fun pins s σ H Q I q => ?_⟩
  have hn := I.hok.fresh (Nat.le_refl s.heap.objs.size)
  have I1 := I.laid (a := s.heap.objs.size) (o := DV X.prog X.w s.heap.objs.size []) (h' := s.heap.push { cls := .type "dict", data := .dict #[] }) (t' := s.toks) (fun _ _ q => Heap.get?_push_of_some _ q) (Nat.le_refl _)
    (dv_at (Nat.zero_le _) (beq_eq_false_iff_ne.mpr (Ne.symm (Nat.ne_of_lt I.big))) .nil (Heap.get?_push_size _ rfl) ⟨rfl, rfl, rfl⟩ rfl (es := #[]) rfl List.nodup_nil)
  refine disp_one (knd := nestedKind X.prog X.w) (by show X.A.units + 8 < cLine; omega) (thn (h.run pins _ σ _ _ I1 (q _ hn)) fun ws s2 ⟨ps, H2, I2, rel, b, k, y, ep, e, kb, q2⟩ => ?_)
  subst ep
  cases rel with
  | @cons p r l m h1 t =>
    cases t
    obtain ⟨r1, r2⟩ := r
    obtain ⟨ra, rb⟩ := h1
    cases (show r1 = Value.ref b from ra)
    obtain ⟨z, hd, vs0, r0, dd⟩ := dv_rd I2 ⟨.inl e, fun x hx => by cases hx⟩
    cases r0
    refine ⟨[(k, b, r2)], ⟨rfl, rfl, nk_key I2 kb, True.intro⟩, dd, fun h' tk dd' hs => ⟨.ref s.heap.objs.size, _, ?_, rfl, q2⟩⟩
    obtain ⟨o, es, ep, hq, g2, g3, g4, _, g5⟩ := dd'
    exact d_write I2 (by rw [e]; exact True.intro) hs ⟨o, hq⟩ (dv_at (by show 1 ≤ sizeLine; decide) hd (.cons ⟨rfl, rfl, rb⟩ .nil) hq g2 g3 g4 g5)
theorem pe_dvone_ {X : Cx} {pos : Pos} {ke ve : Expr} {tk tv : L2.TE} (K : PySem.W.Frag) (P : Program) (w : World) (hu : X.A.units + 64 < cLine) (h : PPs X pos [some ke] [ve] [(tk, tv)]) (hK : X.K = K := by rfl) (hP : X.prog = P := by rfl) (hw : X.w = w := by rfl) : PE X (.Dict [some ke] [ve] pos) (tDVOne K P w tk tv) := by
  subst hK hP hw
  exact pe_dvone (nine hu) h
end St
namespace St
open PySem PySem.Spec PyProof.Rows L2
/-! ### fillings of a text some signs of which were not read -/
/-- the signs that can stand at a sign: one that was read, or not -/
def atS : Option Bool → List Bool
  | none => [false, true]
  | some b => [b]
abbrev SRow := SR St3
def stepR (m : Nat) (r : SRow) (o : Option Bool) : SRow := r.foldl (fun later x => (atS o).foldl (fun later b => addR later (nxS m x.1 b) ((valR r x.1).getD 0)) later) []
/-- the row behind so many signs -/
def rowAt (m : Nat) (l : List (Option Bool)) (i : Nat) : SRow := (l.take i).foldl (stepR m) [((0, 0, 0), 1)]
theorem rowAt_succ (m : Nat) {l : List (Option Bool)} {i : Nat} {o : Option Bool} (h : l[i]? = Option.some o) : rowAt m l (i + 1) = stepR m (rowAt m l i) o := by
  unfold rowAt
  rw [take_more h, List.foldl_append]
  rfl
theorem step_adds (m : Nat) (r : SRow) (o : Option Bool) (q : SRow) (later : SRow) : q.foldl (fun later x => (atS o).foldl (fun later b => addR later (nxS m x.1 b) ((valR r x.1).getD 0)) later) later = adds later (q.flatMap fun x => (atS o).map fun b => (nxS m x.1 b, (valR r x.1).getD 0)) := by
  unfold adds
  rw [List.flatMap_def, List.foldl_flatten, List.foldl_map]
  congr 1
  funext later x
  rw [List.foldl_map]
theorem step_facts (m : Nat) {r : SRow} (h : (keysR r).Nodup) (o : Option Bool) : (keysR (stepR m r o)).Nodup ∧ (∀ g, wsum g (stepR m r o) = wsum (fun t => ((atS o).map fun b => g (nxS m t b)).sum) r) ∧ ∀ u, u ∈ keysR (stepR m r o) ↔ ∃ t ∈ keysR r, ∃ b ∈ atS o, nxS m t b = u := by
  unfold stepR
  rw [step_adds]
  obtain ⟨h1, h2, h3⟩ := adds_facts (r.flatMap fun x => (atS o).map fun b => (nxS m x.1 b, (valR r x.1).getD 0)) (r := []) List.nodup_nil
  refine ⟨h1, fun g => ?_, fun u => ?_⟩
  · rw [h2, sum_flatMap]
    show 0 + _ = _
    rw [Nat.zero_add]
    unfold wsum
    congr 1
    refine List.map_congr_left fun x hx => ?_
    rw [valR_mem h (show (x.1, x.2) ∈ r from hx), List.map_map]
    show ((atS o).map fun b => x.2 * g (nxS m x.1 b)).sum = x.2 * ((atS o).map fun b => g (nxS m x.1 b)).sum
    rcases o with _ | b
    · simp [atS, Nat.mul_add]
    · simp [atS]
  · rw [h3]
    constructor
    · rintro (z | z)
      · cases z
      · obtain ⟨y, hy, rfl⟩ := List.mem_map.mp z
        obtain ⟨x, hx, hy⟩ := List.mem_flatMap.mp hy
        obtain ⟨b, hb, rfl⟩ := List.mem_map.mp hy
        exact ⟨x.1, List.mem_map.mpr ⟨x, hx, rfl⟩, b, hb, rfl⟩
    · rintro ⟨t, ht, b, hb, rfl⟩
      obtain ⟨x, hx, rfl⟩ := List.mem_map.mp ht
      refine .inr (List.mem_map.mpr ⟨_, List.mem_flatMap.mpr ⟨x, hx, List.mem_map.mpr ⟨b, hb, rfl⟩⟩, rfl⟩)
/-- all texts that have the signs that were read, ascending -/
def expand (l : List (Option Bool)) : List (List Bool) := l.foldl (fun some o => some.flatMap fun f => (atS o).map fun b => f ++ [b]) [[]]
theorem expand_snoc (l : List (Option Bool)) (o : Option Bool) : expand (l ++ [o]) = (expand l).flatMap fun f => (atS o).map fun b => f ++ [b] := by
  unfold expand
  rw [List.foldl_append]
  rfl
def Fit : List (Option Bool) → List Bool → Prop
  | [], [] => True
  | o :: l, b :: f => b ∈ atS o ∧ Fit l f
  | _, _ => False
theorem fit_len : ∀ {l : List (Option Bool)} {f : List Bool}, Fit l f → f.length = l.length
  | [], [], _ => rfl
  | _ :: l, _ :: f, h => congrArg (· + 1) (fit_len (l := l) (f := f) h.2)
  | [], _ :: _, h => h.elim
  | _ :: _, [], h => h.elim
theorem fit_app : ∀ {l k : List (Option Bool)} {f g : List Bool}, Fit l f → (Fit (l ++ k) (f ++ g) ↔ Fit k g)
  | [], _, [], _, _ => Iff.rfl
  | _ :: l, k, _ :: f, g, h => ⟨fun z => (fit_app h.2).mp z.2, fun z => ⟨h.1, (fit_app h.2).mpr z⟩⟩
  | [], _, _ :: _, _, h => h.elim
  | _ :: _, _, [], _, h => h.elim
theorem fit_split : ∀ {l k : List (Option Bool)} {f : List Bool}, Fit (l ++ k) f → Fit l (f.take l.length) ∧ Fit k (f.drop l.length)
  | [], _, f, h => ⟨trivial, h⟩
  | _ :: l, k, _ :: f, h => ⟨⟨h.1, (fit_split h.2).1⟩, (fit_split (l := l) h.2).2⟩
  | _ :: _, _, [], h => h.elim
theorem mem_expand (f : List Bool) : ∀ (l : List (Option Bool)), f ∈ expand l ↔ Fit l f := by
  suffices H : ∀ (n : Nat) (l : List (Option Bool)) (f : List Bool), l.length = n → (f ∈ expand l ↔ Fit l f) from fun l => H _ l f rfl
  intro n
  induction n with
  | zero =>
    intro l f h
    cases List.length_eq_zero_iff.mp h
    cases f with
    | nil => exact ⟨fun _ => trivial, fun _ => List.mem_singleton.mpr rfl⟩
    | cons b f => exact ⟨fun z => (by simp [expand] at z), fun z => z.elim⟩
  | succ n ih =>
    intro l f h
    rcases snocL l with rfl | ⟨p, o, rfl⟩
    · cases h
    rw [List.length_append, List.length_singleton] at h
    rw [expand_snoc]
    constructor
    · intro z
      obtain ⟨g, hg, z⟩ := List.mem_flatMap.mp z
      obtain ⟨b, hb, rfl⟩ := List.mem_map.mp z
      exact (fit_app ((ih p g (by omega)).mp hg)).mpr ⟨hb, trivial⟩
    · intro z
      have hl := fit_len z
      obtain ⟨z1, z2⟩ := fit_split z
      rw [List.length_append, List.length_singleton] at hl
      have e : f = f.take p.length ++ f.drop p.length := (List.take_append_drop _ _).symm
      have e2 : (f.drop p.length).length = 1 := by rw [List.length_drop]; omega
      obtain ⟨b, hb⟩ := List.length_eq_one_iff.mp e2
      rw [hb] at z2 e
      exact List.mem_flatMap.mpr ⟨f.take p.length, (ih p _ (by omega)).mpr z1, List.mem_map.mpr ⟨b, z2.1, e.symm⟩⟩
theorem fit_get : ∀ {l : List (Option Bool)} {f : List Bool}, Fit l f → ∀ {i : Nat} {o : Option Bool}, l[i]? = some o → ∃ b ∈ atS o, f[i]? = some b
  | [], [], _, i, o, h => by simp at h
  | o' :: l, b :: f, hf, 0, o, h => by
    cases Option.some.inj (show some o' = some o from h)
    exact ⟨b, hf.1, rfl⟩
  | o' :: l, b :: f, hf, i + 1, o, h => fit_get (l := l) (f := f) hf.2 (i := i) (by simpa using h)
  | [], _ :: _, h, _, _, _ => h.elim
  | _ :: _, [], h, _, _, _ => h.elim
/-- what a row stands for -/
theorem row_facts (m : Nat) (l : List (Option Bool)) : ∀ i, i ≤ l.length → (keysR (rowAt m l i)).Nodup ∧ (∀ g : St3 → Nat, wsum g (rowAt m l i) = ((expand (l.take i)).map fun f => g (run m AtE f)).sum) ∧ ∀ u, u ∈ keysR (rowAt m l i) ↔ ∃ f ∈ expand (l.take i), run m AtE f = u
  | 0, _ => by
    refine ⟨by simp [rowAt, keysR], fun g => by simp [rowAt, wsum, expand, run], fun u => ?_⟩
    simp [rowAt, keysR, expand, run]
    exact eq_comm
  | i + 1, h => by
    obtain ⟨h1, h2, h3⟩ := row_facts m l i (by omega)
    have e : l[i]? = some l[i] := List.getElem?_eq_getElem (by omega)
    obtain ⟨q1, q2, q3⟩ := step_facts m h1 l[i]
    rw [rowAt_succ m e, take_more e, expand_snoc]
    refine ⟨q1, fun g => ?_, fun u => ?_⟩
    · rw [q2, h2, sum_flatMap]
      congr 1
      refine List.map_congr_left fun f _ => ?_
      rw [List.map_map]
      congr 1
      refine List.map_congr_left fun b _ => ?_
      show _ = g (run m AtE (f ++ [b]))
      rw [run_app]
      rfl
    · rw [q3]
      constructor
      · rintro ⟨t, ht, b, hb, rfl⟩
        obtain ⟨f, hf, rfl⟩ := (h3 t).mp ht
        exact ⟨f ++ [b], List.mem_flatMap.mpr ⟨f, hf, List.mem_map.mpr ⟨b, hb, rfl⟩⟩, by rw [run_app]; rfl⟩
      · rintro ⟨f', hf0, rfl⟩
        obtain ⟨f, hf, z⟩ := List.mem_flatMap.mp hf0
        obtain ⟨b, hb, rfl⟩ := List.mem_map.mp z
        exact ⟨run m AtE f, (h3 _).mpr ⟨f, hf, rfl⟩, b, hb, by rw [run_app]; rfl⟩
/-- all fillings that are rows of words, ascending -/
def filled (m : Nat) (l : List (Option Bool)) : List (List Bool) := (expand l).filter fun f => run m AtE f = AtE
theorem fillings_count (m : Nat) (l : List (Option Bool)) : (valR (rowAt m l l.length) AtE).getD 0 = (filled m l).length := by
  obtain ⟨h1, h2, _⟩ := row_facts m l l.length (Nat.le_refl _)
  rw [← wsum_one h1, h2, List.take_length]
  exact count_filter (expand l) fun f => run m AtE f = AtE
/-! ### what can still come to an end -/
/-- the standings, behind all but j signs, of fillings that come to an end -/
def lvR (m : Nat) (l : List (Option Bool)) : Nat → List St3
  | 0 => if (valR (rowAt m l l.length) AtE).isSome then [AtE] else []
  | j + 1 => (keysR (rowAt m l (l.length - (j + 1)))).filter fun t => (atS ((l[l.length - (j + 1)]?).getD none)).any fun b => decide (nxS m t b ∈ lvR m l j)
theorem lv_mem (m : Nat) (l : List (Option Bool)) : ∀ j, j ≤ l.length → ∀ t, t ∈ lvR m l j ↔ t ∈ keysR (rowAt m l (l.length - j)) ∧ ∃ g, Fit (l.drop (l.length - j)) g ∧ run m t g = AtE
  | 0, _, t => by
    rw [lvR, Nat.sub_zero, List.drop_length]
    constructor
    · intro h
      split at h
      · rename_i c
        rw [List.mem_singleton.mp h]
        exact ⟨valR_some.mp c, [], trivial, rfl⟩
      · cases h
    · rintro ⟨h1, g, h2, h3⟩
      cases g with
      | cons => exact h2.elim
      | nil =>
        have : t = AtE := h3
        subst this
        rw [if_pos (valR_some.mpr h1)]
        exact List.mem_singleton.mpr rfl
  | j + 1, hj, t => by
    have ih := lv_mem m l j (by omega)
    obtain ⟨i, hi⟩ : ∃ i, i = l.length - (j + 1) := ⟨_, rfl⟩
    have e1 : l.length - j = i + 1 := by omega
    have e2 : l[i]? = some l[i] := List.getElem?_eq_getElem (by omega)
    rw [lvR, ← hi, List.mem_filter, e2, List.any_eq_true]
    rw [e1] at ih
    obtain ⟨k1, _, _⟩ := row_facts m l i (by omega)
    have key := (step_facts m k1 l[i]).2.2
    rw [← rowAt_succ m e2] at key
    have ed : l.drop i = l[i] :: l.drop (i + 1) := List.drop_eq_getElem_cons (by omega)
    rw [ed]
    constructor
    · rintro ⟨h1, b, hb, h2⟩
      obtain ⟨h3, g, h4, h5⟩ := (ih _).mp (of_decide_eq_true h2)
      exact ⟨h1, b :: g, ⟨hb, h4⟩, h5⟩
    · rintro ⟨h1, g, h2, h3⟩
      cases g with
      | nil => exact h2.elim
      | cons b g => exact ⟨h1, b, h2.1, decide_eq_true ((ih _).mpr ⟨(key _).mpr ⟨t, h1, b, h2.1, rfl⟩, g, h2.2, h3⟩)⟩
theorem lv_nodup (m : Nat) (l : List (Option Bool)) : ∀ j, (lvR m l j).Nodup
  | 0 => by
    rw [lvR]
    split <;> simp
  | j + 1 => List.Nodup.sublist List.filter_sublist (row_facts m l _ (Nat.sub_le _ _)).1
/-- the same by fillings: the standings behind i signs -/
theorem lv_filled (m : Nat) (l : List (Option Bool)) (i : Nat) (hi : i ≤ l.length) (t : St3) : t ∈ lvR m l (l.length - i) ↔ ∃ f ∈ filled m l, run m AtE (f.take i) = t := by
  rw [lv_mem m l _ (Nat.sub_le _ _), show l.length - (l.length - i) = i by omega, (row_facts m l i hi).2.2]
  have hl : (l.take i).length = i := by rw [List.length_take]; omega
  constructor
  · rintro ⟨⟨f, h1, rfl⟩, g, h2, h3⟩
    have hf := (mem_expand f _).mp h1
    have hfl := fit_len hf
    rw [hl] at hfl
    refine ⟨f ++ g, List.mem_filter.mpr ⟨(mem_expand _ _).mpr ?_, decide_eq_true ?_⟩, ?_⟩
    · have := (fit_app (k := l.drop i) (g := g) hf).mpr h2
      rwa [List.take_append_drop] at this
    · rw [run_app]; exact h3
    · rw [List.take_left' hfl]
  · rintro ⟨f, h1, rfl⟩
    obtain ⟨h2, h3⟩ := List.mem_filter.mp h1
    have hf := (mem_expand f _).mp h2
    have h3 := of_decide_eq_true h3
    rw [← List.take_append_drop i l] at hf
    obtain ⟨a, b⟩ := fit_split hf
    rw [hl] at a b
    refine ⟨⟨_, (mem_expand _ _).mpr a, rfl⟩, _, b, ?_⟩
    rw [← run_app, List.take_append_drop]
    exact h3
theorem row_std (m : Nat) (l : List (Option Bool)) {i : Nat} (hi : i ≤ l.length) : ∀ t ∈ keysR (rowAt m l i), Std m t := fun t ht => by
  obtain ⟨f, _, rfl⟩ := ((row_facts m l i hi).2.2 t).mp ht
  exact std_run f (.inl rfl)
theorem row_len {m : Nat} (h64 : m ≤ 64) (l : List (Option Bool)) {i : Nat} (hi : i ≤ l.length) : (rowAt m l i).length ≤ 1536 := by
  have := std_len h64 (row_facts m l i hi).1 (row_std m l hi)
  rwa [keysR, List.length_map] at this
theorem lv_std (m : Nat) (l : List (Option Bool)) (j : Nat) (hj : j ≤ l.length) : ∀ t ∈ lvR m l j, Std m t := fun t ht => row_std m l (Nat.sub_le _ _) t ((lv_mem m l j hj t).mp ht).1
def holes (l : List (Option Bool)) : Nat := (l.filter fun o => o == none).length
theorem flat_len (xs : List (List Bool)) (o : Option Bool) : (xs.flatMap fun f => (atS o).map fun b => f ++ [b]).length = xs.length * (if o = none then 2 else 1) := by
  induction xs with
  | nil => simp
  | cons a xs ih =>
    rw [List.flatMap_cons, List.length_append, ih, List.length_map, List.length_cons, Nat.add_mul]
    rcases o with _ | b
    · simp [atS]; omega
    · simp [atS]; omega
theorem expand_len (l : List (Option Bool)) : (expand l).length = 2 ^ holes l := by
  suffices H : ∀ (n : Nat) (l : List (Option Bool)), l.length = n → (expand l).length = 2 ^ holes l from H _ l rfl
  intro n
  induction n with
  | zero =>
    intro l h
    cases List.length_eq_zero_iff.mp h
    rfl
  | succ n ih =>
    intro l h
    rcases snocL l with rfl | ⟨p, o, rfl⟩
    · cases h
    rw [List.length_append, List.length_singleton] at h
    rw [expand_snoc, flat_len, ih p (by omega)]
    unfold holes
    rw [List.filter_append, List.length_append]
    rcases o with _ | b
    · simp [Nat.pow_succ]
    · simp
theorem holes_take (l : List (Option Bool)) (i : Nat) : holes (l.take i) ≤ holes l := by
  unfold holes
  conv => rhs; rw [← List.take_append_drop i l]
  rw [List.filter_append, List.length_append]
  omega
theorem filled_len (m : Nat) (l : List (Option Bool)) : (filled m l).length ≤ 2 ^ holes l := by
  rw [← expand_len]
  exact List.length_filter_le _ _
theorem expand_mem_len {l : List (Option Bool)} {f : List Bool} (h : f ∈ expand l) : f.length = l.length := fit_len ((mem_expand f l).mp h)
/-- the same signs, some not read -/
def Weak (l l' : List (Option Bool)) : Prop := l'.length = l.length ∧ ∀ (i : Nat) (o : Option Bool), l'[i]? = some o → o = none ∨ l[i]? = some o
theorem weak_refl (l : List (Option Bool)) : Weak l l := ⟨rfl, fun i o h => .inr h⟩
theorem weak_set {l l' : List (Option Bool)} (h : Weak l l') (s : Nat) : Weak l (l'.set s none) := by
  refine ⟨by rw [List.length_set]; exact h.1, fun i o e => ?_⟩
  rw [List.getElem?_set] at e
  split at e
  · split at e
    · exact .inl (Option.some.inj e).symm
    · cases e
  · exact h.2 i o e
theorem holes_set (l : List (Option Bool)) (s : Nat) : holes (l.set s none) ≤ holes l + 1 := by
  unfold holes
  induction l generalizing s with
  | nil => simp
  | cons a l ih =>
    cases s with
    | zero =>
      rw [List.set_cons_zero, List.filter_cons, List.filter_cons]
      split <;> split <;> simp_all
    | succ s =>
      rw [List.set_cons_succ, List.filter_cons, List.filter_cons]
      have := ih s
      split
      · rw [List.length_cons, List.length_cons]
        omega
      · exact this
theorem weak_fit : ∀ {l : List Bool} {l' : List (Option Bool)}, Weak (l.map some) l' → Fit l' l
  | [], [], _ => trivial
  | [], _ :: _, h => by have := h.1; simp at this
  | _ :: _, [], h => by have := h.1; simp at this
  | b :: l, o :: l', h => by
    have h0 := h.2 0 o rfl
    refine ⟨?_, weak_fit ⟨by have := h.1; simpa using this, fun i o e => by have := h.2 (i + 1) o (by simpa using e); simpa using this⟩⟩
    rcases h0 with rfl | h0
    · cases b <;> simp [atS]
    · cases (show some (some b) = some o from by simpa using h0)
      simp [atS]
end St
namespace St
open PySem PySem.Spec PyProof.Rows L2
/-! ### rows as dicts -/
def stV (t : Nat × Nat × Nat) : List V := [.int (t.1 : Nat), .int (t.2.1 : Nat), .int (t.2.2 : Nat)]
def nkS (t : St3) : NestedKey := .tup [.num (t.1 : Nat), .num (t.2.1 : Nat), .num (t.2.2 : Nat)]
theorem nkS_inj {t u : St3} (h : nkS t = nkS u) : t = u := by
  obtain ⟨a, b, c⟩ := t
  obtain ⟨x, y, z⟩ := u
  simp only [nkS, NestedKey.tup.injEq, List.cons.injEq, NestedKey.num.injEq, Int.ofNat_inj, and_true] at h
  obtain ⟨h1, h2, h3⟩ := h
  rw [h1, h2, h3]
theorem nkS_at {K : PySem.W.Frag} {H : Hp} {b : Addr} {t : St3} (h : SqT K H b (stV t)) : NkAt K H b (nkS t) := ⟨.tup h (.cons (.int _) (.cons (.int _) (.cons (.int _) .nil))), by simp [nkS, NestedKey.depth, NestedKey.depthAll]⟩
theorem nkS_of {K : PySem.W.Frag} {H : Hp} {b : Addr} {t : St3} (h : NkAt K H b (nkS t)) : SqT K H b (stV t) := by
  obtain ⟨h, _⟩ := h
  have h : Dp K H (.ref b) (.tuple [.int (t.1 : Nat), .int (t.2.1 : Nat), .int (t.2.2 : Nat)]) := h
  cases h with
  | tup hq hd =>
    cases hd with
    | cons a1 hd =>
      cases hd with
      | cons a2 hd =>
        cases hd with
        | cons a3 hd =>
          cases hd
          cases a1
          cases a2
          cases a3
          exact hq
/-! all but dicts that are not locked stands as it was -/
def SmT (H H' : Hp) : Prop := ∀ b u, H b = some u → (∀ f, u ≠ .ext f) → H' b = some u
theorem SmT.refl (H : Hp) : SmT H H := fun _ _ h _ => h
theorem SmT.trans {A B C : Hp} (h : SmT A B) (k : SmT B C) : SmT A C := fun b u e n => k b u (h b u e n) n
theorem SmT.of {H H' : Hp} (h : Same H H') : SmT H H' := fun b u e _ => h b u e
theorem SmT.dv {P : Program} {w : World} {H : Hp} {d : Addr} {xs : List DEnt} {o : HO} (e : H d = some (DV P w d xs)) : SmT H (upd H d o) := fun b u h n => by
  rw [upd_ne (fun z => by rw [z, e] at h; exact n _ (Option.some.inj h).symm)]
  exact h
theorem SqT.smT {K : PySem.W.Frag} {H H' : Hp} {a : Addr} {xs : List V} (s : SmT H H') (h : SqT K H a xs) : SqT K H' a xs := by
  rcases h with (h | ⟨o, h⟩) | h
  · exact .inl (.inl (s _ _ h fun f z => by cases z))
  · exact .inl (.inr ⟨o, s _ _ h fun f z => by cases z⟩)
  · exact .inr h
theorem SqL.smT {K : PySem.W.Frag} {H H' : Hp} {a : Addr} {xs : List V} (s : SmT H H') (h : SqL K H a xs) : SqL K H' a xs := by
  rcases h with (h | ⟨o, h⟩) | h
  · exact .inl (.inl (s _ _ h fun f z => by cases z))
  · exact .inl (.inr ⟨o, s _ _ h fun f z => by cases z⟩)
  · exact .inr h
mutual
theorem Dp.smT {K : PySem.W.Frag} {H H' : Hp} (s : SmT H H') : ∀ {v : V} {d : PyData}, Dp K H v d → Dp K H' v d
  | _, _, .non => .non
  | _, _, .bl b => .bl b
  | _, _, .int i => .int i
  | _, _, .str x => .str x
  | _, _, .lst h t => .lst (SqL.smT s h) (DpAll.smT s t)
  | _, _, .tup h t => .tup (SqT.smT s h) (DpAll.smT s t)
theorem DpAll.smT {K : PySem.W.Frag} {H H' : Hp} (s : SmT H H') : ∀ {v : List V} {d : List PyData}, DpAll K H v d → DpAll K H' v d
  | _, _, .nil => .nil
  | _, _, .cons h t => .cons (Dp.smT s h) (DpAll.smT s t)
end
theorem NkAt.smT {K : PySem.W.Frag} {H H' : Hp} {b : Addr} {k : NestedKey} (s : SmT H H') (h : NkAt K H b k) : NkAt K H' b k := ⟨Dp.smT s h.1, h.2⟩
/-! all but dicts that are not locked and lists stands as it was -/
def SmU (H H' : Hp) : Prop := ∀ b u, H b = some u → (∀ f, u ≠ .ext f) → (∀ xs, u ≠ .lst xs) → H' b = some u
theorem SmU.of {H H' : Hp} (h : SmT H H') : SmU H H' := fun b u e n _ => h b u e n
theorem SmU.refl (H : Hp) : SmU H H := fun _ _ h _ _ => h
theorem SmU.trans {A B C : Hp} (h : SmU A B) (k : SmU B C) : SmU A C := fun b u e n m => k b u (h b u e n m) n m
theorem SmU.lst {H : Hp} {d : Addr} {xs : List V} {o : HO} (e : H d = some (.lst xs)) : SmU H (upd H d o) := fun b u h n m => by
  rw [upd_ne (fun z => by rw [z, e] at h; exact m _ (Option.some.inj h).symm)]
  exact h
theorem SqT.smU {K : PySem.W.Frag} {H H' : Hp} {a : Addr} {xs : List V} (s : SmU H H') (h : SqT K H a xs) : SqT K H' a xs := by
  rcases h with (h | ⟨o, h⟩) | h
  · exact .inl (.inl (s _ _ h (fun f z => by cases z) fun f z => by cases z))
  · exact .inl (.inr ⟨o, s _ _ h (fun f z => by cases z) fun f z => by cases z⟩)
  · exact .inr h
mutual
theorem nkd_smU {K : PySem.W.Frag} {H H' : Hp} (s : SmU H H') : ∀ (k : NestedKey) (v : V), Dp K H v k.data → Dp K H' v k.data
  | .none, _, h => by
    cases h
    exact .non
  | .num i, _, h => by
    cases h
    exact .int _
  | .text x, _, h => by
    cases h
    exact .str _
  | .tup ks, _, h => by
    cases h with
    | tup hq hd => exact .tup (SqT.smU s hq) (nkds_smU s ks _ hd)
theorem nkds_smU {K : PySem.W.Frag} {H H' : Hp} (s : SmU H H') : ∀ (ks : List NestedKey) (vs : List V), DpAll K H vs (NestedKey.datas ks) → DpAll K H' vs (NestedKey.datas ks)
  | [], _, h => by
    cases h
    exact .nil
  | k :: ks, _, h => by
    cases h with
    | cons h1 h2 => exact .cons (nkd_smU s k _ h1) (nkds_smU s ks _ h2)
end
theorem NkAt.smU {K : PySem.W.Frag} {H H' : Hp} {b : Addr} {k : NestedKey} (s : SmU H H') (h : NkAt K H b k) : NkAt K H' b k := ⟨nkd_smU s k _ h.1, h.2⟩
section
variable {α : Type} [DecidableEq α] (nk : α → NestedKey)
/-- the entries of a dict are such a row -/
abbrev RowRel (K : PySem.W.Frag) (H : Hp) : List DEnt → SR α → Prop := Paired fun e r => e.1 = nk r.1 ∧ e.2.2 = V.int (r.2 : Nat) ∧ NkAt K H e.2.1 (nk r.1)
/-- the dict at d is such a row, locked or not -/
def RD (K : PySem.W.Frag) (P : Program) (w : World) (H : Hp) (d : Addr) (r : SR α) : Prop := ∃ xs, DAt K P w H d xs ∧ RowRel nk K H xs r
/-- the dict at d is such a row, not locked -/
def RW (K : PySem.W.Frag) (P : Program) (w : World) (H : Hp) (d : Addr) (r : SR α) : Prop := ∃ xs, H d = some (DV P w d xs) ∧ RowRel nk K H xs r
/-- the dict at d is such a row, locked -/
def RL (K : PySem.W.Frag) (P : Program) (w : World) (H : Hp) (d : Addr) (r : SR α) : Prop := ∃ od xs, H d = some (.frz od (DV P w d xs)) ∧ RowRel nk K H xs r
end
section
variable {α : Type} [DecidableEq α] {nk : α → NestedKey} {K : PySem.W.Frag} {P : Program} {w : World} {H H' : Hp} {xs : List DEnt} {r : SR α} {d : Addr}
theorem RowRel.val (hi : ∀ a b, nk a = nk b → a = b) (h : RowRel nk K H xs r) (t : α) : valD xs (nk t) = (valR r t).map fun n => V.int (n : Nat) := by
  unfold valD valR
  induction h with
  | nil => rfl
  | @cons e p l m a b ih =>
    rw [List.find?_cons, List.find?_cons]
    by_cases c : p.1 = t
    · have c' : e.1 = nk t := by rw [a.1, c]
      rw [decide_eq_true c, decide_eq_true c']
      exact congrArg some a.2.1
    · have c' : ¬ e.1 = nk t := fun z => c (hi _ _ (a.1.symm.trans z))
      rw [decide_eq_false c, decide_eq_false c']
      exact ih
theorem RowRel.some (hi : ∀ a b, nk a = nk b → a = b) (h : RowRel nk K H xs r) (t : α) : (valD xs (nk t)).isSome = (valR r t).isSome := by
  rw [h.val hi t]
  cases valR r t <;> rfl
theorem RowRel.set (hi : ∀ a b, nk a = nk b → a = b) (h : RowRel nk K H xs r) {t : α} {b : Addr} (n : Nat) (hb : NkAt K H b (nk t)) : RowRel nk K H (putD xs (nk t) b (.int (n : Nat))) (setR r t n) := by
  unfold putD setR
  rw [h.some hi t]
  generalize (valR r t).isSome = vo
  cases vo with
  | true =>
    rw [if_pos rfl, if_pos rfl]
    induction h with
    | nil => exact .nil
    | @cons e p l m a c ih =>
      refine .cons ?_ ih
      by_cases d : p.1 = t
      · have d' : e.1 = nk t := by rw [a.1, d]
        simp only [if_pos d, if_pos d']
        exact ⟨a.1, trivial, a.2.2⟩
      · have d' : ¬ e.1 = nk t := fun z => d (hi _ _ (a.1.symm.trans z))
        simp only [if_neg d, if_neg d']
        exact a
  | false =>
    rw [if_neg (by decide), if_neg (by decide)]
    induction h with
    | nil => exact .cons ⟨rfl, rfl, hb⟩ .nil
    | cons a c ih => exact .cons a ih
theorem RowRel.smT (s : SmT H H') (h : RowRel nk K H xs r) : RowRel nk K H' xs r := by
  induction h with
  | nil => exact .nil
  | cons a b ih => exact .cons ⟨a.1, a.2.1, a.2.2.smT s⟩ ih
theorem RowRel.keys (h : RowRel nk K H xs r) : ∀ x ∈ xs, NkAt K H x.2.1 x.1 := by
  induction h with
  | nil => intro x hx; cases hx
  | @cons e p l m a b ih =>
    intro x hx
    rcases List.mem_cons.mp hx with rfl | hx
    · rw [a.1]
      exact a.2.2
    · exact ih x hx
theorem RowRel.get (h : RowRel nk K H xs r) : ∀ {j : Nat} {k : NestedKey} {b : Addr} {v : V}, xs[j]? = Option.some (k, b, v) → ∃ x, r[j]? = Option.some x ∧ k = nk x.1 ∧ v = .int (x.2 : Nat) ∧ NkAt K H b (nk x.1) := by
  induction h with
  | nil => intro j k b v e; simp at e
  | @cons e p l m a t ih =>
    intro j k b v hj
    cases j with
    | zero =>
      cases Option.some.inj (show Option.some e = Option.some (k, b, v) from hj)
      exact ⟨p, rfl, a.1, a.2.1, a.2.2⟩
    | succ j => exact ih hj
theorem RowRel.len (h : RowRel nk K H xs r) : xs.length = r.length := Paired.length h
theorem RW.rd (h : RW nk K P w H d r) : RD nk K P w H d r := by
  obtain ⟨xs, e, x⟩ := h
  exact ⟨xs, ⟨.inl e, x.keys⟩, x⟩
theorem RL.rd (h : RL nk K P w H d r) : RD nk K P w H d r := by
  obtain ⟨od, xs, e, x⟩ := h
  exact ⟨xs, ⟨.inr ⟨od, e⟩, x.keys⟩, x⟩
theorem RL.smT (s : SmT H H') (h : RL nk K P w H d r) : RL nk K P w H' d r := by
  obtain ⟨od, xs, e, x⟩ := h
  exact ⟨od, xs, s _ _ e fun f z => (by cases z), x.smT s⟩
theorem RW.smT (s : SmT H H') (e : H' d = H d) (h : RW nk K P w H d r) : RW nk K P w H' d r := by
  obtain ⟨xs, z, x⟩ := h
  exact ⟨xs, e.trans z, x.smT s⟩
theorem RD.same (s : Same H H') (h : RD nk K P w H d r) : RD nk K P w H' d r := by
  obtain ⟨xs, ⟨e, z⟩, x⟩ := h
  refine ⟨xs, ⟨?_, (x.smT (.of s)).keys⟩, x.smT (.of s)⟩
  rcases e with e | ⟨o, e⟩
  · exact .inl (s _ _ e)
  · exact .inr ⟨o, s _ _ e⟩
/-- what the dict has at a key -/
theorem RD.at_ (hi : ∀ a b, nk a = nk b → a = b) (h : RD nk K P w H d r) {t : α} {n : Nat} (hv : valR r t = Option.some n) : ∃ xs, DAt K P w H d xs ∧ valD xs (nk t) = Option.some (.int (n : Nat)) := by
  obtain ⟨xs, a, x⟩ := h
  exact ⟨xs, a, by rw [x.val hi, hv]; rfl⟩
/-- a put -/
theorem RW.put (hi : ∀ a b, nk a = nk b → a = b) (h : RW nk K P w H d r) {t : α} {b : Addr} (n : Nat) (hb : NkAt K H b (nk t)) : ∃ xs, H d = Option.some (DV P w d xs) ∧ (∀ x ∈ xs, NkAt K H x.2.1 x.1) ∧ xs.length = r.length ∧ RW nk K P w (upd H d (DV P w d (putD xs (nk t) b (.int (n : Nat))))) d (setR r t n) := by
  obtain ⟨xs, e, x⟩ := h
  exact ⟨xs, e, x.keys, x.len, _, upd_same, (x.set hi n hb).smT (.dv e)⟩
theorem RW.new (d : Addr) : RW nk K P w (upd H d (DV P w d [])) d [] := ⟨[], upd_same, .nil⟩
end
theorem RD.get0 {α : Type} [DecidableEq α] {nk : α → NestedKey} {K : PySem.W.Frag} {P : Program} {w : World} {H : Hp} {d : Addr} {r : SR α} (hi : ∀ a b, nk a = nk b → a = b) (h : RD nk K P w H d r) (t : α) (z : Nat) : ∃ xs, DAt K P w H d xs ∧ (valD xs (nk t)).getD (.int (z : Nat)) = .int (((valR r t).getD z : Nat) : Int) := by
  obtain ⟨xs, a, x⟩ := h
  refine ⟨xs, a, ?_⟩
  rw [x.val hi]
  cases valR r t <;> rfl
theorem RD.get00 {α : Type} [DecidableEq α] {nk : α → NestedKey} {K : PySem.W.Frag} {P : Program} {w : World} {H : Hp} {d : Addr} {r : SR α} (hi : ∀ a b, nk a = nk b → a = b) (h : RD nk K P w H d r) (t : α) : ∃ xs, DAt K P w H d xs ∧ (valD xs (nk t)).getD (.int 0) = .int (((valR r t).getD 0 : Nat) : Int) := RD.get0 hi h t 0
theorem hiS : ∀ a b : St3, nkS a = nkS b → a = b := fun _ _ h => nkS_inj h
/-! texts some signs of which were not read -/
/-- a sign that was read, or not -/
def sgQ : Option Bool → Str
  | none => "?"
  | some b => tx [b]
/-- the code of a sign -/
def cQ : Option Bool → Nat
  | Option.none => 63
  | Option.some false => 48
  | Option.some true => 49
theorem sgQ_code (o : Option Bool) : sgQ o = ⟨#[cQ o]⟩ := by
  rcases o with _ | _ | _ <;> decide +kernel
def txQ (l : List (Option Bool)) : Str := ⟨(l.map cQ).toArray⟩
theorem txQ_list (l : List (Option Bool)) : (txQ l).cps.toList = l.map cQ := by simp [txQ]
theorem txQ_len (l : List (Option Bool)) : (txQ l).length = l.length := by simp [txQ, Str.length]
theorem txQ_size (l : List (Option Bool)) : (txQ l).cps.size = l.length := by simp [txQ]
theorem at_last (us : List V) (v : V) : atI (us ++ [v]) (-1) = Option.some v := by
  unfold atI
  have e : ixN (us ++ [v]).length (-1) = Option.some us.length := by
    unfold ixN
    rw [List.length_append, List.length_singleton, if_neg (by decide), if_pos (by omega)]
    congr 1
    omega
  rw [e]
  show (us ++ [v])[us.length]? = _
  rw [List.getElem?_append_right (Nat.le_refl _), Nat.sub_self]
  rfl
theorem code_sg (b : Bool) : (⟨#[sg b]⟩ : Str) = tx [b] := rfl
section
variable {α : Type} [DecidableEq α] {nk : α → NestedKey} {K : PySem.W.Frag} {P : Program} {w : World} {H H' : Hp} {xs : List DEnt} {r : SR α} {d e : Addr}
theorem RD.lock {od : Obj} (hd : H e = Option.some (DV P w e xs)) (h : RD nk K P w H d r) : RD nk K P w (upd H e (.frz od (DV P w e xs))) d r := by
  obtain ⟨ys, ⟨a, _⟩, x⟩ := h
  have x' := x.smT (SmT.dv (o := .frz od (DV P w e xs)) hd)
  refine ⟨ys, ⟨?_, x'.keys⟩, x'⟩
  by_cases c : d = e
  · subst c
    rcases a with a | ⟨o, a⟩
    · refine .inr ⟨od, ?_⟩
      rw [upd_same]
      rw [hd] at a
      rw [Option.some.inj a]
    · rw [hd] at a
      cases Option.some.inj a
  · rcases a with a | ⟨o, a⟩
    · exact .inl (by rw [upd_ne c]; exact a)
    · exact .inr ⟨o, by rw [upd_ne c]; exact a⟩
theorem RD.smT (s : SmT H H') (k : H' d = H d) (h : RD nk K P w H d r) : RD nk K P w H' d r := by
  obtain ⟨ys, ⟨a, _⟩, x⟩ := h
  have x' := x.smT s
  refine ⟨ys, ⟨?_, x'.keys⟩, x'⟩
  rcases a with a | ⟨o, a⟩
  · exact .inl (k.trans a)
  · exact .inr ⟨o, k.trans a⟩
end
section
variable {α : Type} [DecidableEq α] {nk : α → NestedKey} {K : PySem.W.Frag} {P : Program} {w : World} {H H' : Hp} {xs : List DEnt} {r : SR α} {d e : Addr}
theorem RowRel.smU (s : SmU H H') (h : RowRel nk K H xs r) : RowRel nk K H' xs r := by
  induction h with
  | nil => exact .nil
  | cons a b ih => exact .cons ⟨a.1, a.2.1, a.2.2.smU s⟩ ih
theorem RL.smU (s : SmU H H') (h : RL nk K P w H d r) : RL nk K P w H' d r := by
  obtain ⟨od, xs, e, x⟩ := h
  exact ⟨od, xs, s _ _ e (fun f z => (by cases z)) fun f z => (by cases z), x.smU s⟩
theorem RW.smU (s : SmU H H') (e : H' d = H d) (h : RW nk K P w H d r) : RW nk K P w H' d r := by
  obtain ⟨xs, z, x⟩ := h
  exact ⟨xs, e.trans z, x.smU s⟩
theorem RW.ne {xs : List V} (h : RW nk K P w H d r) (k : H e = Option.some (.lst xs)) : d ≠ e := fun z => by
  obtain ⟨ys, y, _⟩ := h
  rw [z, k] at y
  cases y
theorem RW.nf (h : RW nk K P w H d r) (k : H e = none) : d ≠ e := fun z => by
  obtain ⟨ys, y, _⟩ := h
  rw [z, k] at y
  cases y
end
theorem txQ_in (l : List (Option Bool)) : ∀ c ∈ (txQ l).cps.toList, c ∈ (("01" : Str) ++ ("?" : Str)).cps.toList := fun c hc => by
  rw [txQ_list] at hc
  obtain ⟨o, _, rfl⟩ := List.mem_map.mp hc
  rcases o with _ | _ | _ <;> decide +kernel
theorem tx_in (l : List Bool) : ∀ c ∈ (tx l).cps.toList, c ∈ ("01" : Str).cps.toList := fun c hc => by
  rw [tx_list] at hc
  obtain ⟨o, _, rfl⟩ := List.mem_map.mp hc
  cases o <;> decide +kernel
theorem last_at {ds : List Addr} {n : Nat} (h : ds.length = n + 1) : ∃ dl, ds[n]? = some dl ∧ atI (ds.map V.ref) (-1) = some (.ref dl) := by
  rcases snocL ds with rfl | ⟨g, F, rfl⟩
  · cases h
  · rw [List.length_append, List.length_singleton] at h
    refine ⟨F, by rw [List.getElem?_append_right (by omega), show n - g.length = 0 by omega]; rfl, ?_⟩
    rw [List.map_append]
    exact at_last _ _
theorem ref_at {ds : List Addr} {i : Nat} {d : Addr} (h : ds[i]? = some d) : atI (ds.map V.ref) ((i : Nat) : Int) = some (.ref d) := by
  refine atI_nat ?_
  rw [List.getElem?_map, h]
  rfl
theorem cutQ_to (l : List (Option Bool)) (j : Nat) : cutS (txQ l) none (some (j : Int)) = txQ (l.take j) := by
  apply str_ext
  unfold cutS
  rw [txQ_list, txQ_len, HT.sIx_nat, HT.sIx_none, txQ_list, List.map_take, List.drop_zero, Nat.sub_zero]
  by_cases h : j ≤ l.length
  · rw [Nat.min_eq_left h]
  · rw [Nat.min_eq_right (by omega), List.take_of_length_le (by simp), List.take_of_length_le (by simp; omega)]
theorem cutQ_from (l : List (Option Bool)) (i : Nat) : cutS (txQ l) (some (i : Int)) none = txQ (l.drop i) := by
  apply str_ext
  unfold cutS
  rw [txQ_list, txQ_len, HT.sIx_nat, HT.sIx_none, txQ_list, List.map_drop]
  by_cases h : i ≤ l.length
  · rw [Nat.min_eq_left h, List.take_of_length_le (by simp)]
  · rw [Nat.min_eq_right (by omega), List.drop_eq_nil_of_le (by simp), List.drop_eq_nil_of_le (by simp; omega)]
    simp
theorem txQ_app (a b : List (Option Bool)) : txQ a ++ txQ b = txQ (a ++ b) := by
  apply str_ext
  rw [app_list, txQ_list, txQ_list, txQ_list, List.map_append]
theorem cQ_inj {a b : Option Bool} (h : cQ a = cQ b) : a = b := by
  rcases a with _ | _ | _ <;> rcases b with _ | _ | _ <;> first | rfl | (exact absurd h (by decide))
theorem txQ_inj {a b : List (Option Bool)} (h : txQ a = txQ b) : a = b := by
  have e : a.map cQ = b.map cQ := by rw [← txQ_list, ← txQ_list, h]
  exact (List.map_inj_right (fun _ _ h => cQ_inj h)).mp e
theorem txQ_some (l : List Bool) : txQ (l.map some) = tx l := by
  apply str_ext
  rw [txQ_list, tx_list, List.map_map]
  refine List.map_congr_left fun b _ => ?_
  cases b <;> rfl
theorem txQ_hole : ("?" : Str) = txQ [none] := by decide +kernel
theorem txQ_nil : ("" : Str) = txQ [] := by decide +kernel
end St
namespace St
open PySem PySem.Spec PyProof.Rows L2
/-! ### rows by pairs of numbers, as dicts -/
def nkN (x : Nat × Nat) : NestedKey := .tup [.num (x.1 : Nat), .num (x.2 : Nat)]
theorem hiN : ∀ a b : Nat × Nat, nkN a = nkN b → a = b := fun a b h => by
  simp only [nkN, NestedKey.tup.injEq, List.cons.injEq, NestedKey.num.injEq, Int.ofNat_inj, and_true] at h
  exact Prod.ext h.1 h.2
theorem nkN_at {K : PySem.W.Frag} {H : Hp} {b : Addr} {x : Nat × Nat} (h : SqT K H b [.int (x.1 : Nat), .int (x.2 : Nat)]) : NkAt K H b (nkN x) :=
  ⟨.tup h (.cons (.int _) (.cons (.int _) .nil)), by simp [nkN, NestedKey.depth, NestedKey.depthAll]⟩
theorem nkN_of {K : PySem.W.Frag} {H : Hp} {b : Addr} {x : Nat × Nat} (h : NkAt K H b (nkN x)) : SqT K H b [.int (x.1 : Nat), .int (x.2 : Nat)] := by
  obtain ⟨h, _⟩ := h
  have h : Dp K H (.ref b) (.tuple [.int (x.1 : Nat), .int (x.2 : Nat)]) := h
  cases h with
  | tup hq hd =>
    cases hd with
    | cons a1 hd =>
      cases hd with
      | cons a2 hd =>
        cases hd
        cases a1
        cases a2
        exact hq
theorem rowN_len {q : SR (Nat × Nat)} (h : (keysR q).Nodup) (hk : ∀ k ∈ keysR q, k.1 < 40 ∧ k.2 ≤ 40) : q.length ≤ 3000 := by
  have hn : ((keysR q).map fun k => k.1 * 64 + k.2).Nodup := nodup_map h fun x hx y hy e => by
    have a := hk x hx
    have b := hk y hy
    have e : x.1 * 64 + x.2 = y.1 * 64 + y.2 := e
    exact Prod.ext (by omega) (by omega)
  have := nodup_bound 3000 _ hn fun x hx => by
    obtain ⟨k, hk', rfl⟩ := List.mem_map.mp hx
    have := hk k hk'
    show k.1 * 64 + k.2 < 3000
    omega
  rwa [List.length_map, keysR, List.length_map] at this
theorem drop_sum (W : Nat → Nat) (c t : Nat) : ((((List.range c).map fun i => ((W i : Nat) : Int)).drop t).sum) = ((TW W c t : Nat) : Int) := by
  rw [← List.map_drop, List.range_eq_range', List.drop_range', Nat.mul_one, Nat.zero_add]
  unfold TW
  generalize List.range' t (c - t) = l
  induction l with
  | nil => rfl
  | cons a l ih => rw [List.map_cons, List.sum_cons, ih, List.map_cons, List.sum_cons]; omega
def bestV : Option Nat → V
  | none => .non
  | some x => .int (x : Nat)
end St
namespace St
open PySem PySem.Spec PyProof.Rows L2
/-! ### all rising lengths within a limit -/
def nextL (m : Nat) (row : List Nat) : List (List Nat) := (List.range' (row.getLast?.getD 0) (m + 1 - row.getLast?.getD 0)).map fun l => row ++ [l]
def allL (m : Nat) : Nat → List (List Nat)
  | 0 => [[]]
  | k + 1 => (allL m k).flatMap (nextL m)
theorem mem_allL (m : Nat) : ∀ (k : Nat) (r : List Nat), r ∈ allL m k ↔ r.length = k ∧ r.Pairwise (· ≤ ·) ∧ ∀ l ∈ r, l ≤ m
  | 0, r => by
    show r ∈ [[]] ↔ _
    rw [List.mem_singleton, List.length_eq_zero_iff]
    constructor
    · rintro rfl
      exact ⟨rfl, .nil, fun l h => by cases h⟩
    · exact fun h => h.1
  | k + 1, r => by
    rw [allL, List.mem_flatMap]
    unfold nextL
    constructor
    · rintro ⟨p, hp, hr⟩
      obtain ⟨l, hl, rfl⟩ := List.mem_map.mp hr
      obtain ⟨h1, h2, h3⟩ := (mem_allL m k p).mp hp
      rw [List.mem_range'_1] at hl
      refine ⟨by rw [List.length_append, h1]; rfl, List.pairwise_append.mpr ⟨h2, List.pairwise_singleton _ _, fun x hx y hy => ?_⟩, fun x hx => ?_⟩
      · rw [List.mem_singleton.mp hy]
        rcases List.eq_nil_or_concat p with e | ⟨q, z, e⟩
        · rw [e] at hx; cases hx
        · rw [List.concat_eq_append] at e
          subst e
          rw [List.getLast?_concat] at hl
          have hl1 : z ≤ l := hl.1
          rcases List.mem_append.mp hx with hx | hx
          · have := (List.pairwise_append.mp h2).2.2 x hx z (List.mem_singleton.mpr rfl)
            omega
          · rw [List.mem_singleton.mp hx]
            exact hl1
      · rcases List.mem_append.mp hx with hx | hx
        · exact h3 x hx
        · rw [List.mem_singleton.mp hx]
          omega
    · rintro ⟨h1, h2, h3⟩
      rcases List.eq_nil_or_concat r with e | ⟨p, l, e⟩
      · rw [e] at h1; cases h1
      rw [List.concat_eq_append] at e
      subst e
      rw [List.length_append, List.length_singleton] at h1
      refine ⟨p, (mem_allL m k p).mpr ⟨by omega, (List.pairwise_append.mp h2).1, fun x hx => h3 x (List.mem_append_left _ hx)⟩, List.mem_map.mpr ⟨l, ?_, rfl⟩⟩
      have hl := h3 l (List.mem_append_right _ (List.mem_singleton.mpr rfl))
      rw [List.mem_range'_1]
      rcases List.eq_nil_or_concat p with e | ⟨q, z, e⟩
      · subst e
        exact ⟨Nat.zero_le _, by simp; omega⟩
      · rw [List.concat_eq_append] at e
        subst e
        rw [List.getLast?_concat]
        have := (List.pairwise_append.mp h2).2.2 z (List.mem_append_right _ (List.mem_singleton.mpr rfl)) l (List.mem_singleton.mpr rfl)
        exact ⟨this, by show l < z + (m + 1 - z); omega⟩
theorem allL_len {m : Nat} (hm : m ≤ 5) : ∀ k, (allL m k).length ≤ 6 ^ k
  | 0 => Nat.le_refl _
  | k + 1 => by
    have ih := allL_len hm k
    have : ∀ l : List (List Nat), (l.flatMap (nextL m)).length ≤ 6 * l.length := by
      intro l
      induction l with
      | nil => exact Nat.zero_le _
      | cons a l ih =>
        rw [List.flatMap_cons, List.length_append, List.length_cons]
        have : (nextL m a).length ≤ 6 := by
          unfold nextL
          rw [List.length_map, List.length_range']
          omega
        omega
    have := this (allL m k)
    rw [allL, Nat.pow_succ]
    omega
def validL (m c : Nat) : List (List Nat) := (allL m c).filter fun r => decide (krf m r ≤ 2 ^ m)
end St
namespace St
open PySem PySem.Spec PyProof.Rows L2
/-! ### the words of a book by their places in the order -/
def offs (o : List (Nat × Nat)) (i : Nat) : Nat := ((o.take i).map fun p => 2 ^ (60 - p.1)).sum
theorem offs_zero (o : List (Nat × Nat)) : offs o 0 = 0 := rfl
theorem offs_succ {o : List (Nat × Nat)} {i l n : Nat} (h : o[i]? = some (l, n)) : offs o (i + 1) = offs o i + 2 ^ (60 - l) := by
  unfold offs
  rw [take_more h, List.map_append, List.sum_append]
  simp
theorem offs_cons (p : Nat × Nat) (r : List (Nat × Nat)) (i : Nat) : offs (p :: r) (i + 1) = 2 ^ (60 - p.1) + offs r i := by
  unfold offs
  rw [List.take_succ_cons, List.map_cons, List.sum_cons]
theorem offs_mono (o : List (Nat × Nat)) (i d : Nat) : offs o i ≤ offs o (i + d) := by
  induction d with
  | zero => exact Nat.le_refl _
  | succ d ih =>
    cases e : o[i + d]? with
    | some p =>
      obtain ⟨l, n⟩ := p
      rw [← Nat.add_assoc, offs_succ e]
      exact Nat.le_trans ih (Nat.le_add_right _ _)
    | none =>
      have := List.getElem?_eq_none_iff.mp e
      have e1 : offs o (i + (d + 1)) = offs o (i + d) := by
        unfold offs
        rw [List.take_of_length_le (by omega), List.take_of_length_le (by omega)]
      omega
theorem wordsO_len : ∀ (o : List (Nat × Nat)) (c : Nat) (f : List (List Bool)), (wordsO o c f).length = f.length
  | [], _, _ => rfl
  | (l, n) :: r, c, f => by rw [wordsO, wordsO_len r, List.length_set]
theorem wordsO_keep : ∀ (o : List (Nat × Nat)) (c : Nat) (f : List (List Bool)) (n : Nat), n ∉ o.map (·.2) → (wordsO o c f)[n]? = f[n]?
  | [], _, _, _, _ => rfl
  | (l, m) :: r, c, f, n, h => by
    rw [List.map_cons, List.mem_cons, not_or] at h
    rw [wordsO, wordsO_keep r _ _ n h.2, List.getElem?_set_ne (Ne.symm h.1)]
theorem wordsO_at : ∀ (o : List (Nat × Nat)) (c : Nat) (f : List (List Bool)) (i l n : Nat), o[i]? = some (l, n) → (o.map (·.2)).Nodup → n < f.length → (wordsO o c f)[n]? = some (fig ((c + offs o i) / 2 ^ (60 - l)) l)
  | [], _, _, _, _, _, h, _, _ => by simp at h
  | (l0, n0) :: r, c, f, 0, l, n, h, nd, hn => by
    cases Option.some.inj (show some (l0, n0) = some (l, n) from h)
    rw [List.map_cons, List.nodup_cons] at nd
    rw [wordsO, wordsO_keep r _ _ n0 nd.1, List.getElem?_set_self hn, offs_zero, Nat.add_zero]
  | (l0, n0) :: r, c, f, i + 1, l, n, h, nd, hn => by
    rw [List.map_cons, List.nodup_cons] at nd
    rw [wordsO, wordsO_at r _ _ i l n h nd.2 (by rw [List.length_set]; exact hn), offs_cons, Nat.add_assoc]
theorem IsOrd.nd {ls : List Nat} {o : List (Nat × Nat)} (h : IsOrd ls o) : (o.map (·.2)).Nodup := by
  have := h.perm.map (·.2)
  rw [List.zipIdx_map_snd] at this
  exact (this.nodup_iff).mpr List.nodup_range'
theorem IsOrd.len {ls : List Nat} {o : List (Nat × Nat)} (h : IsOrd ls o) : o.length = ls.length := by
  rw [h.perm.length_eq, List.length_zipIdx]
theorem IsOrd.has {ls : List Nat} {o : List (Nat × Nat)} (h : IsOrd ls o) {k l : Nat} (hk : ls[k]? = some l) : ∃ i : Nat, o[i]? = some (l, k) := by
  have : (l, k) ∈ ls.zipIdx := List.mem_iff_getElem?.mpr ⟨k, by rw [List.getElem?_zipIdx, hk]; simp⟩
  exact List.getElem?_of_mem (h.perm.mem_iff.mpr this)
theorem IsOrd.of {ls : List Nat} {o : List (Nat × Nat)} (h : IsOrd ls o) {i k l : Nat} (hk : o[i]? = some (l, k)) : ls[k]? = some l := by
  have := h.perm.mem_iff.mp (List.mem_of_getElem? hk)
  obtain ⟨j, hj⟩ := List.getElem?_of_mem this
  rw [List.getElem?_zipIdx] at hj
  cases e : ls[j]? with
  | none => rw [e] at hj; cases hj
  | some z =>
    rw [e] at hj
    cases Option.some.inj hj
    rw [Nat.zero_add]
    exact e
theorem IsOrd.room {ls : List Nat} {o : List (Nat × Nat)} (h : IsOrd ls o) : offs o o.length = roomN ls := by
  unfold offs roomN
  rw [List.take_length]
  have e := (h.perm.map fun p => 2 ^ (60 - p.1)).sum_nat
  rw [e]
  congr 1
  have : (ls.zipIdx.map Prod.fst) = ls := List.zipIdx_map_fst 0 ls
  conv => rhs; rw [← this]
  rw [List.map_map]
  rfl
theorem IsOrd.two {ls : List Nat} {o : List (Nat × Nat)} (h : IsOrd ls o) {i j a b l m : Nat} (hi : o[i]? = some (l, a)) (hj : o[j]? = some (m, b)) (hij : i < j) : l ≤ m ∧ offs o i + 2 ^ (60 - l) ≤ offs o j ∧ offs o j + 2 ^ (60 - m) ≤ roomN ls := by
  have hjl := (List.getElem?_eq_some_iff.mp hj).1
  refine ⟨?_, ?_, ?_⟩
  · obtain ⟨hi', ei⟩ := List.getElem?_eq_some_iff.mp hi
    obtain ⟨hj', ej⟩ := List.getElem?_eq_some_iff.mp hj
    have := List.pairwise_iff_getElem.mp h.pw i j hi' hj' hij
    rw [ei, ej] at this
    unfold lexL at this
    dsimp only at this
    omega
  · rw [← offs_succ hi]
    have := offs_mono o (i + 1) (j - (i + 1))
    rw [show i + 1 + (j - (i + 1)) = j by omega] at this
    exact this
  · rw [← offs_succ hj, ← h.room]
    have := offs_mono o (j + 1) (o.length - (j + 1))
    rw [show j + 1 + (o.length - (j + 1)) = o.length by omega] at this
    exact this
/-- no word begins another one -/
theorem book_free {ls : List Nat} {o : List (Nat × Nat)} (h : IsOrd ls o) (h60 : ∀ l ∈ ls, l ≤ 60) (hr : roomN ls ≤ 2 ^ 60) {i j a b l m : Nat} (hi : o[i]? = some (l, a)) (hj : o[j]? = some (m, b)) (hab : a ≠ b) :
    (fig (offs o j / 2 ^ (60 - m)) m).take l ≠ fig (offs o i / 2 ^ (60 - l)) l := by
  have hl := h60 l (List.mem_of_getElem? (h.of hi))
  have hm := h60 m (List.mem_of_getElem? (h.of hj))
  have p1 : 0 < 2 ^ (60 - m) := Nat.pow_pos (by decide)
  have p2 : 0 < 2 ^ (60 - l) := Nat.pow_pos (by decide)
  rcases Nat.lt_trichotomy i j with c | c | c
  · obtain ⟨h1, h2, h3⟩ := h.two hi hj c
    exact book_pre h1 hm h2 (by omega)
  · subst c
    rw [hi] at hj
    cases Option.some.inj hj
    exact absurd rfl hab
  · obtain ⟨h1, h2, h3⟩ := h.two hj hi c
    intro e
    have el := congrArg List.length e
    rw [List.length_take, fig_len, fig_len] at el
    have : l = m := by omega
    subst this
    rw [List.take_of_length_le (by rw [fig_len]; exact Nat.le_refl _)] at e
    refine book_pre (Nat.le_refl l) hl h2 (by omega) ?_
    rw [List.take_of_length_le (by rw [fig_len]; exact Nat.le_refl _)]
    exact e.symm
theorem nodup_idx {α : Type} {l : List α} (h : l.Nodup) {i j : Nat} {x : α} (hi : l[i]? = some x) (hj : l[j]? = some x) : i = j := by
  obtain ⟨a1, a2⟩ := List.getElem?_eq_some_iff.mp hi
  obtain ⟨b1, b2⟩ := List.getElem?_eq_some_iff.mp hj
  rcases Nat.lt_trichotomy i j with c | c | c
  · exact absurd (a2.trans b2.symm) (List.pairwise_iff_getElem.mp h i j a1 b1 c)
  · exact c
  · exact absurd (b2.trans a2.symm) (List.pairwise_iff_getElem.mp h j i b1 a1 c)
theorem LawH.keepBut {H H' : Hp} {h q E : Addr} (L : LawH H h q) (k : ∀ b u, b ≠ E → H b = some u → H' b = some u) (n1 : h ≠ E) (n2 : q ≠ E) : LawH H' h q := by
  obtain ⟨ne, st, ix, cells, a, b, d⟩ := L
  exact ⟨ne, st, ix, cells, k _ _ n1 a, k _ _ n2 b, d⟩
theorem dp_strs {K : PySem.W.Frag} {H : Hp} : ∀ (ws : List Str), DpAll K H (ws.map V.str) (ws.map PyData.str)
  | [] => .nil
  | w :: ws => .cons (.str w) (dp_strs ws)
end St
namespace St
open PySem PySem.Spec PyProof.Rows L2
/-- the greatest of the losses, as both go through them -/
def worstR (f : Rat → Rat) (w : Rat) (xs : List Rat) : Rat := xs.foldl (fun w x => if w < f x then f x else w) w
theorem worst_snoc (f : Rat → Rat) (w : Rat) (xs : List Rat) (x : Rat) : worstR f w (xs ++ [x]) = if worstR f w xs < f x then f x else worstR f w xs := by
  unfold worstR
  rw [List.foldl_append]
  rfl
/-- the least step whose greatest loss is least, of the steps 1 .. n -/
def fairF (g : Nat → Rat) : Nat → Option (Nat × Rat)
  | 0 => none
  | n + 1 => match fairF g n with
    | none => some (n + 1, g (n + 1))
    | some (s, b) => if g (n + 1) < b then some (n + 1, g (n + 1)) else some (s, b)
theorem fairF_none {g : Nat → Rat} {n : Nat} (h : fairF g n = none) : fairF g (n + 1) = some (n + 1, g (n + 1)) := by
  show (match fairF g n with
    | none => some (n + 1, g (n + 1))
    | some (s, b) => if g (n + 1) < b then some (n + 1, g (n + 1)) else some (s, b)) = _
  rw [h]
theorem fairF_some {g : Nat → Rat} {n s : Nat} {b : Rat} (h : fairF g n = some (s, b)) : fairF g (n + 1) = if g (n + 1) < b then some (n + 1, g (n + 1)) else some (s, b) := by
  show (match fairF g n with
    | none => some (n + 1, g (n + 1))
    | some (s, b) => if g (n + 1) < b then some (n + 1, g (n + 1)) else some (s, b)) = _
  rw [h]
theorem lt_iff_int (r s : Rat) : r.num * (s.den : Int) < s.num * (r.den : Int) ↔ r < s := (Rat.lt_iff r s).symm
theorem le_iff_int (r s : Rat) : r.num * (s.den : Int) ≤ s.num * (r.den : Int) ↔ r ≤ s := (Rat.le_iff r s).symm
theorem bd_zero (b : Nat) (h : 1 ≤ b) : Bd 0 b := ⟨by show 0 < 2 ^ b; exact Nat.pow_pos (by decide), by show 1 < 2 ^ b; exact Nat.one_lt_pow (by omega) (by decide)⟩
/-- a tuple of ratios -/
structure RatsAt (K : PySem.W.Frag) (H : Hp) (a : Addr) (rs : List (Addr × Nat × Nat)) : Prop where
  seq : SqT K H a (rs.map fun t => V.ref t.1)
  each : ∀ t ∈ rs, SqT K H t.1 [.int (t.2.1 : Nat), .int (t.2.2 : Nat)] ∧ IsRat t.2.1 t.2.2
theorem RatsAt.same {K : PySem.W.Frag} {H H' : Hp} {a : Addr} {rs : List (Addr × Nat × Nat)} (s : Same H H') (h : RatsAt K H a rs) : RatsAt K H' a rs :=
  ⟨Same.seqT s h.seq, fun t ht => ⟨Same.seqT s (h.each t ht).1, (h.each t ht).2⟩⟩
def ratsOf (rs : List (Addr × Nat × Nat)) : List Rat := rs.map fun t => rat t.2.1 t.2.2
def BestAt (K : PySem.W.Frag) (H : Hp) (g : Nat → Rat) (i : Nat) (bv : V) : Prop :=
  (fairF g i = none ∧ bv = .non) ∨ ∃ (s : Nat) (w : Rat) (T W : Addr), fairF g i = some (s, w) ∧ bv = .ref T ∧ H T = some (.tup [.int (s : Nat), .ref W]) ∧ RatAt K H W w ∧ Bd w 3402
theorem BestAt.same {K : PySem.W.Frag} {H H' : Hp} {g : Nat → Rat} {i : Nat} {bv : V} (s : Same H H') (h : BestAt K H g i bv) : BestAt K H' g i bv := by
  rcases h with h | ⟨st, w, T, W, a, b, c, d, e⟩
  · exact .inl h
  · exact .inr ⟨st, w, T, W, a, b, s _ _ c, d.same s, e⟩
theorem take_rats {rs : List (Addr × Nat × Nat)} {j : Nat} {t : Addr × Nat × Nat} (h : rs[j]? = some t) : (ratsOf rs).take (j + 1) = (ratsOf rs).take j ++ [rat t.2.1 t.2.2] := by
  refine take_more ?_
  unfold ratsOf
  rw [List.getElem?_map, h]
  rfl
theorem bd_mean {p q : Nat} (hr0 : IsRat p q) {m : Nat} (h1 : 1 ≤ m) (h64 : m ≤ 64) : Bd (meanR m (rat p q)) 1700 := by
  have hq := hr0.q30
  have hp := hr0.p1
  have hpq := hr0.pq
  have h6 := wide_64 h64
  have hsh := short_lt h1
  have L0 := left_pos hr0 h1
  have b1 : Bd (rat p q ^ m) 321 := (Bd.pow (p := p) (q := q) (by omega) hq (by omega) m).mono (by omega)
  have b2 : Bd (rat p q ^ shortN m) 321 := (Bd.pow (p := p) (q := q) (by omega) hq (by omega) (shortN m)).mono (by omega)
  have b3 : Bd (1 : Rat) 1 := ⟨by decide, by decide⟩
  have b4 := Bd.sub b3 b1
  have b6 : Bd ((if (wideN m : Int) > 1 then (wideN m : Int) else 1 : Int) : Rat) 3 := ⟨by
    show (if (wideN m : Int) > 1 then (wideN m : Int) else 1 : Int).natAbs < 2 ^ 3
    split <;> omega, by show 1 < 2 ^ 3; decide⟩
  have ba := Bd.add b6 (Bd.quot b1 b4 L0)
  have b5 : Bd (if 0 < wideN m then (rat p q ^ shortN m - rat p q ^ m) / (1 - rat p q ^ m) else 0) 970 := by
    split
    · exact (Bd.quot (Bd.sub b2 b1) b4 L0).mono (by omega)
    · exact bd_zero _ (by decide)
  exact (Bd.add ba b5).mono (by omega)
end St
namespace St
open PySem PySem.Spec PyProof.Rows L2
/-! ### sorted of a tuple of numbers -/
section
variable {prog : Program} {w : World} {A : Around} {E : Value → Shared → Prop} {s : Shared}
/-- the items of a tuple, in a list of their own -/
theorem collectT {a : Addr} {us : List Value} {R : List Value → Shared → Prop} (ha : s.heap.IsTuple a us.toArray) (hn : us.length ≤ sizeLine)
    (k : R us { s with heap := (s.heap.push (seqObj "list" #[] 0)).update s.heap.objs.size (Obj.mapSeq (· ++ us.toArray)) }) : wpAny (model prog w) A (collect (.ref a)) R E s := by
  obtain ⟨o, eo, ec, n, ed⟩ := id ha
  unfold collect
  refine wpAny_bind (wpAny_runValue (codeAny_builtin entry_proto_collect' ?_))
  show wpAny _ _ (do again (.builtin "list.__iadd__" ⟨[← newList [], .ref a], []⟩)) _ _ s
  refine wpAny_bind (wpAny_newList (wpAny_pure ⟨Code.quiet_builtin _ (by decide +kernel), codeAny_builtin entry_list_iadd' ?_⟩))
  show wpAny _ _ (Builtin.List.listExtendWith (.ref s.heap.objs.size) (.ref a) (.ref s.heap.objs.size)) _ _ { s with heap := s.heap.push (seqObj "list" #[] 0) }
  unfold Builtin.List.listExtendWith
  have eo' : (s.heap.push (seqObj "list" #[] 0)).get? a = some o := Heap.get?_push_of_some _ eo
  have et : ∀ b : Bool, (b || Value.type "tuple" == Value.type "list" || Value.type "tuple" == Value.type "tuple") = true := fun b => by cases b <;> decide
  refine wpAny_bind (wpAny_typeOf (T := "tuple") ⟨o, eo', ec⟩ ?_)
  rw [if_pos (et _)]
  refine wpAny_bind (listItems_at eo' ed ?_)
  refine wpAny_bind (listItems_at (xs := #[]) (n := 0) (Heap.get?_push_size _ rfl) rfl ?_)
  rw [if_neg (by simp)]
  refine wpAny_bind (listUpdate_at (xs := #[]) (n := 0) (Heap.get?_push_size _ rfl) rfl ?_ (Nat.zero_le _) (by show (#[] ++ us.toArray).size ≤ sizeLine + 1; simp only [Array.size_append, List.size_toArray, List.length_nil]; omega))
  refine wpAny_pure ?_
  show wpAny (model prog w) A (do
      let o ← load s.heap.objs.size
      match o.data with
      | .seq xs _ => pure xs.toList
      | _ => unsupported "internal:collect") R E { s with heap := (s.heap.push (seqObj "list" #[] 0)).update s.heap.objs.size (Obj.mapSeq (· ++ us.toArray)) }
  refine wpAny_bind (wpAny_load (get?_update_seq (Heap.get?_push_size _ rfl) _) ?_)
  show wpAny _ _ (pure ((#[] : Array Value) ++ us.toArray).toList) R E _
  have eu : ((#[] : Array Value) ++ us.toArray).toList = us := by simp
  rw [eu]
  exact wpAny_pure k
theorem sortedT {a : Addr} {us : List Value} {ns : List Int} {R : Value → Shared → Prop} (ha : s.heap.IsTuple a us.toArray) (hi : IntsAre us ns) (h64 : us.length < 64)
    (k : ∀ (out : Array Value) (ns' : List Int), IntsAre out.toList ns' → ns'.Perm ns → ns'.Pairwise (· ≤ ·) → R (.ref (s.heap.objs.size + 1)) { s with heap := sortedAll s.heap us out }) :
    wpAny (model prog w) A (call (.builtin "sorted") [.ref a]) R E s := by
  have hn := sizeLine_eq
  refine Calls.call_function_entry kind_sorted plain_sorted entry_sorted (args_sorted1 _) ?_
  unfold Builtin.«sorted»
  refine wpAny_bind (m := checkCount "sorted" 1 1 _) (wpAny_pure ?_)
  refine wpAny_bind (collectT ha (by omega) ?_)
  refine wpAny_bind (wpAny_newList ?_)
  have z1 : ((s.heap.push (seqObj "list" #[] 0)).update s.heap.objs.size (Obj.mapSeq (· ++ us.toArray))).objs.size = s.heap.objs.size + 1 := by
    rw [Heap.size_update, size_push']
  have z2 : (((s.heap.push (seqObj "list" #[] 0)).update s.heap.objs.size (Obj.mapSeq (· ++ us.toArray))).push (seqObj "list" us.toArray 0)).get? (s.heap.objs.size + 1) = some (seqObj "list" us.toArray 0) := by
    rw [← z1]; exact Heap.get?_push_size _ rfl
  show wpAny _ _ _ _ _ { s with heap := ((s.heap.push (seqObj "list" #[] 0)).update s.heap.objs.size (Obj.mapSeq (· ++ us.toArray))).push (seqObj "list" us.toArray 0) }
  rw [z1]
  refine wpAny_bind (wpAny_holding (wpAny_call_entry slot_list_sort ⟨_, z2, rfl⟩ entry_list_sort (list_sort_tree z2 hi h64 fun out ns' b1 b2 b3 => ⟨_, rfl, ?_⟩) (args_list_sort _)))
  exact wpAny_pure ⟨_, rfl, k out ns' b1 b2 b3⟩
end
def rSortedTI (K : PySem.W.Frag) : List V → Hp → VK → Prop := fun vs H Q => ∃ (a : Addr) (ns : List Int), vs = [V.ref a] ∧ SqT K H a (ns.map V.int) ∧ ns.length < 64 ∧
  ∀ (ns' : List Int) (p : Addr), ns'.Perm ns → ns'.Pairwise (· ≤ ·) → H p = none → Q (.ref p) (upd H p (.lst (ns'.map V.int)))
theorem cr_sortedTI {X : Cx} : CallR X (.builtin "sorted") (rSortedTI X.K) := by
  intro pins s σ H vs us Q I r h
  obtain ⟨a, ns, rfl, hs, h64, q⟩ := h
  obtain ⟨its, rv, pl, hz⟩ := I.tuple hs
  rw [Vals.ref1 r]
  have hl := rv.length
  rw [List.length_map] at hl
  refine sortedT pl rv.ints (by omega) fun out ns' h1 h2 h3 => ?_
  obtain ⟨c, hc⟩ := sortedAll_at s.heap its out
  refine ⟨.ref _, upd H (s.heap.objs.size + 1) (.lst (ns'.map V.int)), I.laid (t' := s.toks) (fun b o e => sortedAll_old e) (Nat.le_succ _) ⟨?_, out.toList, c, vals_of_ints h1, by simpa using hc⟩, rfl, q ns' _ h2 h3 (I.hok.fresh (Nat.le_succ _))⟩
  rw [List.length_map, h2.length_eq]
  have := sizeLine_eq
  omega
end St
namespace St
open PySem PySem.Spec PyProof.Rows L2
/-! ### max of a tuple of numbers -/
section
variable {prog : Program} {w : World} {A : Around} {E : Value → Shared → Prop} {s : Shared}
theorem max_rawT {Q : Value → Shared → Prop} {l : Addr} {its : List Value} {ns : List Int} (hh : A.handled = none) (hl : s.heap.IsTuple l its.toArray) (hi : IntsAre its ns) (hne : 0 < ns.length)
    (h : ∀ h' tk M t', (∀ b o, s.heap.get? b = some o → h'.get? b = some o) → M ∈ ns → (∀ a, a ∈ ns → a ≤ M) → Q (.int M t') { s with heap := h', toks := tk }) : wpAny (model prog w) A (call (.builtin "max") [.ref l]) Q E s := by
  obtain ⟨xs, e⟩ := hi.allInts.items
  have hn : numsOf (intItems xs).toList = ns := by rw [← e]; exact hi.numsOf
  rw [nums_intItems] at hn
  subst hn
  rw [e] at hl
  have hsz : 0 < xs.size := by simpa using hne
  refine PySem.call_max_walk (PySem.W.iter_tupleW (A := A.in1) hh hl fun s₂ e W st hfp hw h0 => ?_)
  subst e
  have hlI : l ≠ s.heap.objs.size := by
    obtain ⟨_, e, _⟩ := hl
    exact Nat.ne_of_lt (Heap.lt_size e)
  refine ⟨_, _, _, _, _, _, _, rfl, Walks.tuple (A := A.in1) hh _ l hlI (intItems xs), st, hfp, by simpa [intItems] using hsz, CmpOf.ints_gt (numAt xs) (fun _ _ => intItems_at), fun v h' tk hv hk => ?_⟩
  have ez : (intItems xs).size = xs.size := by simp [intItems]
  rw [ez] at hv
  obtain ⟨t, rfl⟩ := intItems_at hv
  obtain ⟨h1, h2⟩ := argBest_gt (numAt xs) (xs.size - 1)
  refine h h' tk _ t (fun b o hb => hk b o (hw b o hb) (h0 b o hb)) ?_ fun a ha => ?_
  · rw [numAt_eq]; exact PySem.getD_mem (by rw [List.length_map, Array.length_toList]; omega)
  · obtain ⟨j, hj, rfl⟩ := mem_getD ha
    rw [List.length_map, Array.length_toList] at hj
    rw [← numAt_eq]; exact h2 j (by omega)
end
section
variable {X : Cx}
def rMaxT (K : PySem.W.Frag) : List V → Hp → VK → Prop := fun vs H Q => ∃ (a : Addr) (ns : List Int), vs = [V.ref a] ∧ SqT K H a (ns.map V.int) ∧ 0 < ns.length ∧ ∀ m, m ∈ ns → (∀ y, y ∈ ns → y ≤ m) → Q (.int m) H
theorem cr_maxT (hc : X.calm = true) : CallR X (.builtin "max") (rMaxT X.K) := by
  intro pins s σ H vs us Q I r h
  obtain ⟨a, ns, rfl, hs, hne, q⟩ := h
  obtain ⟨its, rv, hl, _⟩ := I.tuple hs
  rw [Vals.ref1 r]
  exact max_rawT (I.ok.hd hc) hl rv.ints hne fun h' tk m t' hk h1 h2 => ⟨.int _, H, I.kept hk, ⟨_, rfl⟩, q m h1 h2⟩
theorem cr_maxT_ (K : PySem.W.Frag) (hc : X.calm = true) (h : X.K = K := by rfl) : CallR X (.builtin "max") (rMaxT K) := h ▸ cr_maxT hc
end
end St
namespace St
open PySem PySem.Spec PyProof.Rows L2
def topS (i : Nat) : Stmt := PySem.Challenge.pw_stepruns_k08_whole_limited_books.main.body.getD i (.Pass ⟨0, 0, 0, 0⟩)

abbrev s__law_mix : Stmt := topS 29
theorem sc__law_mix : FnScope ["_law_script", "_law_seed", "_law_state", "_law_cell"] ["_law_script", "_law_seed"] (defScope s__law_mix) := ⟨rfl, rfl, rfl, by decide +kernel, rfl, by decide +kernel, by decide +kernel⟩
def sp__law_mix (K : PySem.W.Frag) : Sp := fun vs H Q _ => ∃ (a : Addr) (ns : List Int) (sd : Int), vs = [.ref a, .int sd] ∧ SqL K H a (ns.map V.int) ∧ ns.length ≤ 63 ∧
  ∀ (h q : Addr) (H' : Hp), Same H H' → H h = none → H q = none → LawH H' h q → Q (.ref h) H'
section
variable {P : Program} {w : World} {K : PySem.W.Frag} {mg : Str → Option Value} {base : Heap}
theorem ok__law_mix (A : At K mg "_law_mix" s__law_mix ["_law_script", "_law_seed"]) (B : Bn mg) : CalE P w K mg base "_law_mix" ["_law_script", "_law_seed"] 1 (sp__law_mix K) := by
  obtain ⟨f, fd, F, gF, bF⟩ := A
  refine ⟨f, fd, F.ok sc__law_mix (fun vs H Q E h => ?_) (fun cdv A outer s H vs Q E hr h => ?_), gF, F.kp, bF⟩
  · repeat (first | (obtain ⟨rfl, _⟩ := h; rfl) | (obtain ⟨_, h⟩ := h))
  · obtain ⟨a, ns, sd, rfl, hS, hl, q⟩ := h
    refine ⟨_, (pss_cons (ps_set (i := 2) sc__law_mix.nd rfl (.inl rfl) (pv 1))
      (pss_cons (ps_for PassesOwn.never rfl (pi_list (pv 0)) (pg_name (i := 3) sc__law_mix.nd rfl (.inl rfl))
      (pss_one (ps_set (i := 2) sc__law_mix.nd rfl (.inl rfl) (pe_op op_mod (pe_callTy call_int1 (by rfl) B.int_ (by decide +kernel) (pa_cons (pe_op op_add (pe_op op_add (pe_op op_mul (pv 2) pe_int) (pe_op op_mod (pe_callTy call_int1 (by rfl) B.int_ (by decide +kernel) (pa_cons (pv 3) pa_nil)) pe_int)) pe_int) pa_nil)) pe_int))))
      (pss_one (ps_ret (pe_lst (pa_cons (pv 2) (pa_cons (pe_callTy (call_list_of_ K) (by rfl) B.list_ (by decide +kernel) (pa_cons (pv 0) pa_nil)) (pa_cons pe_int pa_nil)))))))), ?_⟩
    -- _law_state = _law_seed
    refine ⟨_, rfl, ?_⟩
    refine ⟨_, rfl, a, rfl, ⟨_, hS⟩, for_list (K := K) (a := a) (xs := ns.map V.int) (fun i σ H2 => ∃ (st : Int) (v : Option V), σ = [some (.ref a), some (.int sd), some (.int st), v] ∧ H2 = H)
      ⟨_, _, rfl, rfl⟩ (fun i σ H2 _ ⟨_, _, _, e⟩ => e ▸ hS) ?_ ?_⟩
    · rintro i y σ H2 hi ⟨st, v, rfl, rfl⟩
      obtain ⟨z, rfl⟩ : ∃ z, y = V.int z := by
        rw [List.getElem?_map] at hi
        cases e : ns[i]? with
        | none => rw [e] at hi; cases hi
        | some z => rw [e] at hi; exact ⟨z, (Option.some.inj hi).symm⟩
      refine ⟨_, rfl, _, _, rfl, rfl, .inr (by omega), _, rfl, .inl ⟨_, rfl, _, _, rfl, rfl, (by decide : (0 : Int) < 2147483629), _, _, rfl, rfl, _, _, rfl, rfl, .inl ⟨_, rfl, _, _, rfl, rfl, (by decide : (0 : Int) < 2147483647), ?_⟩⟩⟩
      exact ⟨_, _, rfl, rfl⟩
    · rintro σ H2 ⟨st, v, rfl, rfl⟩
      -- return [state, list(script), 0]
      refine ⟨_, rfl, _, rfl, a, _, rfl, .inl hS, fun c nc => ⟨(by show 3 ≤ sizeLine; decide), fun p np => ?_⟩⟩
      have npc : p ≠ c := fun e => by rw [e, upd_same] at np; cases np
      refine q p c _ ((same_new nc _).trans (same_new np _)) ((same_new nc _).free np) nc ⟨npc, st, 0, ns, upd_same, ?_, by omega⟩
      rw [upd_ne npc.symm, upd_same]
end

abbrev s__law_weights : Stmt := topS 36
theorem sc__law_weights : FnScope ["_law_ratio_here", "_law_count", "_law_found", "_law_k", "_law_one"] ["_law_ratio_here", "_law_count"] (defScope s__law_weights) := ⟨rfl, rfl, rfl, by decide +kernel, rfl, by decide +kernel, by decide +kernel⟩
def sp__law_weights (K : PySem.W.Frag) : Sp := fun vs H Q _ => ∃ (a : Addr) (p q c : Nat), vs = [.ref a, .int (c : Nat)] ∧ SqT K H a [.int (p : Nat), .int (q : Nat)] ∧ IsRat p q ∧ 1 ≤ c ∧ c ≤ 40 ∧
  ∀ (D : Addr) (H' : Hp), Same H H' → H D = none → H' D = some (.lst (wtsV p q c)) → Q (.ref D) H'
theorem wts_step (p q k : Nat) : ((wtsV p q (k + 1)).map fun v => match v with | .int z => V.int (z * (q : Int)) | v => v) ++ [V.int ((p : Int) ^ k * (p : Int))] = wtsV p q (k + 2) := by
  unfold wtsV
  rw [List.range_succ (n := k + 1), List.map_append, List.map_map]
  congr 1
  · refine List.map_congr_left fun i hi => ?_
    have := List.mem_range.mp hi
    show V.int (wtF p q (k + 1) i * (q : Int)) = V.int (wtF p q (k + 2) i)
    unfold wtF
    rw [show k + 2 - 1 - i = (k + 1 - 1 - i) + 1 by omega, Int.pow_succ, Int.mul_assoc]
  · show [V.int ((p : Int) ^ k * (p : Int))] = [V.int (wtF p q (k + 2) (k + 1))]
    unfold wtF
    rw [show k + 2 - 1 - (k + 1) = 0 by omega, Int.pow_succ, Int.pow_zero, Int.mul_one]
section
variable {P : Program} {w : World} {K : PySem.W.Frag} {mg : Str → Option Value} {base : Heap}
theorem ok__law_weights (A : At K mg "_law_weights" s__law_weights ["_law_ratio_here", "_law_count"]) (B : Bn mg) : CalE P w K mg base "_law_weights" ["_law_ratio_here", "_law_count"] 1 (sp__law_weights K) := by
  obtain ⟨f, fd, F, gF, bF⟩ := A
  refine ⟨f, fd, F.ok sc__law_weights (fun vs H Q E h => ?_) (fun cdv A outer s H vs Q E hr h => ?_), gF, F.kp, bF⟩
  · repeat (first | (obtain ⟨rfl, _⟩ := h; rfl) | (obtain ⟨_, h⟩ := h))
  · obtain ⟨a, p, q, c, rfl, hS, hr0, hc1, hc, k⟩ := h
    have hsz := sizeLine_eq
    have hq := hr0.q30
    have hp := hr0.p1
    have hpq := hr0.pq
    have lw : ∀ n, (wtsV p q n).length = n := fun n => by unfold wtsV; rw [List.length_map, List.length_range]
    refine ⟨_, (pss_cons (ps_set (i := 2) sc__law_weights.nd rfl (.inl rfl) (pe_lst (pa_cons pe_int pa_nil)))
      (pss_cons (ps_for PassesOwn.never rfl (pi_range1 (by rfl) B.range_ (pa_cons (pe_op op_sub (pv 1) pe_int) pa_nil)) (pg_name (i := 3) sc__law_weights.nd rfl (.inl rfl))
      (pss_one (ps_set (i := 2) sc__law_weights.nd rfl (.inl rfl) (pe_op op_cat (pe_lc (own := [("_law_one", 4)]) (g := gName 4) (tt := tYes) rfl sc__law_weights.nd (pi_list (pv 2)) (blkOk_by (own := [("_law_one", 4)]) (N := ["_law_ratio_here", "_law_count", "_law_found", "_law_k", "_law_one"]) (sc := defScope s__law_weights) (by decide +kernel)) (fun _ _ _ _ _ => (pg_name (i := 4) sc__law_weights.nd rfl (.inl rfl))) (fun _ _ _ _ _ => pts_nil) (fun _ _ _ _ _ => (pe_op op_mul (pv 4) (pe_ix (ix_tup_ K) (pv 0) pe_int (fun _ _ => rfl))))) (pe_lst (pa_cons (pe_op op_mul (pe_ix (ix_list_ K) (pv 2) (pe_un un_neg pe_int) (fun _ _ => rfl)) (pe_ix (ix_tup_ K) (pv 0) pe_int (fun _ _ => rfl))) pa_nil))))))
      (pss_one (ps_ret (pv 2))))), ?_⟩
    refine ⟨(by show 1 ≤ sizeLine; omega), fun D nD => ?_⟩
    refine ⟨_, rfl, _, _, rfl, rfl, _, rfl, by omega, by omega, ?_⟩
    rw [show (((c : Int) - 1).toNat) = c - 1 by omega]
    refine for_range (lo := 0) (n := c - 1) (fun j σ H2 => ∃ (F : Addr) (v3 v4 : Option V), σ = [some (.ref a), some (.int (c : Nat)), some (.ref F), v3, v4] ∧ Same H H2 ∧ H F = none ∧ H2 F = some (.lst (wtsV p q (j + 1)))) ⟨D, _, _, rfl, same_new nD _, nD, ?_⟩ ?_ ?_
    · rw [upd_same]
      rfl
    · rintro j σ H2 hj ⟨F, v3, v4, rfl, s2, nF, eF⟩
      have hS2 : ∀ {H' : Hp}, Same H2 H' → SqT K H' a [.int (p : Nat), .int (q : Nat)] := fun s => Same.seqT (s2.trans s) hS
      refine ⟨_, rfl, F, rfl, ⟨_, .inl (.inl eF)⟩, fun L nL => ?_⟩
      refine lc_list (K := K) (a := F) (xs := wtsV p q (j + 1)) (fun i H3 => Same H2 H3 ∧ H3 L = some (.lst (((wtsV p q (j + 1)).take i).map fun v => match v with | .int z => V.int (z * (q : Int)) | v => v))) ⟨same_new nL _, upd_same⟩ (fun i H3 _ h => .inl (.inl (h.1 _ _ eF))) ?_ ?_
      · rintro i x H3 hx ⟨s3, eL⟩
        have hi : i < j + 1 := lw (j + 1) ▸ (List.getElem?_eq_some_iff.mp hx).1
        have ex : x = V.int (wtF p q (j + 1) i) := by
          have hx' := hx
          unfold wtsV at hx'
          rw [List.getElem?_map, List.getElem?_range hi] at hx'
          exact (Option.some.inj hx').symm
        subst ex
        refine ⟨rfl, _, rfl, _, rfl, a, _, 1, _, rfl, rfl, hS2 s3, rfl, _, _, rfl, rfl, .inr (by omega), _, eL, ?_, fun b o ho => ?_, ?_⟩
        · rw [List.length_map, List.length_take]
          omega
        · rw [upd_ne (ne_of_none ho nL)]
          exact s3 _ _ ho
        · rw [upd_same, take_more hx, List.map_append]
          rfl
      rintro H3 ⟨s3, eL⟩
      rw [List.take_length] at eL
      have elast : atI (wtsV p q (j + 1)) (-1) = some (V.int ((p : Int) ^ j)) := by
        have e : wtsV p q (j + 1) = (List.range j).map (fun i => V.int (wtF p q (j + 1) i)) ++ [V.int ((p : Int) ^ j)] := by
          unfold wtsV
          rw [List.range_succ, List.map_append]
          congr 1
          show [V.int (wtF p q (j + 1) j)] = _
          unfold wtF
          rw [show j + 1 - 1 - j = 0 by omega, Int.pow_zero, Int.mul_one]
        rw [e]
        exact atI_last _ _
      refine ⟨_, rfl, _, rfl, F, _, _, _, rfl, rfl, .inl (.inl (s3 _ _ eF)), elast, _, rfl, a, _, 0, _, rfl, rfl, hS2 s3, rfl, _, _, rfl, rfl, .inr (by omega), (by show 1 ≤ sizeLine; omega), fun M nM => ?_⟩
      have s4 := same_new nM (.lst [.int ((p : Int) ^ j * (p : Int))])
      refine ⟨L, M, _, _, rfl, rfl, s4 _ _ eL, upd_same, by rw [List.length_map, lw]; show j + 1 + 1 ≤ sizeLine; omega, fun N nN => ?_⟩
      have s5 := (s3.trans s4).trans (same_new nN (.lst (((wtsV p q (j + 1)).map fun v => match v with | .int z => V.int (z * (q : Int)) | v => v) ++ [.int ((p : Int) ^ j * (p : Int))])))
      refine ⟨N, _, _, rfl, s2.trans s5, s2.free ((s3.trans s4).free nN), ?_⟩
      rw [upd_same, ← wts_step]
    · rintro σ H2 ⟨F, v3, v4, rfl, s2, nF, eF⟩
      rw [show c - 1 + 1 = c by omega] at eF
      exact ⟨_, rfl, k F H2 s2 nF eF⟩
end

abbrev s__law_next : Stmt := topS 30
theorem sc__law_next : FnScope ["_law_h", "_law_cap", "_law_cell"] ["_law_h", "_law_cap"] (defScope s__law_next) := ⟨rfl, rfl, rfl, by decide +kernel, rfl, by decide +kernel, by decide +kernel⟩
def sp__law_next (K : PySem.W.Frag) : Sp := fun vs H Q _ => ∃ (h q : Addr) (cap : Int), vs = [.ref h, .int cap] ∧ LawH H h q ∧ 0 < cap ∧ cap < 2 ^ 300 ∧
  ∀ (k : Int) (H' : Hp), 0 ≤ k → k < cap → LawH H' h q → Sm h q H H' → Q (.int k) H'
theorem cap_wide {cap : Int} (h : 0 < cap) (h' : cap < 2 ^ 300) : CDivW z cap := wide_div (b := 300) h (by omega) (by decide) (by decide)
section
variable {P : Program} {w : World} {K : PySem.W.Frag} {mg : Str → Option Value} {base : Heap}
theorem ok__law_next (A : At K mg "_law_next" s__law_next ["_law_h", "_law_cap"]) (B : Bn mg) : CalE P w K mg base "_law_next" ["_law_h", "_law_cap"] 1 (sp__law_next K) := by
  obtain ⟨f, fd, F, gF, bF⟩ := A
  refine ⟨f, fd, F.ok sc__law_next (fun vs H Q E h => ?_) (fun cdv A outer s H vs Q E hr h => ?_), gF, F.kp, bF⟩
  · repeat (first | (obtain ⟨rfl, _⟩ := h; rfl) | (obtain ⟨_, h⟩ := h))
  · obtain ⟨h, q, cap, rfl, L, c0, c1, k⟩ := h
    refine ⟨_, (pss_cons (ps_set (i := 2) sc__law_next.nd rfl (.inl rfl) (pe_ix (ix_list_ K) (pe_op op_cat (pe_ix (ix_list_ K) (pv 0) pe_int (fun _ _ => rfl)) (pe_lst (pa_cons pe_int pa_nil))) (pe_op op_mod (pe_callTy call_int1 (by rfl) B.int_ (by decide +kernel) (pa_cons (pe_ix (ix_list_ K) (pv 0) pe_int (fun _ _ => rfl)) pa_nil)) (pe_callB (call_max2 rfl) (by rfl) B.max_ (by decide +kernel) (pa_cons pe_int (pa_cons (pe_callB (call_len_seq_ K) (by rfl) B.len_ (by decide +kernel) (pa_cons (pe_ix (ix_list_ K) (pv 0) pe_int (fun _ _ => rfl)) pa_nil)) pa_nil)))) (fun _ _ => rfl)))
      (pss_cons (ps_if (pt_cmpR op_ge (pv 2) (pe_op op_pow pe_int pe_int) (nomark _))
      (pss_cons (ps_asg (pe_op op_fdivW (pv 2) (pv 1)) (pg_sub (pe_ix (ix_list_ K) (pv 0) pe_int (fun _ _ => rfl)) (pe_op op_mod (pe_callTy call_int1 (by rfl) B.int_ (by decide +kernel) (pa_cons (pe_ix (ix_list_ K) (pv 0) pe_int (fun _ _ => rfl)) pa_nil)) (pe_callB (call_len_seq_ K) (by rfl) B.len_ (by decide +kernel) (pa_cons (pe_ix (ix_list_ K) (pv 0) pe_int (fun _ _ => rfl)) pa_nil))) set_list))
      (pss_one (ps_ret (pe_op op_mod (pe_callTy call_int1 (by rfl) B.int_ (by decide +kernel) (pa_cons (pv 2) pa_nil)) (pv 1)))))
      pss_nil)
      (pss_cons (ps_asg (pe_op op_mod (pe_callTy call_int1 (by rfl) B.int_ (by decide +kernel) (pa_cons (pe_op op_add (pe_op op_add (pe_op op_mul (pe_ix (ix_list_ K) (pv 0) pe_int (fun _ _ => rfl)) pe_int) (pe_op op_mul (pv 2) pe_int)) pe_int) pa_nil)) pe_int) (pg_sub (pv 0) pe_int set_list))
      (pss_cons (ps_asg (pe_op op_add (pe_ix (ix_list_ K) (pv 0) pe_int (fun _ _ => rfl)) pe_int) (pg_sub (pv 0) pe_int set_list))
      (pss_one (ps_ret (pe_op op_mod (pe_callTy call_int1 (by rfl) B.int_ (by decide +kernel) (pa_cons (pe_op op_fdiv (pe_ix (ix_list_ K) (pv 0) pe_int (fun _ _ => rfl)) pe_int) pa_nil)) (pv 1)))))))), ?_⟩
    obtain ⟨hne, st, ix, cells, eh, eq, hl⟩ := id L
    have sL : SqL K H h [.int st, .ref q, .int ix] := .inl (.inl eh)
    have sQ : SqL K H q (cells.map V.int) := .inl (.inl eq)
    have l3 : ([V.int 0] : List V).length ≤ sizeLine := by show 1 ≤ sizeLine; decide
    have lm : (cells.map V.int).length = cells.length := List.length_map _
    -- (h[1] + [0])[h[2] % max(1, len(h[1]))]
    refine ⟨_, rfl, h, _, 1, _, rfl, rfl, sL, rfl, l3, fun z nz => ?_⟩
    have s1 : Same H (upd H z (.lst [.int 0])) := same_new nz _
    have lq : (cells.map V.int).length + ([V.int 0] : List V).length ≤ sizeLine := by
      rw [lm]
      show cells.length + 1 ≤ sizeLine
      have := sizeLine_eq
      omega
    refine ⟨q, z, _, _, rfl, rfl, s1 _ _ eq, upd_same, lq, fun z2 nz2 => ?_⟩
    have s2 := s1.trans (same_new nz2 (.lst (cells.map V.int ++ [.int 0])))
    have e2 : (upd (upd H z (.lst [.int 0])) z2 (.lst (cells.map V.int ++ [.int 0]))) z2 = some (.lst (cells.map V.int ++ [.int 0])) := upd_same
    generalize upd (upd H z (.lst [.int 0])) z2 (.lst (cells.map V.int ++ [.int 0])) = H2 at *
    obtain ⟨m, em, hm⟩ : ∃ m : Int, (if ((cells.map V.int).length : Int) > 1 then ((cells.map V.int).length : Int) else 1) = m ∧ (0 < m ∧ m ≤ cells.length + 1 ∧ (cells = [] → m = 1) ∧ (cells ≠ [] → m = cells.length)) := by
      refine ⟨_, rfl, ?_⟩
      rw [lm]
      cases cells with
      | nil => simp
      | cons c r =>
        simp only [List.length_cons]
        split
        · exact ⟨by omega, by omega, (fun z => by cases z), fun _ => rfl⟩
        · exact ⟨by omega, by omega, (fun z => by cases z), fun _ => by omega⟩
    obtain ⟨m0, m1, m2, m3⟩ := hm
    have j0 : 0 ≤ ix % m := Int.emod_nonneg _ (by omega)
    have j1 : ix % m < m := Int.emod_lt_of_pos _ m0
    obtain ⟨j, ej⟩ : ∃ j : Nat, ix % m = (j : Int) := ⟨(ix % m).toNat, by omega⟩
    obtain ⟨c, ec, hc⟩ : ∃ c : Int, (cells.map V.int ++ [V.int 0])[j]? = some (.int c) ∧ (10 ^ 18 ≤ c → j < cells.length ∧ cells ≠ []) := by
      by_cases hj : j < cells.length
      · refine ⟨cells[j], ?_, fun _ => ⟨hj, fun z => by rw [z] at hj; cases hj⟩⟩
        rw [List.getElem?_append_left (by rw [lm]; exact hj), List.getElem?_map, List.getElem?_eq_getElem hj]
        rfl
      · have hn : j = cells.length := by
          by_cases hc : cells = []
          · have := m2 hc
            subst hc
            simp
            omega
          · have := m3 hc
            omega
        subst hn
        refine ⟨0, ?_, fun z => by omega⟩
        rw [List.getElem?_append_right (by rw [lm]; exact Nat.le_refl _), lm, Nat.sub_self]
        rfl
    refine ⟨_, rfl, h, _, 2, _, rfl, rfl, s2.seq sL, rfl, .inl ⟨ix, rfl, _, rfl, h, _, 1, _, rfl, rfl, s2.seq sL, rfl, q, _, rfl, .inl (s2.seq sQ), 1, _, rfl, ?_⟩⟩
    show rI (fun _ j => 0 < j) (fun i j => V.int (i % j)) (V.int ix) (.int (if ((cells.map V.int).length : Int) > 1 then ((cells.map V.int).length : Int) else 1)) H2 _
    rw [em]
    refine ⟨_, _, rfl, rfl, m0, z2, _, _, _, rfl, rfl, .inl (.inl e2), by rw [ej]; exact atI_nat ec, ?_⟩
    -- if _law_cell >= 10 ** 18
    refine ⟨_, rfl, _, _, rfl, rfl, ⟨by decide, by decide, by decide⟩, _, _, rfl, rfl, _, rfl, ?_⟩
    have h2 := s2.seq sL
    have q2 := s2.seq sQ
    have eh2 := s2 _ _ eh
    have eq2 := s2 _ _ eq
    refine ite2 (fun b => ?_) (fun b => ?_)
    · have b' : 10 ^ 18 ≤ c := of_decide_eq_true b
      obtain ⟨hj, hne0⟩ := hc b'
      have m4 := m3 hne0
      refine ⟨_, rfl, _, rfl, _, _, rfl, rfl, cap_wide c0 c1, ?_⟩
      refine ⟨_, rfl, h, _, 1, _, rfl, rfl, h2, rfl, _, rfl, h, _, 2, _, rfl, rfl, h2, rfl, .inl ⟨ix, rfl, _, rfl, h, _, 1, _, rfl, rfl, h2, rfl, q, _, rfl, .inl q2, _, _, rfl, rfl, ?_, ?_⟩⟩
      · show (0 : Int) < ((cells.map V.int).length : Int)
        rw [lm]
        omega
      refine ⟨q, _, _, j, rfl, rfl, eq2, ?_, ?_⟩
      · rw [lm, ← m4, ej]
        unfold ixN
        rw [if_pos (by omega), if_pos (by omega), Int.toNat_natCast]
      refine ⟨_, rfl, .inl ⟨_, rfl, _, rfl, _, _, rfl, rfl, c0, ?_⟩⟩
      refine k _ _ (Int.emod_nonneg _ (by omega)) (Int.emod_lt_of_pos _ c0) ⟨hne, st, ix, cells.set j (c / cap), by rw [upd_ne hne]; exact eh2, by rw [upd_same, List.map_set], by rw [List.length_set]; exact hl⟩ (fun b o e n1 n2 => ?_)
      rw [upd_ne n2]
      exact s2 _ _ e
    · refine ⟨_, rfl, h, _, 0, _, rfl, rfl, h2, rfl, _, _, rfl, rfl, .inr (by omega), _, rfl, _, _, rfl, rfl, .inr (by omega), _, _, rfl, rfl, _, _, rfl, rfl, .inl ⟨_, rfl, _, _, rfl, rfl, (by decide : (0 : Int) < 2147483647), ?_⟩⟩
      refine ⟨_, rfl, h, _, 0, 0, rfl, rfl, eh2, rfl, ?_⟩
      have e3 := @upd_same H2 h (.lst [.int ((st * 48271 + c * 69621 + 11) % 2147483647), .ref q, .int ix])
      refine ⟨_, rfl, h, _, 2, _, rfl, rfl, .inl (.inl e3), rfl, _, _, rfl, rfl, _, rfl, h, _, 2, 2, rfl, rfl, e3, rfl, ?_⟩
      refine ⟨_, rfl, h, _, 0, _, rfl, rfl, .inl (.inl upd_same), rfl, _, _, rfl, rfl, ⟨by decide, by decide⟩, .inl ⟨_, rfl, _, rfl, _, _, rfl, rfl, c0, ?_⟩⟩
      refine k _ _ (Int.emod_nonneg _ (by omega)) (Int.emod_lt_of_pos _ c0) ⟨hne, _, _, cells, upd_same, by rw [upd_ne hne.symm, upd_ne hne.symm]; exact eq2, hl⟩ (fun b o e n1 n2 => ?_)
      rw [upd_ne n1, upd_ne n1]
      exact s2 _ _ e
end

abbrev s__law_pick : Stmt := topS 32
theorem sc__law_pick : FnScope ["_law_h", "_law_things"] ["_law_h", "_law_things"] (defScope s__law_pick) := ⟨rfl, rfl, rfl, by decide +kernel, rfl, by decide +kernel, by decide +kernel⟩
def sp__law_pick (K : PySem.W.Frag) : Sp := fun vs H Q _ => ∃ (h q t : Addr) (xs : List V), vs = [.ref h, .ref t] ∧ LawH H h q ∧ SqL K H t xs ∧ t ≠ h ∧ t ≠ q ∧ xs ≠ [] ∧ xs.length ≤ 1000 ∧
  ∀ (k : Nat) (x : V) (H' : Hp), xs[k]? = some x → LawH H' h q → Sm h q H H' → Q x H'
theorem pickI {K : PySem.W.Frag} {H0 : Hp} {h q t : Addr} {xs : List V} {Q : VK} (L : LawH H0 h q) (nt : H0 t = none) (hx : xs ≠ []) (hl : xs.length ≤ 1000) (k : ∀ x ∈ xs, ∀ H', LawH H' h q → Sm h q H0 H' → Q x H') : sp__law_pick K [.ref h, .ref t] (upd H0 t (.lst xs)) Q E0 := by
  have s3 := same_new nt (.lst xs)
  obtain ⟨hne, st, ix, cells, eh, eq, _⟩ := id L
  exact ⟨h, q, t, _, rfl, L.same s3, .inl (.inl upd_same), ne_new eh nt, ne_new eq nt, hx, hl, fun j x H3 ex L3 S3 => k x (List.mem_of_getElem? ex) H3 L3 (Sm.trans (Sm.of s3) S3)⟩
section
variable {P : Program} {w : World} {K : PySem.W.Frag} {mg : Str → Option Value} {base : Heap}
theorem ok__law_pick (A : At K mg "_law_pick" s__law_pick ["_law_h", "_law_things"]) (B : Bn mg) (H__law_next : CalE P w K mg base "_law_next" ["_law_h", "_law_cap"] 1 (sp__law_next K)) : CalE P w K mg base "_law_pick" ["_law_h", "_law_things"] 2 (sp__law_pick K) := by
  obtain ⟨f, fd, F, gF, bF⟩ := A
  obtain ⟨f__law_next, fd__law_next, G__law_next⟩ := H__law_next
  refine ⟨f, fd, F.ok sc__law_pick (fun vs H Q E h => ?_) (fun cdv A outer s H vs Q E hr h => ?_), gF, F.kp, bF⟩
  · repeat (first | (obtain ⟨rfl, _⟩ := h; rfl) | (obtain ⟨_, h⟩ := h))
  · obtain ⟨h, q, t, xs, rfl, L, hS, n1, n2, hx, hl, k⟩ := h
    have hp : 0 < xs.length := List.length_pos_iff.mpr hx
    refine ⟨_, (pss_one (ps_ret (pe_ix (ix_list_ K) (pv 1) (pe_call G__law_next.ok (hr.mono (by first | decide | exact Nat.le_refl _)) (by rfl) G__law_next.g G__law_next.kp G__law_next.b .nil pass0 (pa_cons (pv 0) (pa_cons (pe_callB (call_len_seq_ K) (by rfl) B.len_ (by decide +kernel) (pa_cons (pv 1) pa_nil)) pa_nil))) (fun _ _ => rfl)))), ?_⟩
    refine ⟨_, rfl, _, rfl, _, rfl, t, xs, rfl, .inl hS, h, q, _, rfl, L, by omega, by omega, fun j H' j0 j1 L' S' => ?_⟩
    obtain ⟨i, rfl⟩ : ∃ i : Nat, j = (i : Int) := ⟨j.toNat, by omega⟩
    have hi : i < xs.length := by omega
    have ex : xs[i]? = some xs[i] := List.getElem?_eq_getElem hi
    exact ⟨t, xs, _, _, rfl, rfl, S'.seq n1 n2 hS, atI_nat ex, k i _ H' ex L' S'⟩
end

abbrev s__law_ratio : Stmt := topS 35
theorem sc__law_ratio : FnScope ["_law_h", "_law_q"] ["_law_h"] (defScope s__law_ratio) := ⟨rfl, rfl, rfl, by decide +kernel, rfl, by decide +kernel, by decide +kernel⟩
def sp__law_ratio (K : PySem.W.Frag) : Sp := fun vs H Q _ => ∃ (h q : Addr), vs = [.ref h] ∧ LawH H h q ∧
  ∀ (r : Addr) (x y : Nat) (H' : Hp), IsRat x y → LawH H' h q → Sm h q H H' → H' r = some (.tup [.int (x : Nat), .int (y : Nat)]) → Q (.ref r) H'
section
variable {P : Program} {w : World} {K : PySem.W.Frag} {mg : Str → Option Value} {base : Heap}
theorem ok__law_ratio (A : At K mg "_law_ratio" s__law_ratio ["_law_h"]) (B : Bn mg) (H__law_next : CalE P w K mg base "_law_next" ["_law_h", "_law_cap"] 1 (sp__law_next K)) (H__law_pick : CalE P w K mg base "_law_pick" ["_law_h", "_law_things"] 2 (sp__law_pick K)) : CalE P w K mg base "_law_ratio" ["_law_h"] 3 (sp__law_ratio K) := by
  obtain ⟨f, fd, F, gF, bF⟩ := A
  obtain ⟨f__law_next, fd__law_next, G__law_next⟩ := H__law_next
  obtain ⟨f__law_pick, fd__law_pick, G__law_pick⟩ := H__law_pick
  refine ⟨f, fd, F.ok sc__law_ratio (fun vs H Q E h => ?_) (fun cdv A outer s H vs Q E hr h => ?_), gF, F.kp, bF⟩
  · repeat (first | (obtain ⟨rfl, _⟩ := h; rfl) | (obtain ⟨_, h⟩ := h))
  · obtain ⟨h, q, rfl, L, k⟩ := h
    refine ⟨_, (pss_cons (ps_set (i := 1) sc__law_ratio.nd rfl (.inl rfl) (pe_op op_add pe_int (pe_call G__law_next.ok (hr.mono (by first | decide | exact Nat.le_refl _)) (by rfl) G__law_next.g G__law_next.kp G__law_next.b .nil pass0 (pa_cons (pv 0) (pa_cons (pe_call G__law_pick.ok (hr.mono (by first | decide | exact Nat.le_refl _)) (by rfl) G__law_pick.g G__law_pick.kp G__law_pick.b .nil pass0 (pa_cons (pv 0) (pa_cons (pe_lst (pa_cons pe_int (pa_cons pe_int (pa_cons pe_int pa_nil)))) pa_nil))) pa_nil)))))
      (pss_one (ps_ret (pe_ifExp (pt_cmpR op_eq (pe_call G__law_next.ok (hr.mono (by first | decide | exact Nat.le_refl _)) (by rfl) G__law_next.g G__law_next.kp G__law_next.b .nil pass0 (pa_cons (pv 0) (pa_cons pe_int pa_nil))) pe_int (nomark _)) (pe_tup (pa_cons (pe_op op_add pe_int (pe_call G__law_next.ok (hr.mono (by first | decide | exact Nat.le_refl _)) (by rfl) G__law_next.g G__law_next.kp G__law_next.b .nil pass0 (pa_cons (pv 0) (pa_cons (pe_op op_sub (pv 1) pe_int) pa_nil)))) (pa_cons (pv 1) pa_nil))) (pe_tup (pa_cons (pe_op op_sub (pv 1) pe_int) (pa_cons (pv 1) pa_nil))))))), ?_⟩
    refine ⟨_, rfl, _, rfl, (by show 3 ≤ sizeLine; decide), fun t nt => pickI L nt (fun z => by cases z) (by show 3 ≤ 1000; decide) fun x hx H1 L1 S1 => ?_⟩
    obtain ⟨c, rfl, c0, c1⟩ : ∃ c : Int, x = .int c ∧ 2 ≤ c ∧ c ≤ 29 := by
      simp only [List.mem_cons, List.not_mem_nil, or_false] at hx
      rcases hx with rfl | rfl | rfl <;> exact ⟨_, rfl, by decide, by decide⟩
    refine ⟨h, q, c, rfl, L1, by omega, by omega, fun z H2 z0 z1 L2 S2 => ?_⟩
    obtain ⟨y, rfl⟩ : ∃ y : Nat, z = (y : Int) := ⟨z.toNat, by omega⟩
    refine ⟨_, _, rfl, rfl, ?_⟩
    -- next(h, 2) == 0
    refine ⟨_, rfl, h, q, 2, rfl, L2, by decide, by decide, fun u H3 u0 u1 L3 S3 => ?_⟩
    have ey : (2 + (y : Int)) = ((2 + y : Nat) : Int) := by omega
    refine ⟨rfl, _, rfl, ite2 (fun _ => ?_) (fun _ => ?_)⟩
    · refine ⟨_, rfl, _, rfl, _, _, rfl, rfl, h, q, _, rfl, L3, by omega, by omega, fun v H4 v0 v1 L4 S4 => ?_⟩
      obtain ⟨p, rfl⟩ : ∃ p : Nat, v = (p : Int) := ⟨v.toNat, by omega⟩
      refine ⟨_, _, rfl, rfl, _, rfl, (by show 2 ≤ sizeLine; decide), fun r nr => ?_⟩
      have s5 := same_new nr (.tup [.int (1 + (p : Int)), .int (2 + (y : Int))])
      refine k r (1 + p) (2 + y) _ ⟨by omega, by omega, by omega⟩ (L4.same s5) (S1.trans (S2.trans (S3.trans (S4.trans (Sm.of s5))))) ?_
      rw [upd_same]
      show some (HO.tup [V.int (1 + (p : Int)), V.int (2 + (y : Int))]) = _
      rw [ey, show (1 + (p : Int)) = ((1 + p : Nat) : Int) by omega]
    · refine ⟨_, rfl, _, _, rfl, rfl, _, rfl, (by show 2 ≤ sizeLine; decide), fun r nr => ?_⟩
      have s5 := same_new nr (.tup [.int (2 + (y : Int) - 1), .int (2 + (y : Int))])
      refine k r (1 + y) (2 + y) _ ⟨by omega, by omega, by omega⟩ (L3.same s5) (S1.trans (S2.trans (S3.trans (Sm.of s5)))) ?_
      rw [upd_same]
      show some (HO.tup [V.int (2 + (y : Int) - 1), V.int (2 + (y : Int))]) = _
      rw [ey, show (((2 + y : Nat) : Int) - 1) = ((1 + y : Nat) : Int) by omega]
end

abbrev s_is_integer : Stmt := topS 9
theorem sc_is_integer : FnScope ["thing", "low", "high"] ["thing", "low", "high"] (defScope s_is_integer) := ⟨rfl, rfl, rfl, by decide +kernel, rfl, by decide +kernel, by decide +kernel⟩
/-- the values of «any value» -/
inductive AnyV (K : PySem.W.Frag) (H : Hp) : V → Prop
  | non : AnyV K H .non
  | bl (b : Bool) : AnyV K H (.bl b)
  | int (i : Int) : AnyV K H (.int i)
  | str (x : Str) : AnyV K H (.str x)
  | lst {a : Addr} (h : TyX K H (.ref a) (.type "list")) : AnyV K H (.ref a)
  | tup {a : Addr} (h : TyX K H (.ref a) (.type "tuple")) : AnyV K H (.ref a)
  | dct {a : Addr} (h : TyX K H (.ref a) (.type "dict")) : AnyV K H (.ref a)
def isI (x : V) (lo hi : Int) : Bool := match x with
  | .int n => decide (lo ≤ n) && decide (n ≤ hi)
  | _ => false
theorem isI_yes {n lo hi : Int} (h : lo ≤ n) (h' : n ≤ hi) : isI (.int n) lo hi = true := by
  show (decide (lo ≤ n) && decide (n ≤ hi)) = true
  rw [decide_eq_true h, decide_eq_true h']
  rfl
def sp_is_integer (K : PySem.W.Frag) : Sp := fun vs H Q _ => ∃ (x : V) (lo hi : Int), vs = [x, .int lo, .int hi] ∧ AnyV K H x ∧ Q (.bl (isI x lo hi)) H
section
variable {P : Program} {w : World} {K : PySem.W.Frag} {mg : Str → Option Value} {base : Heap}
theorem ok_is_integer (A : At K mg "is_integer" s_is_integer ["thing", "low", "high"]) (B : Bn mg) : CalE P w K mg base "is_integer" ["thing", "low", "high"] 1 (sp_is_integer K) := by
  obtain ⟨f, fd, F, gF, bF⟩ := A
  refine ⟨f, fd, F.ok sc_is_integer (fun vs H Q E h => ?_) (fun cdv A outer s H vs Q E hr h => ?_), gF, F.kp, bF⟩
  · repeat (first | (obtain ⟨rfl, _⟩ := h; rfl) | (obtain ⟨_, h⟩ := h))
  · obtain ⟨x, lo, hi, rfl, hx, q⟩ := h
    refine ⟨_, (pss_one (ps_ret (pe_and (pe_callB (call_isi_ K) (by rfl) B.isinstance_ (by decide +kernel) (pa_cons (pv 0) (pa_cons (pe_bltn (v := .ty "int") (by rfl) B.int_ (by decide +kernel) rfl) pa_nil))) (pe_and (pe_not (pe_callB (call_isi_ K) (by rfl) B.isinstance_ (by decide +kernel) (pa_cons (pv 0) (pa_cons (pe_bltn (v := .ty "bool") (by rfl) B.bool_ (by decide +kernel) rfl) pa_nil)))) (pe_one (pe_chain op_le op_le (pv 1) (pv 0) (pv 2))))))), ?_⟩
    have no : ∀ T : String, TyX K H x (.type T) → kitB T "int" = some false → isI x lo hi = false → (tRet (tAndV (tCB (rIsi K) (tCons (tVar 0) (tCons (tC (.ty "int")) tNil))) (tAndV (tNotV (tCB (rIsi K) (tCons (tVar 0) (tCons (tC (.ty "bool")) tNil)))) (tChain (rI0 fun i j => .bl (decide (i ≤ j))) (rI0 fun i j => .bl (decide (i ≤ j))) (tVar 1) (tVar 0) (tVar 2))))) { nx := fun _ H' => Q .non H', rt := Q } (start ["thing", "low", "high"] [x, .int lo, .int hi]) H := fun T hT hk hi => by
      refine ⟨_, rfl, _, _, _, _, false, rfl, .ty _, hT, kit_ty hk, _, rfl, iteF ?_⟩
      rw [hi] at q
      exact q
    cases hx with
    | non => exact no _ (.base .non) (by decide +kernel) rfl
    | str z => exact no _ (.base (.str z)) (by decide +kernel) rfl
    | lst h => exact no _ h (by decide +kernel) rfl
    | tup h => exact no _ h (by decide +kernel) rfl
    | dct h => exact no _ h (by decide +kernel) rfl
    | bl b =>
      refine ⟨_, rfl, _, _, _, _, true, rfl, .ty _, .base (.bl b), kit_ty (by decide +kernel), _, rfl, iteT ?_⟩
      refine ⟨_, rfl, _, _, _, _, true, rfl, .ty _, .base (.bl b), kit_ty (by decide +kernel), _, rfl, _, rfl, iteF ?_⟩
      exact q
    | int n =>
      refine ⟨_, rfl, _, _, _, _, true, rfl, .ty _, .base (.int n), kit_ty (by decide +kernel), _, rfl, iteT ?_⟩
      refine ⟨_, rfl, _, _, _, _, false, rfl, .ty _, .base (.int n), kit_ty (by decide +kernel), _, rfl, _, rfl, iteT ?_⟩
      refine ⟨_, rfl, _, rfl, _, _, rfl, rfl, _, rfl, ?_⟩
      have e : isI (.int n) lo hi = (decide (lo ≤ n) && decide (n ≤ hi)) := rfl
      rw [e] at q
      by_cases c : lo ≤ n
      · rw [decide_eq_true c]
        rw [decide_eq_true c, Bool.true_and] at q
        exact iteT ⟨_, rfl, _, _, rfl, rfl, q⟩
      · rw [decide_eq_false c]
        rw [decide_eq_false c, Bool.false_and] at q
        exact iteF q
end

abbrev s_is_ratio : Stmt := topS 14
theorem sc_is_ratio : FnScope ["thing"] ["thing"] (defScope s_is_ratio) := ⟨rfl, rfl, rfl, by decide +kernel, rfl, by decide +kernel, by decide +kernel⟩
def sp_is_ratio (K : PySem.W.Frag) : Sp := fun vs H Q _ => ∃ (a : Addr) (p q : Nat), vs = [.ref a] ∧ SqT K H a [.int (p : Nat), .int (q : Nat)] ∧ IsRat p q ∧ Q (.bl true) H
section
variable {P : Program} {w : World} {K : PySem.W.Frag} {mg : Str → Option Value} {base : Heap}
theorem ok_is_ratio (A : At K mg "is_ratio" s_is_ratio ["thing"]) (B : Bn mg) (H_is_integer : CalE P w K mg base "is_integer" ["thing", "low", "high"] 1 (sp_is_integer K)) (K_MOST_PARTS : ∃ v, mg "MOST_PARTS" = some v ∧ RelV (.int 30) v) : CalE P w K mg base "is_ratio" ["thing"] 2 (sp_is_ratio K) := by
  obtain ⟨f, fd, F, gF, bF⟩ := A
  obtain ⟨f_is_integer, fd_is_integer, G_is_integer⟩ := H_is_integer
  obtain ⟨v_MOST_PARTS, C_MOST_PARTS⟩ := K_MOST_PARTS
  refine ⟨f, fd, F.ok sc_is_ratio (fun vs H Q E h => ?_) (fun cdv A outer s H vs Q E hr h => ?_), gF, F.kp, bF⟩
  · repeat (first | (obtain ⟨rfl, _⟩ := h; rfl) | (obtain ⟨_, h⟩ := h))
  · obtain ⟨a, p, q, rfl, hS, hr0, k⟩ := h
    obtain ⟨_, rfl⟩ := C_MOST_PARTS.2
    have hp := hr0.p1
    have hpq := hr0.pq
    have hq := hr0.q30
    refine ⟨_, (pss_cons (ps_if (PW.pt (pw_or (pt_not (pt_val (pe_callB (call_isi_ K) (by rfl) B.isinstance_ (by decide +kernel) (pa_cons (pv 0) (pa_cons (pe_bltn (v := .ty "tuple") (by rfl) B.tuple_ (by decide +kernel) rfl) pa_nil))))) (pw_or1 (pt_cmpR op_ne (pe_callB (call_len_seq_ K) (by rfl) B.len_ (by decide +kernel) (pa_cons (pv 0) pa_nil)) pe_int (nomark _)))))
      (pss_one (ps_ret pe_bl))
      pss_nil)
      (pss_one (ps_ret (pe_and (pe_call G_is_integer.ok (hr.mono (by first | decide | exact Nat.le_refl _)) (by rfl) G_is_integer.g G_is_integer.kp G_is_integer.b .nil pass0 (pa_cons (pe_ix (ix_tup_ K) (pv 0) pe_int (fun _ _ => rfl)) (pa_cons pe_int (pa_cons (pe_glob (by rfl) C_MOST_PARTS.1 C_MOST_PARTS.2) pa_nil)))) (pe_one (pe_call G_is_integer.ok (hr.mono (by first | decide | exact Nat.le_refl _)) (by rfl) G_is_integer.g G_is_integer.kp G_is_integer.b .nil pass0 (pa_cons (pe_ix (ix_tup_ K) (pv 0) pe_int (fun _ _ => rfl)) (pa_cons pe_int (pa_cons (pe_op op_sub (pe_ix (ix_tup_ K) (pv 0) pe_int (fun _ _ => rfl)) pe_int) pa_nil))))))))), ?_⟩
    refine ⟨_, rfl, _, _, _, _, true, rfl, .ty _, tyT hS, kit_ty (by decide +kernel), _, rfl, iteF ?_⟩
    refine ⟨_, rfl, a, _, rfl, .inr hS, rfl, _, rfl, iteNS rfl ?_⟩
    refine ⟨_, rfl, a, _, 1, _, rfl, rfl, hS, rfl, _, _, _, rfl, .int _, ?_⟩
    rw [isI_yes (by omega) (by omega)]
    refine ⟨_, rfl, iteT ?_⟩
    refine ⟨_, rfl, a, _, 0, _, rfl, rfl, hS, rfl, _, rfl, a, _, 1, _, rfl, rfl, hS, rfl, _, _, rfl, rfl, _, _, _, rfl, .int _, ?_⟩
    rw [isI_yes (by omega) (by omega)]
    exact k
end

abbrev s_check_ratio : Stmt := topS 15
theorem sc_check_ratio : FnScope ["thing"] ["thing"] (defScope s_check_ratio) := ⟨rfl, rfl, rfl, by decide +kernel, rfl, by decide +kernel, by decide +kernel⟩
def sp_check_ratio (K : PySem.W.Frag) : Sp := fun vs H Q _ => ∃ (a : Addr) (p q : Nat), vs = [.ref a] ∧ SqT K H a [.int (p : Nat), .int (q : Nat)] ∧ IsRat p q ∧ Q .non H
section
variable {P : Program} {w : World} {K : PySem.W.Frag} {mg : Str → Option Value} {base : Heap}
theorem ok_check_ratio (A : At K mg "check_ratio" s_check_ratio ["thing"]) (B : Bn mg) (H_is_ratio : CalE P w K mg base "is_ratio" ["thing"] 2 (sp_is_ratio K)) : CalE P w K mg base "check_ratio" ["thing"] 3 (sp_check_ratio K) := by
  obtain ⟨f, fd, F, gF, bF⟩ := A
  obtain ⟨f_is_ratio, fd_is_ratio, G_is_ratio⟩ := H_is_ratio
  refine ⟨f, fd, F.ok sc_check_ratio (fun vs H Q E h => ?_) (fun cdv A outer s H vs Q E hr h => ?_), gF, F.kp, bF⟩
  · repeat (first | (obtain ⟨rfl, _⟩ := h; rfl) | (obtain ⟨_, h⟩ := h))
  · obtain ⟨a, p, q, rfl, hS, hr0, k⟩ := h
    refine ⟨_, (pss_one (ps_if (pt_not (pt_val (pe_call G_is_ratio.ok (hr.mono (by first | decide | exact Nat.le_refl _)) (by rfl) G_is_ratio.g G_is_ratio.kp G_is_ratio.b .nil pass0 (pa_cons (pv 0) pa_nil))))
      (pss_one ps_never)
      pss_nil)), ?_⟩
    exact ⟨_, rfl, a, p, q, rfl, hS, hr0, _, rfl, iteF k⟩
end

abbrev s_check_count : Stmt := topS 21
theorem sc_check_count : FnScope ["thing"] ["thing"] (defScope s_check_count) := ⟨rfl, rfl, rfl, by decide +kernel, rfl, by decide +kernel, by decide +kernel⟩
def sp_check_count (K : PySem.W.Frag) : Sp := fun vs H Q _ => ∃ m : Nat, vs = [.int (m : Nat)] ∧ 1 ≤ m ∧ m ≤ 40 ∧ Q .non H
section
variable {P : Program} {w : World} {K : PySem.W.Frag} {mg : Str → Option Value} {base : Heap}
theorem ok_check_count (A : At K mg "check_count" s_check_count ["thing"]) (B : Bn mg) (H_is_integer : CalE P w K mg base "is_integer" ["thing", "low", "high"] 1 (sp_is_integer K)) (K_MOST_COUNT : ∃ v, mg "MOST_COUNT" = some v ∧ RelV (.int 40) v) : CalE P w K mg base "check_count" ["thing"] 2 (sp_check_count K) := by
  obtain ⟨f, fd, F, gF, bF⟩ := A
  obtain ⟨f_is_integer, fd_is_integer, G_is_integer⟩ := H_is_integer
  obtain ⟨v_MOST_COUNT, C_MOST_COUNT⟩ := K_MOST_COUNT
  refine ⟨f, fd, F.ok sc_check_count (fun vs H Q E h => ?_) (fun cdv A outer s H vs Q E hr h => ?_), gF, F.kp, bF⟩
  · repeat (first | (obtain ⟨rfl, _⟩ := h; rfl) | (obtain ⟨_, h⟩ := h))
  · obtain ⟨m, rfl, h1, h2, k⟩ := h
    obtain ⟨_, rfl⟩ := C_MOST_COUNT.2
    refine ⟨_, (pss_one (ps_if (pt_not (pt_val (pe_call G_is_integer.ok (hr.mono (by first | decide | exact Nat.le_refl _)) (by rfl) G_is_integer.g G_is_integer.kp G_is_integer.b .nil pass0 (pa_cons (pv 0) (pa_cons pe_int (pa_cons (pe_glob (by rfl) C_MOST_COUNT.1 C_MOST_COUNT.2) pa_nil))))))
      (pss_one ps_never)
      pss_nil)), ?_⟩
    refine ⟨_, rfl, _, _, _, rfl, .int _, ?_⟩
    rw [isI_yes (by omega) (by omega)]
    exact ⟨_, rfl, iteF k⟩
end

abbrev s_power_of_two : Stmt := topS 11
theorem sc_power_of_two : FnScope ["times"] ["times"] (defScope s_power_of_two) := ⟨rfl, rfl, rfl, by decide +kernel, rfl, by decide +kernel, by decide +kernel⟩
def sp_power_of_two (K : PySem.W.Frag) : Sp := fun vs H Q _ => ∃ t : Nat, vs = [.int (t : Nat)] ∧ t ≤ 1000 ∧ Q (.int ((2 ^ t : Nat) : Int)) H
section
variable {P : Program} {w : World} {K : PySem.W.Frag} {mg : Str → Option Value} {base : Heap}
theorem ok_power_of_two (A : At K mg "power_of_two" s_power_of_two ["times"]) (B : Bn mg) : CalE P w K mg base "power_of_two" ["times"] 1 (sp_power_of_two K) := by
  obtain ⟨f, fd, F, gF, bF⟩ := A
  refine ⟨f, fd, F.ok sc_power_of_two (fun vs H Q E h => ?_) (fun cdv A outer s H vs Q E hr h => ?_), gF, F.kp, bF⟩
  · repeat (first | (obtain ⟨rfl, _⟩ := h; rfl) | (obtain ⟨_, h⟩ := h))
  · obtain ⟨t, rfl, ht, k⟩ := h
    refine ⟨_, (pss_one (ps_ret (pe_op op_shl pe_int (pv 0)))), ?_⟩
    refine ⟨_, rfl, _, _, rfl, rfl, ⟨by omega, by omega, by decide⟩, ?_⟩
    have e : (1 : Int) * 2 ^ ((t : Int)).toNat = ((2 ^ t : Nat) : Int) := by
      rw [Int.one_mul, Int.toNat_natCast, Int.natCast_pow]
      rfl
    show Q (.int ((1 : Int) * 2 ^ ((t : Int)).toNat)) H
    rw [e]
    exact k
end

abbrev s_chance_weights : Stmt := topS 20
theorem sc_chance_weights : FnScope ["ratio", "count", "found", "number", "weight", "place"] ["ratio", "count"] (defScope s_chance_weights) := ⟨rfl, rfl, rfl, by decide +kernel, rfl, by decide +kernel, by decide +kernel⟩
def sp_chance_weights (K : PySem.W.Frag) : Sp := fun vs H Q _ => ∃ (a : Addr) (p q c : Nat), vs = [.ref a, .int (c : Nat)] ∧ SqT K H a [.int (p : Nat), .int (q : Nat)] ∧ IsRat p q ∧ 1 ≤ c ∧ c ≤ 40 ∧
  ∀ (D : Addr) (H' : Hp), Same H H' → H D = none → H' D = some (.lst (wtsV p q c)) → Q (.ref D) H'
section
variable {P : Program} {w : World} {K : PySem.W.Frag} {mg : Str → Option Value} {base : Heap}
theorem ok_chance_weights (A : At K mg "chance_weights" s_chance_weights ["ratio", "count"]) (B : Bn mg) : CalE P w K mg base "chance_weights" ["ratio", "count"] 1 (sp_chance_weights K) := by
  obtain ⟨f, fd, F, gF, bF⟩ := A
  refine ⟨f, fd, F.ok sc_chance_weights (fun vs H Q E h => ?_) (fun cdv A outer s H vs Q E hr h => ?_), gF, F.kp, bF⟩
  · repeat (first | (obtain ⟨rfl, _⟩ := h; rfl) | (obtain ⟨_, h⟩ := h))
  · obtain ⟨a, p, q, c, rfl, hS, hr0, hc1, hc, k⟩ := h
    have hsz := sizeLine_eq
    have hq := hr0.q30
    have hp := hr0.p1
    have hpq := hr0.pq
    refine ⟨_, (pss_cons (ps_set (i := 2) sc_chance_weights.nd rfl (.inl rfl) (pe_lst pa_nil))
      (pss_cons (ps_for PassesOwn.never rfl (pi_range1 (by rfl) B.range_ (pa_cons (pv 1) pa_nil)) (pg_name (i := 3) sc_chance_weights.nd rfl (.inl rfl))
      (pss_cons (ps_set (i := 4) sc_chance_weights.nd rfl (.inl rfl) pe_int)
      (pss_cons (ps_for PassesOwn.never rfl (pi_range1 (by rfl) B.range_ (pa_cons (pe_op op_sub (pv 1) pe_int) pa_nil)) (pg_name (i := 5) sc_chance_weights.nd rfl (.inl rfl))
      (pss_one (ps_set (i := 4) sc_chance_weights.nd rfl (.inl rfl) (pe_op op_mul (pv 4) (pe_ifExp (pt_cmpR op_lt (pv 5) (pv 3) (nomark _)) (pe_ix (ix_tup_ K) (pv 0) pe_int (fun _ _ => rfl)) (pe_ix (ix_tup_ K) (pv 0) pe_int (fun _ _ => rfl)))))))
      (pss_one (ps_expr (pe_bm PySem.F.plainAttrs_list PySem.F.slot_list_append PySem.F.type_list_append mt_append (pv 2) (pa_cons (pv 4) pa_nil)))))))
      (pss_one (ps_ret (pv 2))))), ?_⟩
    refine ⟨(by show 0 ≤ sizeLine; omega), fun D nD => ?_⟩
    refine ⟨_, rfl, _, rfl, by omega, by omega, ?_⟩
    rw [Int.toNat_natCast]
    refine for_range (lo := 0) (n := c) (fun j σ H2 => ∃ v3 v4 v5, σ = [some (.ref a), some (.int (c : Nat)), some (.ref D), v3, v4, v5] ∧ Same H H2 ∧ H2 D = some (.lst ((wtsV p q c).take j))) ⟨_, _, _, rfl, same_new nD _, by rw [List.take_zero]; exact upd_same⟩ ?_ ?_
    · rintro j σ H2 hj ⟨v3, v4, v5, rfl, s2, eD⟩
      have hS2 := Same.seqT s2 hS
      refine ⟨_, rfl, _, _, rfl, rfl, _, rfl, by omega, by omega, ?_⟩
      rw [show (((c : Int) - 1).toNat) = c - 1 by omega]
      refine for_range (lo := 0) (n := c - 1) (fun i σ H3 => ∃ v5, σ = [some (.ref a), some (.int (c : Nat)), some (.ref D), some (.int (0 + (j : Int))), some (.int ((p : Int) ^ (min i j) * (q : Int) ^ (i - min i j))), v5] ∧ H3 = H2) ⟨v5, ?_, rfl⟩ ?_ ?_
      · rw [Nat.zero_min, Int.pow_zero, Nat.sub_zero, Int.pow_zero]
        rfl
      · rintro i σ H3 hi ⟨v5, rfl, rfl⟩
        refine ⟨_, rfl, _, rfl, _, rfl, _, _, rfl, rfl, _, rfl, ?_⟩
        by_cases c1 : i < j
        · refine iteDT (by omega) ⟨_, rfl, a, _, 0, _, rfl, rfl, hS2, rfl, _, _, rfl, rfl, .inr (by omega), some (.int (0 + (i : Int))), ?_, rfl⟩
          have e : (p : Int) ^ (min i j) * (q : Int) ^ (i - min i j) * (p : Int) = (p : Int) ^ (min (i + 1) j) * (q : Int) ^ (i + 1 - min (i + 1) j) := by
            rw [Nat.min_eq_left (by omega), Nat.min_eq_left (by omega), Nat.sub_self, Nat.sub_self, Int.pow_zero, Int.pow_succ]
            grind
          rw [← e]
          rfl
        · refine iteDF (by omega) ⟨_, rfl, a, _, 1, _, rfl, rfl, hS2, rfl, _, _, rfl, rfl, .inr (by omega), some (.int (0 + (i : Int))), ?_, rfl⟩
          have e : (p : Int) ^ (min i j) * (q : Int) ^ (i - min i j) * (q : Int) = (p : Int) ^ (min (i + 1) j) * (q : Int) ^ (i + 1 - min (i + 1) j) := by
            rw [Nat.min_eq_right (by omega), Nat.min_eq_right (by omega), show i + 1 - j = (i - j) + 1 by omega, Int.pow_succ]
            grind
          rw [← e]
          rfl
      · rintro σ H3 ⟨v5, rfl, rfl⟩
        refine ⟨_, rfl, .inl ⟨rfl, _, .inl (.inl eD)⟩, _, rfl, D, _, _, rfl, rfl, eD, ?_, _, _, _, rfl, fun b o ho => ?_, ?_⟩
        · rw [List.length_take]
          omega
        · rw [upd_ne (ne_of_none ho nD)]
          exact s2 _ _ ho
        · rw [upd_same, take_more (l := wtsV p q c) (i := j) (by unfold wtsV; rw [List.getElem?_map, List.getElem?_range hj]; rfl)]
          unfold wtF
          rw [Nat.min_eq_right (by omega)]
    · rintro σ H2 ⟨v3, v4, v5, rfl, s2, eD⟩
      rw [List.take_of_length_le (by unfold wtsV; rw [List.length_map, List.length_range]; exact Nat.le_refl _)] at eD
      exact ⟨_, rfl, k D H2 s2 nD eD⟩
end

abbrev s_limited_lengths : Stmt := topS 23
theorem sc_limited_lengths : FnScope ["ratio", "count", "most", "plain", "rows", "level", "pairs", "at", "one", "other", "found", "row", "number", "weight"] ["ratio", "count", "most"] (defScope s_limited_lengths) := ⟨rfl, rfl, rfl, by decide +kernel, rfl, by decide +kernel, by decide +kernel⟩
def sp_limited_lengths (K : PySem.W.Frag) : Sp := fun vs H Q _ => ∃ (a : Addr) (p q c m : Nat), vs = [.ref a, .int (c : Nat), .int (m : Nat)] ∧ SqT K H a [.int (p : Nat), .int (q : Nat)] ∧ IsRat p q ∧ 1 ≤ c ∧ c ≤ 40 ∧ 1 ≤ m ∧ m ≤ 12 ∧
  (2 ^ m < c → ∀ H', Same H H' → Q .non H') ∧
  (c ≤ 2 ^ m → ∀ (T : Addr) (ls : List Nat) (H' : Hp), ls.Perm ((List.range c).map (limG (wtF p q c) c m)) → ls.Pairwise (· ≤ ·) → Same H H' → H' T = some (.tup (ls.map fun n => V.int (n : Nat))) → Q (.ref T) H')
section
variable {P : Program} {w : World} {K : PySem.W.Frag} {mg : Str → Option Value} {base : Heap}
theorem ok_limited_lengths (A : At K mg "limited_lengths" s_limited_lengths ["ratio", "count", "most"]) (B : Bn mg) (H_check_ratio : CalE P w K mg base "check_ratio" ["thing"] 3 (sp_check_ratio K)) (H_check_count : CalE P w K mg base "check_count" ["thing"] 2 (sp_check_count K)) (H_is_integer : CalE P w K mg base "is_integer" ["thing", "low", "high"] 1 (sp_is_integer K)) (H_power_of_two : CalE P w K mg base "power_of_two" ["times"] 1 (sp_power_of_two K)) (H_chance_weights : CalE P w K mg base "chance_weights" ["ratio", "count"] 1 (sp_chance_weights K)) (K_MOST_LIMIT : ∃ v, mg "MOST_LIMIT" = some v ∧ RelV (.int 12) v) : CalE P w K mg base "limited_lengths" ["ratio", "count", "most"] 4 (sp_limited_lengths K) := by
  obtain ⟨f, fd, F, gF, bF⟩ := A
  obtain ⟨f_check_ratio, fd_check_ratio, G_check_ratio⟩ := H_check_ratio
  obtain ⟨f_check_count, fd_check_count, G_check_count⟩ := H_check_count
  obtain ⟨f_is_integer, fd_is_integer, G_is_integer⟩ := H_is_integer
  obtain ⟨f_power_of_two, fd_power_of_two, G_power_of_two⟩ := H_power_of_two
  obtain ⟨f_chance_weights, fd_chance_weights, G_chance_weights⟩ := H_chance_weights
  obtain ⟨v_MOST_LIMIT, C_MOST_LIMIT⟩ := K_MOST_LIMIT
  refine ⟨f, fd, F.ok sc_limited_lengths (fun vs H Q E h => ?_) (fun cdv A outer s H vs Q E hr h => ?_), gF, F.kp, bF⟩
  · repeat (first | (obtain ⟨rfl, _⟩ := h; rfl) | (obtain ⟨_, h⟩ := h))
  · obtain ⟨a, p, q, c, m, rfl, hS, hr0, hc1, hc, hm1, hm, k0, k⟩ := h
    have hsz := sizeLine_eq
    obtain ⟨_, rfl⟩ := C_MOST_LIMIT.2
    have lW : ∀ n, natL (fun _ => 0) n = (List.replicate n [V.int 0]).flatten := fun n => by
      induction n with
      | zero => rfl
      | succ n ih =>
        unfold natL at ih ⊢
        rw [List.replicate_succ', List.flatten_append, ← ih, List.range_succ, List.map_append]
        rfl
    have hrl := lim_len (wtF p q c) c
    have hrm := lim_ms (wtF p q c) c
    refine ⟨_, (pss_cons (ps_expr (pe_call G_check_ratio.ok (hr.mono (by first | decide | exact Nat.le_refl _)) (by rfl) G_check_ratio.g G_check_ratio.kp G_check_ratio.b .nil pass0 (pa_cons (pv 0) pa_nil)))
      (pss_cons (ps_expr (pe_call G_check_count.ok (hr.mono (by first | decide | exact Nat.le_refl _)) (by rfl) G_check_count.g G_check_count.kp G_check_count.b .nil pass0 (pa_cons (pv 1) pa_nil)))
      (pss_cons (ps_if (pt_not (pt_val (pe_call G_is_integer.ok (hr.mono (by first | decide | exact Nat.le_refl _)) (by rfl) G_is_integer.g G_is_integer.kp G_is_integer.b .nil pass0 (pa_cons (pv 2) (pa_cons pe_int (pa_cons (pe_glob (by rfl) C_MOST_LIMIT.1 C_MOST_LIMIT.2) pa_nil))))))
      (pss_one ps_never)
      pss_nil)
      (pss_cons (ps_if (pt_cmpR op_gt (pv 1) (pe_call G_power_of_two.ok (hr.mono (by first | decide | exact Nat.le_refl _)) (by rfl) G_power_of_two.g G_power_of_two.kp G_power_of_two.b .nil pass0 (pa_cons (pv 2) pa_nil)) (nomark _))
      (pss_one (ps_ret pe_non))
      pss_nil)
      (pss_cons (ps_set (i := 3) sc_limited_lengths.nd rfl (.inl rfl) (pe_callB (cr_sortedD_ K hr.units) (by rfl) B.sorted_ (by decide +kernel) (pa_cons (pe_lc (own := [("number", 12), ("weight", 13)]) (g := (gTup K 2 (gCons (gName 12) (gCons (gName 13) gNil)))) (tt := tYes) rfl sc_limited_lengths.nd (pi_enum (by rfl) B.enumerate_ (pa_cons (pe_call G_chance_weights.ok (hr.mono (by first | decide | exact Nat.le_refl _)) (by rfl) G_chance_weights.g G_chance_weights.kp G_chance_weights.b .nil pass0 (pa_cons (pv 0) (pa_cons (pv 1) pa_nil))) pa_nil)) (blkOk_by (own := [("number", 12), ("weight", 13)]) (N := ["ratio", "count", "most", "plain", "rows", "level", "pairs", "at", "one", "other", "found", "row", "number", "weight"]) (sc := defScope s_limited_lengths) (by decide +kernel)) (fun _ _ _ _ _ => (pg_tup (by rfl) (pgs_cons (pg_name (i := 12) sc_limited_lengths.nd rfl (.inl rfl)) (pgs_cons (pg_name (i := 13) sc_limited_lengths.nd rfl (.inl rfl)) pgs_nil)))) (fun _ _ _ _ _ => pts_nil) (fun _ _ _ _ _ => (pe_tup (pa_cons (pv 13) (pa_cons (pv 12) pa_nil))))) pa_nil)))
      (pss_cons (ps_setLc (i := 3) (own := [("at", 7), ("weight", 13), ("number", 12)]) (g := (gTup K 2 (gCons (gName 7) (gCons ((gTup K 2 (gCons (gName 13) (gCons (gName 12) gNil)))) gNil)))) (tt := tYes) rfl sc_limited_lengths.nd rfl rfl (sw_true rfl rfl rfl (by decide +kernel)) (pi_enum (by rfl) B.enumerate_ (pa_cons (pv 3) pa_nil)) (blkOk_by (own := [("at", 7), ("weight", 13), ("number", 12)]) (N := ["ratio", "count", "most", "plain", "rows", "level", "pairs", "at", "one", "other", "found", "row", "number", "weight"]) (sc := defScope s_limited_lengths) (by decide +kernel)) (fun _ _ _ _ _ => (pg_tup (by rfl) (pgs_cons (pg_name (i := 7) sc_limited_lengths.nd rfl (.inl rfl)) (pgs_cons (pg_tup (by rfl) (pgs_cons (pg_name (i := 13) sc_limited_lengths.nd rfl (.inl rfl)) (pgs_cons (pg_name (i := 12) sc_limited_lengths.nd rfl (.inl rfl)) pgs_nil))) pgs_nil)))) (fun _ _ _ _ _ => pts_nil) (fun _ _ _ _ _ => (pe_tup (pa_cons (pv 13) (pa_cons (pv 7) (pa_cons (pe_lst (pa_cons (pv 12) pa_nil)) pa_nil))))))
      (pss_cons (ps_set (i := 4) sc_limited_lengths.nd rfl (.inl rfl) (pe_lst pa_nil))
      (pss_cons (ps_for PassesOwn.never rfl (pi_range1 (by rfl) B.range_ (pa_cons (pv 2) pa_nil)) (pg_name (i := 5) sc_limited_lengths.nd rfl (.inl rfl))
      (pss_cons (ps_set (i := 6) sc_limited_lengths.nd rfl (.inl rfl) (pe_lst pa_nil))
      (pss_cons (ps_for PassesOwn.never rfl (pi_range3 (by rfl) B.range_ (pa_cons pe_int (pa_cons (pe_op op_sub (pe_callB (call_len_seq_ K) (by rfl) B.len_ (by decide +kernel) (pa_cons (pv 4) pa_nil)) pe_int) (pa_cons pe_int pa_nil)))) (pg_name (i := 7) sc_limited_lengths.nd rfl (.inl rfl))
      (pss_cons (ps_par (i := 8) (j := 9) (by rfl) sc_limited_lengths.nd rfl rfl (by decide) rfl rfl (pa_cons (pe_ix (ix_list_ K) (pv 4) (pv 7) (fun _ _ => rfl)) (pa_cons (pe_ix (ix_list_ K) (pv 4) (pe_op op_add (pv 7) pe_int) (fun _ _ => rfl)) pa_nil)) (by rfl))
      (pss_one (ps_expr (pe_bm PySem.F.plainAttrs_list PySem.F.slot_list_append PySem.F.type_list_append mt_append (pv 6) (pa_cons (pe_tup (pa_cons (pe_op op_add (pe_ix (ix_tup_ K) (pv 8) pe_int (fun _ _ => rfl)) (pe_ix (ix_tup_ K) (pv 9) pe_int (fun _ _ => rfl))) (pa_cons (pe_op op_add (pv 1) (pv 7)) (pa_cons (pe_op op_cat (pe_ix (ix_tup_ K) (pv 8) pe_int (fun _ _ => rfl)) (pe_ix (ix_tup_ K) (pv 9) pe_int (fun _ _ => rfl))) pa_nil)))) pa_nil))))))
      (pss_one (ps_set (i := 4) sc_limited_lengths.nd rfl (.inl rfl) (pe_callB (cr_sortedD_ K hr.units) (by rfl) B.sorted_ (by decide +kernel) (pa_cons (pe_op op_cat (pv 3) (pv 6)) pa_nil)))))))
      (pss_cons (ps_set (i := 10) sc_limited_lengths.nd rfl (.inl rfl) (pe_op op_rep (pe_lst (pa_cons pe_int pa_nil)) (pv 1)))
      (pss_cons (ps_for PassesOwn.never rfl (pi_list (pe_slice (sl_list_ K) (pv 4) po_none (po_some (pe_op op_sub (pe_op op_mul pe_int (pv 1)) pe_int)))) (pg_name (i := 11) sc_limited_lengths.nd rfl (.inl rfl))
      (pss_one (ps_for PassesOwn.never rfl (pi_list (pe_ix (ix_tup_ K) (pv 11) pe_int (fun _ _ => rfl))) (pg_name (i := 12) sc_limited_lengths.nd rfl (.inl rfl))
      (pss_one (ps_augS (pv 10) (pv 12) (pget_list K) pe_int ip_add set_list)))))
      (pss_one (ps_ret (pe_callTy (call_tuple_of_ K) (by rfl) B.tuple_ (by decide +kernel) (pa_cons (pe_callB cr_sorted (by rfl) B.sorted_ (by decide +kernel) (pa_cons (pv 10) pa_nil)) pa_nil)))))))))))))), ?_⟩
    refine ⟨_, rfl, a, p, q, rfl, hS, hr0, ?_⟩
    refine ⟨_, rfl, c, rfl, hc1, hc, ?_⟩
    refine ⟨_, rfl, _, _, _, rfl, .int _, ?_⟩
    rw [isI_yes (by omega) (by omega)]
    refine ⟨_, rfl, iteF ?_⟩
    refine ⟨_, rfl, _, rfl, m, rfl, by omega, _, _, rfl, rfl, _, rfl, ?_⟩
    by_cases hcm : 2 ^ m < c
    · exact iteDT (Int.ofNat_lt.mpr hcm) (k0 hcm _ (Same.refl _))
    have hle : c ≤ 2 ^ m := by omega
    refine iteDF (fun z => hcm (Int.ofNat_lt.mp z)) ?_
    have k := k hle
    -- the pairs (weight, number)
    refine ⟨_, rfl, _, rfl, a, p, q, c, rfl, hS, hr0, hc1, hc, fun Z H1 s1 nZ eZ => ?_⟩
    have lw : (wtsV p q c).length = c := by unfold wtsV; rw [List.length_map, List.length_range]
    generalize hW : wtF p q c = W at *
    refine ⟨Z, _, rfl, .inl (.inl eZ), fun D nD => ?_⟩
    refine lc_enum (K := K) (a := Z) (xs := wtsV p q c) (fun j H2 => ∃ ts : List Addr, ts.length = j ∧ Same H1 H2 ∧ H2 D = some (.lst (ts.map V.ref)) ∧ ∀ (i : Nat) t, ts[i]? = some t → PrE H2 t (W i, i)) ⟨[], rfl, same_new nD _, upd_same, fun i t h => by cases h⟩ (fun j H2 _ ⟨_, _, s, _⟩ => .inl (.inl (s _ _ eZ))) ?_ ?_
    · rintro j x H2 T hx ⟨ts, hts, s2, eD, he⟩ nT
      have hj : j < c := lw ▸ (List.getElem?_eq_some_iff.mp hx).1
      have ex : x = V.int (W j) := by
        unfold wtsV at hx
        rw [List.getElem?_map, List.getElem?_range hj, hW] at hx
        exact (Option.some.inj hx).symm
      subst ex
      refine ⟨T, _, rfl, .inl (.inl upd_same), rfl, _, _, rfl, _, _, rfl, rfl, rfl, ?_⟩
      have s3 := same_new nT (.tup [.int (j : Nat), .int (W j)])
      generalize upd H2 T (.tup [.int (j : Nat), .int (W j)]) = H3 at *
      refine ⟨_, rfl, _, rfl, (by show 2 ≤ sizeLine; omega), fun U nU => ?_⟩
      have s5 := same_new nU (.tup [.int (W j), .int (j : Nat)])
      have eU : (upd H3 U (.tup [.int (W j), .int (j : Nat)])) U = some (.tup [.int (W j), .int (j : Nat)]) := upd_same
      have eD5 := s5 _ _ (s3 _ _ eD)
      have S5 := s3.trans s5
      generalize upd H3 U (.tup [.int (W j), .int (j : Nat)]) = H5 at *
      refine ⟨_, eD5, by rw [List.length_map]; omega, ts ++ [U], by rw [List.length_append, hts]; rfl, fun b o ho => ?_, ?_, fun i t ht => ?_⟩
      · rw [upd_ne (ne_of_none ho nD)]
        exact S5 _ _ (s2 _ _ ho)
      · rw [upd_same, List.map_append]
        rfl
      · have up : ∀ {t : Addr} {l : List V}, H5 t = some (.tup l) → (upd H5 D (.lst (ts.map V.ref ++ [.ref U]))) t = some (.tup l) := fun {t l} h => by
          rw [upd_ne (fun z => by rw [z, eD5] at h; cases h)]
          exact h
        by_cases hi : i < ts.length
        · rw [List.getElem?_append_left hi] at ht
          exact up (S5 _ _ (he i t ht))
        · have hi2 := (List.getElem?_eq_some_iff.mp ht).1
          rw [List.length_append, List.length_singleton] at hi2
          have : i = ts.length := by omega
          subst this
          rw [List.getElem?_append_right (Nat.le_refl _), Nat.sub_self] at ht
          cases Option.some.inj ht
          rw [hts]
          exact up eU
    rintro H2 ⟨ts, hts, s2, eD, he⟩
    rw [lw] at hts
    have S2 := s1.trans s2
    clear s1 s2 eZ nZ nD
    obtain ⟨z1, z2⟩ := zip_snd (fun i => (W i, i)) hts
    have hpr : ∀ x ∈ ts.zip ((List.range c).map fun i => (W i, i)), PrE H2 x.1 x.2 := fun x hx => by
      obtain ⟨i, _, i1, i2⟩ := zip_mem hts hx
      rw [i2]
      exact he i _ i1
    have eps : ts.map V.ref = (ts.zip ((List.range c).map fun i => (W i, i))).map fun p => V.ref p.1 := by rw [map_ref, z1]
    generalize ts.zip ((List.range c).map fun i => (W i, i)) = ps at *
    rw [eps] at eD
    have mems : ∀ x ∈ ps.map (fun p => V.ref p.1), ∃ pr ∈ ps, x = V.ref pr.1 := fun x hx => by
      obtain ⟨pr, h1, rfl⟩ := List.mem_map.mp hx
      exact ⟨pr, h1, rfl⟩
    obtain ⟨sr1, sr2⟩ := sort_prs hpr
    refine ⟨D, _, fun v => encPr (prOf H2 v), rfl, .inl (.inl eD), fun x hx => ?_, ?_, ?_, fun x hx => pr_depth _, fun Pn nP => ?_⟩
    · obtain ⟨pr, h1, rfl⟩ := mems x hx
      show Dp K H2 (.ref pr.1) (encPr (prOf H2 (.ref pr.1)))
      rw [(hpr pr h1).of]
      exact (hpr pr h1).dp
    · exact PySem.W.AllAlike.of fun b b' => pr_alike _ _
    · exact PySem.W.Sortable.tuples fun b => ⟨_, _, rfl⟩
    rw [sr1]
    have s6 := same_new nP (.lst ((ps.mergeSort fun a b => lePr a.2 b.2).map fun p => V.ref p.1))
    have eP : (upd H2 Pn (.lst ((ps.mergeSort fun a b => lePr a.2 b.2).map fun p => V.ref p.1))) Pn = some (.lst ((ps.mergeSort fun a b => lePr a.2 b.2).map fun p => V.ref p.1)) := upd_same
    have hperm := List.mergeSort_perm ps fun a b => lePr a.2 b.2
    have hpr6 : ∀ pr ∈ (ps.mergeSort fun a b => lePr a.2 b.2), PrE (upd H2 Pn (.lst ((ps.mergeSort fun a b => lePr a.2 b.2).map fun p => V.ref p.1))) pr.1 pr.2 := fun pr h => s6 _ _ (hpr pr (hperm.mem_iff.mp h))
    rw [z2] at sr2
    have sr3 : (ps.mergeSort fun a b => lePr a.2 b.2).map (·.2) = prsL W c := sr2
    have S6 := S2.trans s6
    generalize (ps.mergeSort fun a b => lePr a.2 b.2) = qs at *
    generalize upd H2 Pn (.lst (qs.map fun p => V.ref p.1)) = H6 at *
    have lqs : qs.length = c := by rw [← List.length_map (f := (·.2)), sr3, prs_len]
    clear s6 S2 nP eD he hpr mems sr1 sr2 hperm eps z1 z2 hts ps ts
    have lqm : (qs.map fun p => V.ref p.1).length = c := by rw [List.length_map, lqs]
    -- the plain rows
    refine ⟨_, rfl, Pn, _, rfl, .inl (.inl eP), fun D2 nD2 => ?_⟩
    refine lc_enum (K := K) (a := Pn) (xs := qs.map fun p => V.ref p.1) (fun j H7 => ∃ ts : List Addr, ts.length = j ∧ Same H6 H7 ∧ H7 D2 = some (.lst (ts.map V.ref)) ∧ ∀ (i : Nat) t, ts[i]? = some t → RowAt D2 H7 t ⟨((prsL W c).getD i (0, 0)).1, i, [((prsL W c).getD i (0, 0)).2]⟩) ⟨[], rfl, same_new nD2 _, upd_same, fun i t h => by cases h⟩ (fun j H7 _ ⟨_, _, s, _⟩ => .inl (.inl (s _ _ eP))) ?_ ?_
    · rintro j x H7 T hx ⟨ts, hts, s7, eD, he⟩ nT
      have hj : j < c := lqm ▸ (List.getElem?_eq_some_iff.mp hx).1
      rw [List.getElem?_map] at hx
      cases hqj : qs[j]? with
      | none => rw [hqj] at hx; cases hx
      | some y =>
        rw [hqj] at hx
        cases Option.some.inj hx
        have ey := s7 _ _ (hpr6 y (List.mem_of_getElem? hqj))
        have egd : (prsL W c).getD j (0, 0) = y.2 := getD_of (by rw [← sr3, List.getElem?_map, hqj]; rfl)
        have s3 := same_new nT (.tup [.int (j : Nat), .ref y.1])
        have ey := s3 _ _ ey
        have eT : (upd H7 T (.tup [.int (j : Nat), .ref y.1])) T = some (.tup [.int (j : Nat), .ref y.1]) := upd_same
        have eD3 := s3 _ _ eD
        generalize upd H7 T (.tup [.int (j : Nat), .ref y.1]) = H8 at *
        refine ⟨T, _, rfl, .inl (.inl eT), rfl, _, _, rfl, _, _, rfl, y.1, _, rfl, .inl (.inl ey), rfl, _, _, rfl, _, _, rfl, rfl, rfl, rfl, ?_⟩
        refine ⟨_, rfl, _, rfl, _, rfl, (by show 1 ≤ sizeLine; omega), fun L nL => ?_⟩
        have s4 := same_new nL (.lst [.int (y.2.2 : Nat)])
        have eL : (upd H8 L (.lst [.int (y.2.2 : Nat)])) L = some (.lst (natsV [y.2.2])) := upd_same
        have eD4 := s4 _ _ eD3
        have nLD : L ≠ D2 := fun z => by rw [z, eD3] at nL; cases nL
        generalize upd H8 L (.lst [.int (y.2.2 : Nat)]) = H9 at *
        refine ⟨(by show 3 ≤ sizeLine; omega), fun U nU => ?_⟩
        have s5 := same_new nU (.tup [.int y.2.1, .int (j : Nat), .ref L])
        have eU : (upd H9 U (.tup [.int y.2.1, .int (j : Nat), .ref L])) U = some (.tup [.int y.2.1, .int (j : Nat), .ref L]) := upd_same
        have eD5 := s5 _ _ eD4
        have eL5 := s5 _ _ eL
        have S5 := s3.trans (s4.trans s5)
        generalize upd H9 U (.tup [.int y.2.1, .int (j : Nat), .ref L]) = H10 at *
        refine ⟨_, eD5, by rw [List.length_map]; omega, ts ++ [U], by rw [List.length_append, hts]; rfl, fun b o ho => ?_, ?_, fun i t ht => ?_⟩
        · rw [upd_ne (ne_of_none ho nD2)]
          exact S5 _ _ (s7 _ _ ho)
        · rw [upd_same, List.map_append]
          rfl
        · by_cases hi : i < ts.length
          · rw [List.getElem?_append_left hi] at ht
            exact RowAt.updF eD5 ((he i t ht).same S5)
          · have hi2 := (List.getElem?_eq_some_iff.mp ht).1
            rw [List.length_append, List.length_singleton] at hi2
            have : i = ts.length := by omega
            subst this
            rw [List.getElem?_append_right (Nat.le_refl _), Nat.sub_self] at ht
            cases Option.some.inj ht
            rw [hts, egd]
            exact RowAt.updF eD5 ⟨L, nLD, eU, eL5⟩
    rintro H7 ⟨ts, hts, s7, eD, he⟩
    rw [lqm] at hts
    have S7 := S6.trans s7
    clear s7 S6 eP hpr6 nD2 sr3 lqs lqm qs
    have z0 : (List.range c).map (fun i => (⟨((prsL W c).getD i (0, 0)).1, i, [((prsL W c).getD i (0, 0)).2]⟩ : RowB)) = plainB W c := rfl
    obtain ⟨z1, z2⟩ := zip_snd (fun i => (⟨((prsL W c).getD i (0, 0)).1, i, [((prsL W c).getD i (0, 0)).2]⟩ : RowB)) hts
    have hpl : ∀ x ∈ ts.zip ((List.range c).map (fun i => (⟨((prsL W c).getD i (0, 0)).1, i, [((prsL W c).getD i (0, 0)).2]⟩ : RowB))), RowE H7 x.1 x.2 := fun x hx => by
      obtain ⟨i, _, i1, i2⟩ := zip_mem hts hx
      rw [i2]
      exact (he i _ i1).toE
    have eps : ts.map V.ref = (ts.zip ((List.range c).map (fun i => (⟨((prsL W c).getD i (0, 0)).1, i, [((prsL W c).getD i (0, 0)).2]⟩ : RowB)))).map fun p => V.ref p.1 := by rw [map_ref, z1]
    rw [z0] at z1 z2 hpl eps
    generalize ts.zip (plainB W c) = pl at *
    rw [eps] at eD
    clear he eps z1 hts ts z0
    have lpl : pl.length = c := by rw [← List.length_map (f := (·.2)), z2, plain_len]
    -- the levels
    refine ⟨(by show 0 ≤ sizeLine; omega), fun R0 nR0 => ?_⟩
    have s8 := same_new nR0 (.lst [])
    refine ⟨_, rfl, _, rfl, by omega, by omega, ?_⟩
    rw [Int.toNat_natCast]
    refine for_range (lo := 0) (n := m) (fun j σ H8 => ∃ (R : Addr) (rs : List (Addr × RowB)) (v5 v6 v7 v8 v9 v10 v11 v12 v13 : Option V), σ = [some (.ref a), some (.int (c : Nat)), some (.int (m : Nat)), some (.ref D2), some (.ref R), v5, v6, v7, v8, v9, v10, v11, v12, v13] ∧ Same H7 H8 ∧ H8 R = some (.lst (rs.map fun p => V.ref p.1)) ∧ rs.map (·.2) = limRows W c j ∧ ∀ p ∈ rs, RowE H8 p.1 p.2) ⟨R0, [], _, _, _, _, _, _, _, _, _, rfl, s8, upd_same, rfl, fun p h => by cases h⟩ ?_ ?_
    · rintro j σ H8 hj ⟨R, rs, v5, v6, v7, v8, v9, v10, v11, v12, v13, rfl, s8, eR, ers, hrs⟩
      have lrs : rs.length ≤ 2 * c := by rw [← List.length_map (f := (·.2)), ers]; exact hrl j
      have lrs2 : rs.length = (limRows W c j).length := by rw [← ers, List.length_map]
      refine ⟨(by show 0 ≤ sizeLine; omega), fun D3 nD3 => ?_⟩
      have s9 := same_new nD3 (.lst [])
      have eR9 := s9 _ _ eR
      have e03 : (upd H8 D3 (.lst [])) D3 = some (.lst []) := upd_same
      refine ⟨_, rfl, R, _, rfl, .inl (.inl (.inl eR9)), _, _, rfl, rfl, 0, (rs.length : Int) - 1, 2, rs.length / 2, by rw [List.length_map], rgc_two _ (by omega), ?_⟩
      refine for_rangeC (lo := 0) (c := 2) (n := rs.length / 2) (fun i σ H9 => ∃ (us : List Addr) (v7 v8 v9 : Option V), σ = [some (.ref a), some (.int (c : Nat)), some (.int (m : Nat)), some (.ref D2), some (.ref R), some (.int (0 + (j : Int))), some (.ref D3), v7, v8, v9, v10, v11, v12, v13] ∧ us.length = i ∧ Same H8 H9 ∧ H9 D3 = some (.lst (us.map V.ref)) ∧ ∀ (k : Nat) t, us[k]? = some t → RowAt D3 H9 t (pairB c (limRows W c j) k)) ⟨[], _, _, _, rfl, rfl, s9, e03, fun k t h => by cases h⟩ ?_ ?_
      · rintro i σ H9 hi ⟨us, v7, v8, v9, rfl, hus, s9, eD3, hu⟩
        have eat : (0 : Int) + (i : Int) * 2 = ((2 * i : Nat) : Int) := by omega
        have eat2 : (0 : Int) + (i : Int) * 2 + 1 = ((2 * i + 1 : Nat) : Int) := by omega
        obtain ⟨x, hx⟩ : ∃ x, rs[2 * i]? = some x := ⟨_, List.getElem?_eq_getElem (by omega)⟩
        obtain ⟨y, hy⟩ : ∃ y, rs[2 * i + 1]? = some y := ⟨_, List.getElem?_eq_getElem (by omega)⟩
        have gx : (rs.map fun p => V.ref p.1)[2 * i]? = some (.ref x.1) := by rw [List.getElem?_map, hx]; rfl
        have gy : (rs.map fun p => V.ref p.1)[2 * i + 1]? = some (.ref y.1) := by rw [List.getElem?_map, hy]; rfl
        have lx : (limRows W c j)[2 * i]? = some x.2 := by rw [← ers, List.getElem?_map, hx]; rfl
        have ly : (limRows W c j)[2 * i + 1]? = some y.2 := by rw [← ers, List.getElem?_map, hy]; rfl
        have epair : pairB c (limRows W c j) i = ⟨x.2.w + y.2.w, c + 2 * i, x.2.ms ++ y.2.ms⟩ := by
          unfold pairB
          rw [getD_of lx, getD_of ly]
        obtain ⟨Lx, ex, eLx⟩ := (hrs x (List.mem_of_getElem? hx)).same s9
        obtain ⟨Ly, ey, eLy⟩ := (hrs y (List.mem_of_getElem? hy)).same s9
        have bx := (hrm j _ (List.mem_of_getElem? lx)).2
        have bY := (hrm j _ (List.mem_of_getElem? ly)).2
        have hp12 : 2 ^ j ≤ 2 ^ 12 := Nat.pow_le_pow_right (by omega) (by omega)
        have eR9 := s9 _ _ eR
        have lnx : (natsV x.2.ms).length = x.2.ms.length := by unfold natsV; rw [List.length_map]
        have lny : (natsV y.2.ms).length = y.2.ms.length := by unfold natsV; rw [List.length_map]
        refine ⟨_, rfl, _, rfl, R, _, _, _, rfl, rfl, .inl (.inl eR9), at_of (j := 2 * i) eat gx, _, rfl, _, rfl, _, _, rfl, rfl, R, _, _, _, rfl, rfl, .inl (.inl eR9), at_of (j := 2 * i + 1) eat2 gy, _, _, rfl, ?_⟩
        refine ⟨_, rfl, .inl ⟨rfl, _, .inl (.inl eD3)⟩, ?_⟩
        refine ⟨_, rfl, x.1, _, _, _, rfl, rfl, .inl (.inl ex), at_of (j := 0) rfl rfl, _, rfl, y.1, _, _, _, rfl, rfl, .inl (.inl ey), at_of (j := 0) rfl rfl, _, _, rfl, rfl, _, rfl, _, rfl, _, _, rfl, rfl, ?_⟩
        refine ⟨_, rfl, x.1, _, _, _, rfl, rfl, .inl (.inl ex), at_of (j := 2) rfl rfl, _, rfl, y.1, _, _, _, rfl, rfl, .inl (.inl ey), at_of (j := 2) rfl rfl, Lx, Ly, _, _, rfl, rfl, eLx, eLy, by rw [lnx, lny]; omega, fun C nC => ?_⟩
        have eC : (upd H9 C (.lst (natsV x.2.ms ++ natsV y.2.ms))) C = some (.lst (natsV (x.2.ms ++ y.2.ms))) := by
          rw [upd_same]
          unfold natsV
          rw [List.map_append]
        have s10 := same_new nC (.lst (natsV x.2.ms ++ natsV y.2.ms))
        have nCD : C ≠ D3 := fun z => by rw [z, eD3] at nC; cases nC
        generalize upd H9 C (.lst (natsV x.2.ms ++ natsV y.2.ms)) = H10 at *
        refine ⟨(by show 3 ≤ sizeLine; omega), fun U nU => ?_⟩
        have eU : (upd H10 U (.tup [.int (x.2.w + y.2.w), .int ((c : Int) + (0 + (i : Int) * 2)), .ref C])) U = some (.tup [.int (x.2.w + y.2.w), .int ((c + 2 * i : Nat) : Int), .ref C]) := by
          have el : (c : Int) + (0 + (i : Int) * 2) = ((c + 2 * i : Nat) : Int) := by omega
          rw [upd_same, el]
        have s11 := same_new nU (.tup [.int (x.2.w + y.2.w), .int ((c : Int) + (0 + (i : Int) * 2)), .ref C])
        generalize upd H10 U (.tup [.int (x.2.w + y.2.w), .int ((c : Int) + (0 + (i : Int) * 2)), .ref C]) = H11 at *
        have S11 := s10.trans s11
        have eD11 := S11 _ _ eD3
        refine ⟨D3, _, _, rfl, rfl, eD11, by rw [List.length_map]; omega, ?_⟩
        refine ⟨us ++ [U], _, _, _, rfl, by rw [List.length_append, hus]; rfl, fun b o ho => ?_, ?_, fun k t ht => ?_⟩
        · rw [upd_ne (ne_of_none ho nD3)]
          exact S11 _ _ (s9 _ _ ho)
        · rw [upd_same, List.map_append]
          rfl
        · by_cases hk : k < us.length
          · rw [List.getElem?_append_left hk] at ht
            exact RowAt.updF eD11 ((hu k t ht).same S11)
          · have hk2 := (List.getElem?_eq_some_iff.mp ht).1
            rw [List.length_append, List.length_singleton] at hk2
            have : k = us.length := by omega
            subst this
            rw [List.getElem?_append_right (Nat.le_refl _), Nat.sub_self] at ht
            cases Option.some.inj ht
            rw [hus, epair]
            exact RowAt.updF eD11 ⟨C, nCD, eU, s11 _ _ eC⟩
      rintro σ H9 ⟨us, v7, v8, v9, rfl, hus, s9, eD3, hu⟩
      have y0 : (List.range (rs.length / 2)).map (pairB c (limRows W c j)) = pairsB c (limRows W c j) := by
        unfold pairsB
        rw [lrs2]
      obtain ⟨y1, y2⟩ := zip_snd (pairB c (limRows W c j)) hus
      have hpp : ∀ x ∈ us.zip ((List.range (rs.length / 2)).map (pairB c (limRows W c j))), RowE H9 x.1 x.2 := fun x hx => by
        obtain ⟨i, _, i1, i2⟩ := zip_mem hus hx
        rw [i2]
        exact (hu i _ i1).toE
      have eps : us.map V.ref = (us.zip ((List.range (rs.length / 2)).map (pairB c (limRows W c j)))).map fun p => V.ref p.1 := by rw [map_ref, y1]
      rw [y0] at y1 y2 hpp eps
      generalize us.zip (pairsB c (limRows W c j)) = pp at *
      rw [eps] at eD3
      have lpp : pp.length = rs.length / 2 := by
        rw [← hus, ← y1, List.length_map]
      have S9 := s8.trans s9
      have eD29 := S9 _ _ eD
      have hall : ∀ p ∈ pl ++ pp, RowE H9 p.1 p.2 := fun p hp => by
        rcases List.mem_append.mp hp with hp | hp
        · exact (hpl p hp).same S9
        · exact hpp p hp
      refine ⟨_, rfl, _, rfl, D2, D3, _, _, rfl, rfl, eD29, eD3, by rw [List.length_map, List.length_map]; omega, fun C nC => ?_⟩
      rw [← List.map_append]
      have s10 := same_new nC (.lst ((pl ++ pp).map fun p => V.ref p.1))
      have eC : (upd H9 C (.lst ((pl ++ pp).map fun p => V.ref p.1))) C = some (.lst ((pl ++ pp).map fun p => V.ref p.1)) := upd_same
      have hall := fun p hp => (hall p hp).same s10
      generalize upd H9 C (.lst ((pl ++ pp).map fun p => V.ref p.1)) = H10 at *
      obtain ⟨sr1, sr2⟩ := sort_rowsB hall
      refine ⟨C, _, fun v => encRow (rowOf H10 v), rfl, .inl (.inl eC), fun x hx => ?_, ?_, ?_, fun x hx => enc_depth _, fun Pn nP => ?_⟩
      · obtain ⟨pr, h1, rfl⟩ := List.mem_map.mp hx
        show Dp K H10 (.ref pr.1) (encRow (rowOf H10 (.ref pr.1)))
        rw [(hall pr h1).of]
        exact (hall pr h1).dp
      · exact PySem.W.AllAlike.of fun b b' => enc_alike _ _
      · exact PySem.W.Sortable.tuples fun b => ⟨_, _, rfl⟩
      rw [sr1]
      have s11 := same_new nP (.lst (((pl ++ pp).mergeSort fun a b => leB a.2 b.2).map fun p => V.ref p.1))
      refine ⟨Pn, (pl ++ pp).mergeSort fun a b => leB a.2 b.2, _, _, _, _, _, _, _, _, _, rfl, S9.trans (s10.trans s11), upd_same, ?_, fun p hp => ?_⟩
      · rw [sr2, List.map_append, z2, y2]
        rfl
      · exact (hall p ((List.mergeSort_perm _ _).mem_iff.mp hp)).same s11
    rintro σ H8 ⟨R, rs, v5, v6, v7, v8, v9, v10, v11, v12, v13, rfl, s8, eR, ers, hrs⟩
    have S8 := S7.trans s8
    have lrs : rs.length ≤ 2 * c := by rw [← List.length_map (f := (·.2)), ers]; exact hrl m
    clear eD hpl z2 lpl s8 nR0 S7
    -- found
    refine ⟨(by show 1 ≤ sizeLine; omega), fun E1 nE1 => ?_⟩
    have s3 := same_new nE1 (.lst [.int 0])
    refine ⟨_, rfl, E1, _, _, rfl, rfl, upd_same, by omega, by omega, (by show 1 * _ ≤ sizeLine; omega), fun F nF => ?_⟩
    rw [Int.toNat_natCast]
    have s4 := s3.trans (same_new nF (.lst ((List.replicate c [V.int 0]).flatten)))
    have nF8 : H8 F = none := s3.free nF
    have eF : (upd (upd H8 E1 (.lst [.int 0])) F (.lst ((List.replicate c [V.int 0]).flatten))) F = some (.lst (natL (fun _ => 0) c)) := by
      rw [upd_same, lW c]
    have hr4 : ∀ p ∈ rs, RowAt F (upd (upd H8 E1 (.lst [.int 0])) F (.lst ((List.replicate c [V.int 0]).flatten))) p.1 p.2 := fun p hp => ((hrs p hp).to nF8).same s4
    have eR4 := s4 _ _ eR
    have nRF : R ≠ F := fun z => by rw [← z, eR] at nF8; cases nF8
    have S4 := S8.trans s4
    have nFH : H F = none := S8.free nF8
    generalize upd (upd H8 E1 (.lst [.int 0])) F (.lst ((List.replicate c [V.int 0]).flatten)) = H4 at *
    clear s3 s4 nE1 nF hrs eR S8 nF8
    refine ⟨_, rfl, _, rfl, _, _, rfl, rfl, .inl ⟨by decide, by decide⟩, _, _, rfl, rfl, _, rfl, R, _, rfl, .inl (.inl eR4), fun S nS => ?_⟩
    have e2c : (2 : Int) * ((c : Nat) : Int) - 2 = ((2 * c - 2 : Nat) : Int) := by omega
    rw [e2c, cutV_to, ← List.map_take]
    have s5 := same_new nS (.lst ((rs.take (2 * c - 2)).map fun p => V.ref p.1))
    have eS : (upd H4 S (.lst ((rs.take (2 * c - 2)).map fun p => V.ref p.1))) S = some (.lst ((rs.take (2 * c - 2)).map fun p => V.ref p.1)) := upd_same
    have nSF : S ≠ F := fun z => by rw [z, eF] at nS; cases nS
    have eF5 := s5 _ _ eF
    have S5 := S4.trans s5
    have hr5 : ∀ p ∈ rs.take (2 * c - 2), RowAt F (upd H4 S (.lst ((rs.take (2 * c - 2)).map fun p => V.ref p.1))) p.1 p.2 := fun p hp => (hr4 p (List.mem_of_mem_take hp)).same s5
    have hms : ∀ p ∈ rs.take (2 * c - 2), ∀ k ∈ p.2.ms, k < c := fun p hp => (hrm m p.2 (ers ▸ List.mem_map_of_mem (List.mem_of_mem_take hp))).1
    have eg : limG W c m = bump (fun _ => 0) ((rs.take (2 * c - 2)).flatMap fun p => p.2.ms) := by
      unfold limG
      rw [← ers, ← List.map_take, List.flatMap_map]
    generalize upd H4 S (.lst ((rs.take (2 * c - 2)).map fun p => V.ref p.1)) = H5 at *
    generalize rs.take (2 * c - 2) = ts at *
    clear s5 nS eF eR4 S4 hr4 ers lrs nRF e2c
    refine ⟨S, rfl, ⟨_, .inl (.inl eS)⟩, for_list (K := K) (a := S) (xs := ts.map fun p => V.ref p.1) (fun i σ H8 => ∃ v11 v12, σ = [some (.ref a), some (.int (c : Nat)), some (.int (m : Nat)), some (.ref D2), some (.ref R), v5, v6, v7, v8, v9, some (.ref F), v11, v12, v13] ∧ H8 F = some (.lst (natL (bump (fun _ => 0) ((ts.take i).flatMap fun p => p.2.ms)) c)) ∧ ∀ b o, b ≠ F → H5 b = some o → H8 b = some o) ⟨_, _, rfl, eF5, fun b o _ h => h⟩ (fun i σ H8 _ ⟨_, _, _, _, s⟩ => .inl (.inl (s _ _ nSF eS))) ?_ ?_⟩
    · rintro i z σ H8 hz ⟨v11, v12, rfl, eF8, s8⟩
      rw [List.getElem?_map] at hz
      cases hti : ts[i]? with
      | none => rw [hti] at hz; cases hz
      | some x =>
        rw [hti] at hz
        cases Option.some.inj hz
        obtain ⟨Lx, nx, ex, eLx⟩ := hr5 x (List.mem_of_getElem? hti)
        have hxk := hms x (List.mem_of_getElem? hti)
        have ex8 := s8 _ _ (fun z => by rw [z, eF5] at ex; cases ex) ex
        have eLx8 := s8 _ _ nx eLx
        refine ⟨_, rfl, x.1, _, _, _, rfl, rfl, .inl (.inl ex8), at_of (j := 2) rfl rfl, Lx, rfl, ⟨_, .inl (.inl eLx8)⟩, for_list (K := K) (a := Lx) (xs := natsV x.2.ms) (fun j σ H9 => ∃ v12, σ = [some (.ref a), some (.int (c : Nat)), some (.int (m : Nat)), some (.ref D2), some (.ref R), v5, v6, v7, v8, v9, some (.ref F), some (.ref x.1), v12, v13] ∧ H9 F = some (.lst (natL (bump (bump (fun _ => 0) ((ts.take i).flatMap fun p => p.2.ms)) (x.2.ms.take j)) c)) ∧ ∀ b o, b ≠ F → H5 b = some o → H9 b = some o) ⟨_, rfl, ?_, s8⟩ (fun j σ H9 _ ⟨_, _, _, s⟩ => .inl (.inl (s _ _ nx eLx))) ?_ ?_⟩
        · rw [List.take_zero, show bump (bump (fun _ => 0) ((ts.take i).flatMap fun p => p.2.ms)) [] = bump (fun _ => 0) ((ts.take i).flatMap fun p => p.2.ms) from funext fun t => Nat.add_zero _]
          exact eF8
        · rintro j z σ H9 hz ⟨v12, rfl, eF9, s9⟩
          unfold natsV at hz
          rw [List.getElem?_map] at hz
          cases hk : x.2.ms[j]? with
          | none => rw [hk] at hz; cases hz
          | some k =>
            rw [hk] at hz
            cases Option.some.inj hz
            have hkc := hxk k (List.mem_of_getElem? hk)
            refine ⟨_, rfl, _, rfl, F, _, k, _, rfl, rfl, .inl (.inl eF9), natL_get _ hkc, _, _, rfl, rfl, F, _, _, k, rfl, rfl, eF9, ?_, _, rfl, ?_, fun b o hb ho => ?_⟩
            · unfold ixN
              rw [if_pos (by omega), if_pos (by rw [natL_len]; omega), Int.toNat_natCast]
            · rw [upd_same, natL_set _ hkc, bump_take hk]
            · rw [upd_ne hb]
              exact s9 b o hb ho
        rintro σ H9 ⟨v12, rfl, eF9, s9⟩
        rw [show (natsV x.2.ms).length = x.2.ms.length by unfold natsV; rw [List.length_map], List.take_length] at eF9
        refine ⟨_, _, rfl, ?_, s9⟩
        rw [eF9, take_more hti, List.flatMap_append, List.flatMap_cons, List.flatMap_nil, List.append_nil]
        congr 3
        funext t
        unfold bump
        rw [List.count_append, Nat.add_assoc]
    rintro σ H8 ⟨v11, v12, rfl, eF8, s8⟩
    rw [List.length_map, List.take_length, ← eg] at eF8
    generalize limG W c m = g at *
    have hints : natL g c = (((List.range c).map g).map fun n => ((n : Nat) : Int)).map V.int := by
      unfold natL
      rw [List.map_map, List.map_map]
      rfl
    rw [hints] at eF8
    refine ⟨_, rfl, F, _, rfl, .inl (.inl eF8), by rw [List.length_map, List.length_map, List.length_range]; omega, fun ns' pp perm pw np => ?_⟩
    have hnn : ns' = (ns'.map Int.toNat).map fun n => ((n : Nat) : Int) := by
      rw [List.map_map]
      have e : ∀ z ∈ ns', (((fun n : Nat => (n : Int)) ∘ Int.toNat) z) = z := fun z hz => by
        obtain ⟨n, _, rfl⟩ := List.mem_map.mp (perm.mem_iff.mp hz)
        show (((n : Nat) : Int).toNat : Int) = _
        rw [Int.toNat_natCast]
      rw [List.map_congr_left e, List.map_id']
    have hp2 : (ns'.map Int.toNat).Perm ((List.range c).map g) := by
      have h := perm.map Int.toNat
      rw [List.map_map] at h
      have e : ((List.range c).map g).map (Int.toNat ∘ fun n : Nat => ((n : Nat) : Int)) = (List.range c).map g := by
        rw [List.map_congr_left (fun n _ => show (Int.toNat ∘ fun n : Nat => ((n : Nat) : Int)) n = n from Int.toNat_natCast n), List.map_id']
      rw [e] at h
      exact h
    have hpw : (ns'.map Int.toNat).Pairwise (· ≤ ·) := List.pairwise_map.mpr (pw.imp fun h => Int.toNat_le_toNat h)
    refine ⟨pp, _, rfl, .inl ⟨.inl (.inl upd_same), fun T nT => ?_⟩⟩
    have sA := same_new np (.lst (ns'.map V.int))
    refine k T (ns'.map Int.toNat) _ hp2 hpw (fun b o ho => same_new nT _ _ _ (sA _ _ (s8 b o (ne_of_none ho nFH) (S5 _ _ ho)))) ?_
    rw [upd_same]
    congr 2
    conv => lhs; rw [hnn, List.map_map]
    rfl
end

abbrev s_best_lengths : Stmt := topS 22
theorem sc_best_lengths : FnScope ["ratio", "count", "rows", "found", "one", "other", "number", "weight"] ["ratio", "count"] (defScope s_best_lengths) := ⟨rfl, rfl, rfl, by decide +kernel, rfl, by decide +kernel, by decide +kernel⟩
def BInv (p q c : Nat) (a F : Addr) (H4 : Hp) (n : Nat) (σ : List (Option V)) (H5 : Hp) : Prop := ∃ (R : Addr) (ps : List (Addr × RowB)) (g : Nat → Nat) (j : Nat) (v4 v5 v6 v7 : Option V), n = ps.length ∧ σ = [some (.ref a), some (.int (c : Nat)), some (.ref R), some (.ref F), v4, v5, v6, v7] ∧ H5 R = some (.lst (ps.map fun p => V.ref p.1)) ∧ (∀ p ∈ ps, RowAt F H5 p.1 p.2) ∧ H5 F = some (.lst (natL g c)) ∧ MInv (wtF p q c) c 60 j (ps.map (·.2)) g ∧ (∀ b o, b ≠ F → H4 b = some o → H5 b = some o) ∧ 1 ≤ ps.length ∧ R ≠ F ∧ (∃ f, ps.length ≤ f + 1 ∧ bestG (wtF p q c) c = mrun c f (ps.map (·.2)) g)
def sp_best_lengths (K : PySem.W.Frag) : Sp := fun vs H Q _ => ∃ (a : Addr) (p q c : Nat), vs = [.ref a, .int (c : Nat)] ∧ SqT K H a [.int (p : Nat), .int (q : Nat)] ∧ IsRat p q ∧ 1 ≤ c ∧ c ≤ 40 ∧
  ∀ (T : Addr) (ls : List Nat) (H' : Hp), ls.Perm ((List.range c).map (bestG (wtF p q c) c)) → ls.Pairwise (· ≤ ·) → Same H H' → H' T = some (.tup (ls.map fun n => V.int (n : Nat))) → Q (.ref T) H'
section
variable {P : Program} {w : World} {K : PySem.W.Frag} {mg : Str → Option Value} {base : Heap}
theorem ok_best_lengths (A : At K mg "best_lengths" s_best_lengths ["ratio", "count"]) (B : Bn mg) (H_check_ratio : CalE P w K mg base "check_ratio" ["thing"] 3 (sp_check_ratio K)) (H_check_count : CalE P w K mg base "check_count" ["thing"] 2 (sp_check_count K)) (H_chance_weights : CalE P w K mg base "chance_weights" ["ratio", "count"] 1 (sp_chance_weights K)) : CalE P w K mg base "best_lengths" ["ratio", "count"] 4 (sp_best_lengths K) := by
  obtain ⟨f, fd, F, gF, bF⟩ := A
  obtain ⟨f_check_ratio, fd_check_ratio, G_check_ratio⟩ := H_check_ratio
  obtain ⟨f_check_count, fd_check_count, G_check_count⟩ := H_check_count
  obtain ⟨f_chance_weights, fd_chance_weights, G_chance_weights⟩ := H_chance_weights
  refine ⟨f, fd, F.ok sc_best_lengths (fun vs H Q E h => ?_) (fun cdv A outer s H vs Q E hr h => ?_), gF, F.kp, bF⟩
  · repeat (first | (obtain ⟨rfl, _⟩ := h; rfl) | (obtain ⟨_, h⟩ := h))
  · obtain ⟨a, p, q, c, rfl, hS, hr0, hc1, hc, k⟩ := h
    have hsz := sizeLine_eq
    refine ⟨_, (pss_cons (ps_expr (pe_call G_check_ratio.ok (hr.mono (by first | decide | exact Nat.le_refl _)) (by rfl) G_check_ratio.g G_check_ratio.kp G_check_ratio.b .nil pass0 (pa_cons (pv 0) pa_nil)))
      (pss_cons (ps_expr (pe_call G_check_count.ok (hr.mono (by first | decide | exact Nat.le_refl _)) (by rfl) G_check_count.g G_check_count.kp G_check_count.b .nil pass0 (pa_cons (pv 1) pa_nil)))
      (pss_cons (ps_setLc (i := 2) (own := [("number", 6), ("weight", 7)]) (g := (gTup K 2 (gCons (gName 6) (gCons (gName 7) gNil)))) (tt := tYes) rfl sc_best_lengths.nd rfl rfl (sw_true rfl rfl rfl (by decide +kernel)) (pi_enum (by rfl) B.enumerate_ (pa_cons (pe_call G_chance_weights.ok (hr.mono (by first | decide | exact Nat.le_refl _)) (by rfl) G_chance_weights.g G_chance_weights.kp G_chance_weights.b .nil pass0 (pa_cons (pv 0) (pa_cons (pv 1) pa_nil))) pa_nil)) (blkOk_by (own := [("number", 6), ("weight", 7)]) (N := ["ratio", "count", "rows", "found", "one", "other", "number", "weight"]) (sc := defScope s_best_lengths) (by decide +kernel)) (fun _ _ _ _ _ => (pg_tup (by rfl) (pgs_cons (pg_name (i := 6) sc_best_lengths.nd rfl (.inl rfl)) (pgs_cons (pg_name (i := 7) sc_best_lengths.nd rfl (.inl rfl)) pgs_nil)))) (fun _ _ _ _ _ => pts_nil) (fun _ _ _ _ _ => (pe_tup (pa_cons (pv 7) (pa_cons (pv 6) (pa_cons (pe_lst (pa_cons (pv 6) pa_nil)) pa_nil))))))
      (pss_cons (ps_set (i := 3) sc_best_lengths.nd rfl (.inl rfl) (pe_op op_rep (pe_lst (pa_cons pe_int pa_nil)) (pv 1)))
      (pss_cons (ps_while PassesOwn.never (pt_cmpR op_gt (pe_callB (call_len_seq_ K) (by rfl) B.len_ (by decide +kernel) (pa_cons (pv 2) pa_nil)) pe_int (nomark _))
      (pss_cons (ps_set (i := 2) sc_best_lengths.nd rfl (.inl rfl) (pe_callB (cr_sortedD_ K hr.units) (by rfl) B.sorted_ (by decide +kernel) (pa_cons (pv 2) pa_nil)))
      (pss_cons (ps_par (i := 4) (j := 5) (by rfl) sc_best_lengths.nd rfl rfl (by decide) rfl rfl (pa_cons (pe_ix (ix_list_ K) (pv 2) pe_int (fun _ _ => rfl)) (pa_cons (pe_ix (ix_list_ K) (pv 2) pe_int (fun _ _ => rfl)) pa_nil)) (by rfl))
      (pss_cons (ps_for PassesOwn.never rfl (pi_list (pe_op op_cat (pe_ix (ix_tup_ K) (pv 4) pe_int (fun _ _ => rfl)) (pe_ix (ix_tup_ K) (pv 5) pe_int (fun _ _ => rfl)))) (pg_name (i := 6) sc_best_lengths.nd rfl (.inl rfl))
      (pss_one (ps_augS (pv 3) (pv 6) (pget_list K) pe_int ip_add set_list)))
      (pss_one (ps_set (i := 2) sc_best_lengths.nd rfl (.inl rfl) (pe_op op_cat (pe_slice (sl_list_ K) (pv 2) (po_some pe_int) po_none) (pe_lst (pa_cons (pe_tup (pa_cons (pe_op op_add (pe_ix (ix_tup_ K) (pv 4) pe_int (fun _ _ => rfl)) (pe_ix (ix_tup_ K) (pv 5) pe_int (fun _ _ => rfl))) (pa_cons (pe_op op_add (pv 1) (pe_callB (call_len_seq_ K) (by rfl) B.len_ (by decide +kernel) (pa_cons (pv 2) pa_nil))) (pa_cons (pe_op op_cat (pe_ix (ix_tup_ K) (pv 4) pe_int (fun _ _ => rfl)) (pe_ix (ix_tup_ K) (pv 5) pe_int (fun _ _ => rfl))) pa_nil)))) pa_nil)))))))))
      (pss_one (ps_ret (pe_callTy (call_tuple_of_ K) (by rfl) B.tuple_ (by decide +kernel) (pa_cons (pe_callB cr_sorted (by rfl) B.sorted_ (by decide +kernel) (pa_cons (pv 3) pa_nil)) pa_nil))))))))), ?_⟩
    refine ⟨_, rfl, a, p, q, rfl, hS, hr0, ?_⟩
    refine ⟨_, rfl, c, rfl, hc1, hc, ?_⟩
    -- the rows
    refine ⟨_, rfl, _, rfl, a, p, q, c, rfl, hS, hr0, hc1, hc, fun Z H1 s1 nZ eZ => ?_⟩
    have lw : (wtsV p q c).length = c := by unfold wtsV; rw [List.length_map, List.length_range]
    refine ⟨Z, _, rfl, .inl (.inl eZ), fun D nD => ?_⟩
    refine lc_enum (K := K) (a := Z) (xs := wtsV p q c) (fun j H2 => ∃ ts : List Addr, ts.length = j ∧ Same H1 H2 ∧ H2 D = some (.lst (ts.map V.ref)) ∧ ∀ (i : Nat) t, ts[i]? = some t → RowAt D H2 t ⟨wtF p q c i, i, [i]⟩) ⟨[], rfl, same_new nD _, upd_same, fun i t h => by cases h⟩ (fun j H2 _ ⟨_, _, s, _⟩ => .inl (.inl (s _ _ eZ))) ?_ ?_
    · rintro j x H2 T hx ⟨ts, hts, s2, eD, he⟩ nT
      have hj : j < c := lw ▸ (List.getElem?_eq_some_iff.mp hx).1
      have ex : x = V.int (wtF p q c j) := by
        unfold wtsV at hx
        rw [List.getElem?_map, List.getElem?_range hj] at hx
        exact (Option.some.inj hx).symm
      subst ex
      refine ⟨T, _, rfl, .inl (.inl upd_same), rfl, _, _, rfl, _, _, rfl, rfl, rfl, ?_⟩
      have s3 := same_new nT (.tup [.int (j : Nat), .int (wtF p q c j)])
      generalize upd H2 T (.tup [.int (j : Nat), .int (wtF p q c j)]) = H3 at *
      refine ⟨_, rfl, _, rfl, _, rfl, (by show 1 ≤ sizeLine; omega), fun L nL => ?_⟩
      have s4 := same_new nL (.lst [.int (j : Nat)])
      have eL : (upd H3 L (.lst [.int (j : Nat)])) L = some (.lst (natsV [j])) := upd_same
      have eD4 := s4 _ _ (s3 _ _ eD)
      have nLD : L ≠ D := fun z => by rw [z, s3 _ _ eD] at nL; cases nL
      generalize upd H3 L (.lst [.int (j : Nat)]) = H4 at *
      refine ⟨(by show 3 ≤ sizeLine; omega), fun U nU => ?_⟩
      have s5 := same_new nU (.tup [.int (wtF p q c j), .int (j : Nat), .ref L])
      have eU : (upd H4 U (.tup [.int (wtF p q c j), .int (j : Nat), .ref L])) U = some (.tup [.int (wtF p q c j), .int (j : Nat), .ref L]) := upd_same
      have eD5 := s5 _ _ eD4
      have eL5 := s5 _ _ eL
      have S5 := s3.trans (s4.trans s5)
      generalize upd H4 U (.tup [.int (wtF p q c j), .int (j : Nat), .ref L]) = H5 at *
      refine ⟨_, eD5, by rw [List.length_map]; omega, ts ++ [U], by rw [List.length_append, hts]; rfl, fun b o ho => ?_, ?_, fun i t ht => ?_⟩
      · rw [upd_ne (ne_of_none ho nD)]
        exact S5 _ _ (s2 _ _ ho)
      · rw [upd_same, List.map_append]
        rfl
      · by_cases hi : i < ts.length
        · rw [List.getElem?_append_left hi] at ht
          exact RowAt.updF eD5 ((he i t ht).same S5)
        · have hi2 := (List.getElem?_eq_some_iff.mp ht).1
          rw [List.length_append, List.length_singleton] at hi2
          have : i = ts.length := by omega
          subst this
          rw [List.getElem?_append_right (Nat.le_refl _), Nat.sub_self] at ht
          cases Option.some.inj ht
          rw [hts]
          exact RowAt.updF eD5 ⟨L, nLD, eU, eL5⟩
    rintro H2 ⟨ts, hts, s2, eD, he⟩
    rw [lw] at hts
    have S2 := s1.trans s2
    -- found
    refine ⟨(by show 1 ≤ sizeLine; omega), fun E1 nE1 => ?_⟩
    have s3 := same_new nE1 (.lst [.int 0])
    refine ⟨_, rfl, E1, _, _, rfl, rfl, upd_same, by omega, by omega, (by show 1 * _ ≤ sizeLine; omega), fun F nF => ?_⟩
    rw [Int.toNat_natCast]
    have s4 := s3.trans (same_new nF (.lst ((List.replicate c [V.int 0]).flatten)))
    have nF2 : H2 F = none := s3.free nF
    have eF : (upd (upd H2 E1 (.lst [.int 0])) F (.lst ((List.replicate c [V.int 0]).flatten))) F = some (.lst (natL (fun _ => 0) c)) := by
      rw [upd_same]
      have e : ∀ n, (List.replicate n [V.int 0]).flatten = natL (fun _ => 0) n := fun n => by
        induction n with
        | zero => rfl
        | succ n ih =>
          unfold natL at ih ⊢
          rw [List.replicate_succ', List.flatten_append, ih, List.range_succ, List.map_append]
          rfl
      rw [e c]
    have he4 : ∀ (i : Nat) t, ts[i]? = some t → RowAt F (upd (upd H2 E1 (.lst [.int 0])) F (.lst ((List.replicate c [V.int 0]).flatten))) t ⟨wtF p q c i, i, [i]⟩ := fun i t h => ((he i t h).other nF2).same s4
    have eD4 := s4 _ _ eD
    have S4 := S2.trans s4
    have nFH : H F = none := S2.free nF2
    generalize upd (upd H2 E1 (.lst [.int 0])) F (.lst ((List.replicate c [V.int 0]).flatten)) = H4 at *
    have nDF : D ≠ F := fun z => by rw [← z, eD] at nF2; cases nF2
    clear he eD s2 s3 s4 s1 eZ nE1 nF nZ
    -- the merging
    have lr : (rows0 (wtF p q c) c).length = c := by unfold rows0; rw [List.length_map, List.length_range]
    have z1 : (ts.zip (rows0 (wtF p q c) c)).map (·.1) = ts := List.map_fst_zip (by omega)
    have z2 : (ts.zip (rows0 (wtF p q c) c)).map (·.2) = rows0 (wtF p q c) c := List.map_snd_zip (by omega)
    have zl : (ts.zip (rows0 (wtF p q c) c)).length = c := by rw [List.length_zip, hts, lr, Nat.min_self]
    refine ⟨BInv p q c a F H4, ⟨_, D, (ts.zip (rows0 (wtF p q c) c)), fun _ => 0, 0, _, _, _, _, rfl, rfl, ?_, ?_, eF, by rw [z2]; exact minv0 _ _ _, fun b o _ h => h, by omega, nDF, c, by omega, by rw [z2]; rfl⟩, ?_⟩
    · rw [eD4]
      congr 2
      conv => lhs; rw [← z1, List.map_map]
      rfl
    · intro p' hp'
      obtain ⟨i, hi⟩ := List.getElem?_of_mem hp'
      have h1 : (ts.zip (rows0 (wtF p q c) c)).map (·.1) = ts := z1
      have i1 : ts[i]? = some p'.1 := by
        rw [← z1, List.getElem?_map, hi]
        rfl
      have i2 : (rows0 (wtF p q c) c)[i]? = some p'.2 := by
        rw [← z2, List.getElem?_map, hi]
        rfl
      have hic : i < c := hts ▸ (List.getElem?_eq_some_iff.mp i1).1
      unfold rows0 at i2
      rw [List.getElem?_map, List.getElem?_range hic] at i2
      rw [← Option.some.inj i2]
      exact he4 i _ i1
    clear z1 z2 zl he4 hts eD4 eF nDF
    rintro n σ H5 ⟨R, ps, g, j, v4, v5, v6, v7, rfl, rfl, eR, hrow, eF5, hinv, keep, hl1, nRF, f, hf, hbest⟩
    refine ⟨_, rfl, R, _, rfl, .inl (.inl (.inl eR)), _, _, rfl, rfl, _, rfl, ?_⟩
    rw [List.length_map]
    have hlen := hinv.len
    rw [List.length_map] at hlen
    by_cases c1 : 1 < ps.length
    · refine iteDT (by omega) ?_
      refine ⟨BInv p q c a F H4 (ps.length - 1), fun σ' H' h => ⟨ps.length - 1, by omega, h⟩, ?_⟩
      have apart : ∀ x ∈ ps, ∀ y ∈ ps, x.2.n = y.2.n → x.2 = y.2 := fun x hx y hy e => hinv.apart (List.mem_map_of_mem hx) (List.mem_map_of_mem hy) e
      obtain ⟨sr1, sr2⟩ := sort_rows hrow apart
      have mems : ∀ x ∈ ps.map (fun p => V.ref p.1), ∃ pr ∈ ps, x = V.ref pr.1 := fun x hx => by
        obtain ⟨pr, h1, rfl⟩ := List.mem_map.mp hx
        exact ⟨pr, h1, rfl⟩
      refine ⟨_, rfl, R, _, fun v => encRow (rowOf H5 v), rfl, .inl (.inl eR), fun x hx => ?_, ?_, ?_, fun x hx => enc_depth _, fun Pn nP => ?_⟩
      · obtain ⟨pr, h1, rfl⟩ := mems x hx
        show Dp K H5 (.ref pr.1) (encRow (rowOf H5 (.ref pr.1)))
        rw [(hrow pr h1).of]
        exact (hrow pr h1).dp
      · exact PySem.W.AllAlike.of fun b b' => enc_alike _ _
      · exact PySem.W.Sortable.tuples fun b => ⟨_, _, rfl⟩
      rw [sr1]
      have s6 := same_new nP (.lst ((ps.mergeSort fun a b => rowLe a.2 b.2).map fun p => V.ref p.1))
      have eP : (upd H5 Pn (.lst ((ps.mergeSort fun a b => rowLe a.2 b.2).map fun p => V.ref p.1))) Pn = some (.lst ((ps.mergeSort fun a b => rowLe a.2 b.2).map fun p => V.ref p.1)) := upd_same
      have hperm := List.mergeSort_perm ps fun a b => rowLe a.2 b.2
      have hrow6 : ∀ pr ∈ (ps.mergeSort fun a b => rowLe a.2 b.2), RowAt F (upd H5 Pn (.lst ((ps.mergeSort fun a b => rowLe a.2 b.2).map fun p => V.ref p.1))) pr.1 pr.2 := fun pr h => (hrow pr (hperm.mem_iff.mp h)).same s6
      have hql := hperm.length_eq
      generalize (ps.mergeSort fun a b => rowLe a.2 b.2) = qs at *
      have eF6 := s6 _ _ eF5
      have nPF : Pn ≠ F := fun z => by rw [z, eF5] at nP; cases nP
      have keep6 : ∀ b o, b ≠ F → H4 b = some o → (upd H5 Pn (.lst (qs.map fun p => V.ref p.1))) b = some o := fun b o hb ho => s6 _ _ (keep b o hb ho)
      generalize upd H5 Pn (.lst (qs.map fun p => V.ref p.1)) = H6 at *
      clear s6 nP eR hrow keep eF5 mems
      match qs, hql, sr2, hperm, eP, hrow6 with
      | [], h, _, _, _, _ => rw [List.length_nil] at h; omega
      | [x], h, _, _, _, _ => rw [List.length_singleton] at h; omega
      | x :: y :: r, hql, sr2, hperm, eP, hrow6 =>
        obtain ⟨hsorted, hmin⟩ := hinv.sorted
        have sr3 : (ps.map (·.2)).mergeSort rowLe = x.2 :: y.2 :: r.map (·.2) := sr2.symm
        obtain ⟨m1, m2⟩ := hmin _ _ _ sr3
        rw [sr3] at hsorted
        have hstep := hsorted.step (by omega) m1 m2
        rw [List.length_map] at hstep
        have hmsl : x.2.ms.length + y.2.ms.length ≤ c := by
          have h := hsorted.part.length_eq
          rw [List.flatMap_cons, List.flatMap_cons, List.length_append, List.length_append, List.length_range] at h
          omega
        have hmsc : ∀ k ∈ x.2.ms ++ y.2.ms, k < c := fun k hk => by
          have h := hsorted.part
          rw [List.flatMap_cons, List.flatMap_cons, ← List.append_assoc] at h
          exact List.mem_range.mp (h.mem_iff.mp (List.mem_append_left _ hk))
        rw [List.length_cons, List.length_cons] at hql
        obtain ⟨Lx, nx, ex, eLx⟩ := hrow6 x List.mem_cons_self
        obtain ⟨Ly, ny, ey, eLy⟩ := hrow6 y (List.mem_cons_of_mem _ List.mem_cons_self)
        have lnx : (natsV x.2.ms).length = x.2.ms.length := by unfold natsV; rw [List.length_map]
        have lny : (natsV y.2.ms).length = y.2.ms.length := by unfold natsV; rw [List.length_map]
        refine ⟨_, rfl, Pn, _, _, _, rfl, rfl, .inl (.inl eP), at_of (j := 0) rfl rfl, _, rfl, Pn, _, _, _, rfl, rfl, .inl (.inl eP), at_of (j := 1) rfl rfl, _, _, rfl, ?_⟩
        refine ⟨_, rfl, x.1, _, _, _, rfl, rfl, .inl (.inl ex), at_of (j := 2) rfl rfl, _, rfl, y.1, _, _, _, rfl, rfl, .inl (.inl ey), at_of (j := 2) rfl rfl, Lx, Ly, _, _, rfl, rfl, eLx, eLy, by rw [lnx, lny]; omega, fun C nC => ?_⟩
        have eC : (upd H6 C (.lst (natsV x.2.ms ++ natsV y.2.ms))) C = some (.lst (natsV (x.2.ms ++ y.2.ms))) := by
          rw [upd_same]
          unfold natsV
          rw [List.map_append]
        have s7 := same_new nC (.lst (natsV x.2.ms ++ natsV y.2.ms))
        have nCF : C ≠ F := fun z => by rw [z, eF6] at nC; cases nC
        generalize upd H6 C (.lst (natsV x.2.ms ++ natsV y.2.ms)) = H7 at *
        refine ⟨C, rfl, ⟨_, .inl (.inl eC)⟩, for_list (K := K) (a := C) (xs := natsV (x.2.ms ++ y.2.ms)) (fun i σ H8 => ∃ v6, σ = [some (.ref a), some (.int (c : Nat)), some (.ref Pn), some (.ref F), some (.ref x.1), some (.ref y.1), v6, v7] ∧ H8 F = some (.lst (natL (bump g ((x.2.ms ++ y.2.ms).take i)) c)) ∧ ∀ b o, b ≠ F → H7 b = some o → H8 b = some o) ⟨_, rfl, s7 _ _ eF6, fun b o _ h => h⟩ (fun i σ H8 _ ⟨_, _, _, s⟩ => .inl (.inl (s _ _ nCF eC))) ?_ ?_⟩
        · rintro i z σ H8 hz ⟨v6, rfl, eF8, s8⟩
          unfold natsV at hz
          rw [List.getElem?_map] at hz
          cases hk : (x.2.ms ++ y.2.ms)[i]? with
          | none => rw [hk] at hz; cases hz
          | some k =>
            rw [hk] at hz
            cases Option.some.inj hz
            have hkc := hmsc k (List.mem_of_getElem? hk)
            refine ⟨_, rfl, _, rfl, F, _, k, _, rfl, rfl, .inl (.inl eF8), natL_get _ hkc, _, _, rfl, rfl, F, _, _, k, rfl, rfl, eF8, ?_, _, rfl, ?_, fun b o hb ho => ?_⟩
            · unfold ixN
              rw [if_pos (by omega), if_pos (by rw [natL_len]; omega), Int.toNat_natCast]
            · rw [upd_same, natL_set _ hkc, bump_take hk]
            · rw [upd_ne hb]
              exact s8 b o hb ho
        rintro σ H8 ⟨v6, rfl, eF8, s8⟩
        rw [List.take_of_length_le (by unfold natsV; rw [List.length_map]; exact Nat.le_refl _)] at eF8
        have ne_l : ∀ {t : Addr} {l : List V}, H7 t = some (.tup l) → H8 t = some (.tup l) := fun {t l} h => s8 _ _ (fun z => by rw [z, s7 _ _ eF6] at h; cases h) h
        have ex8 := ne_l (s7 _ _ ex)
        have ey8 := ne_l (s7 _ _ ey)
        have eLx8 := s8 _ _ nx (s7 _ _ eLx)
        have eLy8 := s8 _ _ ny (s7 _ _ eLy)
        have eP8 := s8 _ _ nPF (s7 _ _ eP)
        have hrow8 : ∀ pr ∈ r, RowAt F H8 pr.1 pr.2 := fun pr h => by
          obtain ⟨L, a1, a2, a3⟩ := (hrow6 pr (List.mem_cons_of_mem _ (List.mem_cons_of_mem _ h))).same s7
          exact ⟨L, a1, ne_l a2, s8 _ _ a1 a3⟩
        have keep8 : ∀ b o, b ≠ F → H4 b = some o → H8 b = some o := fun b o hb ho => s8 _ _ hb (s7 _ _ (keep6 b o hb ho))
        clear ex ey eLx eLy eP hrow6 keep6 s7 s8 eC nC eF6 ne_l
        -- the new row
        refine ⟨_, rfl, _, rfl, Pn, _, rfl, .inl (.inl eP8), fun S nS => ?_⟩
        have ecut : cutV ((x :: y :: r).map fun p => V.ref p.1) (some (2 : Int)) none = r.map fun p => V.ref p.1 := cutV_from _ 2
        rw [ecut]
        have s9 := same_new nS (.lst (r.map fun p => V.ref p.1))
        have eS : (upd H8 S (.lst (r.map fun p => V.ref p.1))) S = some (.lst (r.map fun p => V.ref p.1)) := upd_same
        generalize upd H8 S (.lst (r.map fun p => V.ref p.1)) = H9 at *
        refine ⟨_, rfl, x.1, _, _, _, rfl, rfl, .inl (.inl (s9 _ _ ex8)), at_of (j := 0) rfl rfl, _, rfl, y.1, _, _, _, rfl, rfl, .inl (.inl (s9 _ _ ey8)), at_of (j := 0) rfl rfl, _, _, rfl, rfl, _, rfl, _, rfl, Pn, _, rfl, .inl (.inl (.inl (s9 _ _ eP8))), _, _, rfl, rfl, ?_⟩
        refine ⟨_, rfl, x.1, _, _, _, rfl, rfl, .inl (.inl (s9 _ _ ex8)), at_of (j := 2) rfl rfl, _, rfl, y.1, _, _, _, rfl, rfl, .inl (.inl (s9 _ _ ey8)), at_of (j := 2) rfl rfl, Lx, Ly, _, _, rfl, rfl, s9 _ _ eLx8, s9 _ _ eLy8, by rw [lnx, lny]; omega, fun C2 nC2 => ?_⟩
        have eC2 : (upd H9 C2 (.lst (natsV x.2.ms ++ natsV y.2.ms))) C2 = some (.lst (natsV (x.2.ms ++ y.2.ms))) := by
          rw [upd_same]
          unfold natsV
          rw [List.map_append]
        have s10 := same_new nC2 (.lst (natsV x.2.ms ++ natsV y.2.ms))
        have nC2F : C2 ≠ F := fun z => by rw [z, s9 _ _ eF8] at nC2; cases nC2
        generalize upd H9 C2 (.lst (natsV x.2.ms ++ natsV y.2.ms)) = H10 at *
        refine ⟨(by show 3 ≤ sizeLine; omega), fun U nU => ?_⟩
        have eU : (upd H10 U (.tup [.int (x.2.w + y.2.w), .int ((c : Int) + ((((x :: y :: r).map fun p => V.ref p.1).length : Nat) : Int)), .ref C2])) U = some (.tup [.int (x.2.w + y.2.w), .int ((c + (r.length + 2) : Nat) : Int), .ref C2]) := by
          have el : (c : Int) + ((((x :: y :: r).map fun p => V.ref p.1).length : Nat) : Int) = ((c + (r.length + 2) : Nat) : Int) := by
            rw [List.length_map, List.length_cons, List.length_cons]
            omega
          rw [upd_same, el]
        have s11 := same_new nU (.tup [.int (x.2.w + y.2.w), .int ((c : Int) + ((((x :: y :: r).map fun p => V.ref p.1).length : Nat) : Int)), .ref C2])
        refine ⟨(by show 1 ≤ sizeLine; omega), fun V1 nV => ?_⟩
        have s12 := s11.trans (same_new nV (.lst [.ref U]))
        have eU := same_new nV (.lst [.ref U]) _ _ eU
        have eV : (upd (upd H10 U (.tup [.int (x.2.w + y.2.w), .int ((c : Int) + ((((x :: y :: r).map fun p => V.ref p.1).length : Nat) : Int)), .ref C2])) V1 (.lst [.ref U])) V1 = some (.lst [.ref U]) := upd_same
        refine ⟨S, V1, _, _, rfl, rfl, s12 _ _ (s10 _ _ eS), eV, by rw [List.length_map]; show r.length + 1 ≤ sizeLine; omega, fun R' nR' => ?_⟩
        have s13 := (s10.trans s12).trans (same_new nR' (.lst ((r.map fun p => V.ref p.1) ++ [.ref U])))
        have S13 := s9.trans s13
        have nRF' : R' ≠ F := fun z => by rw [z] at nR'; rw [s12 _ _ (s10 _ _ (s9 _ _ eF8))] at nR'; cases nR'
        refine ⟨R', r ++ [(U, ⟨x.2.w + y.2.w, c + (r.length + 2), x.2.ms ++ y.2.ms⟩)], bump g (x.2.ms ++ y.2.ms), j + 1, _, _, _, _, ?_, rfl, ?_, fun pr hpr => ?_, S13 _ _ eF8, ?_, fun b o hb ho => S13 _ _ (keep8 b o hb ho), by rw [List.length_append]; show 1 ≤ _ + 1; omega, nRF', f - 1, by rw [List.length_append]; show r.length + 1 ≤ _; omega, ?_⟩
        · rw [List.length_append]
          show _ = r.length + 1
          omega
        · rw [upd_same, List.map_append]
          rfl
        · rcases List.mem_append.mp hpr with hpr | hpr
          · exact (hrow8 pr hpr).same S13
          · rw [List.mem_singleton.mp hpr]
            exact ⟨C2, nC2F, same_new nR' _ _ _ eU, same_new nR' _ _ _ (s12 _ _ eC2)⟩
        · rw [List.map_append]
          exact hstep
        · rw [hbest, show f = (f - 1) + 1 by omega, mrun_more sr3, List.map_append, List.length_map, Nat.add_sub_cancel]
          rfl
    · refine iteDF (by omega) ?_
      have h1 : ps.length = 1 := by omega
      rw [mrun_one _ _ _ _ (by rw [List.length_map]; exact h1)] at hbest
      have hints : natL g c = (((List.range c).map g).map fun n => ((n : Nat) : Int)).map V.int := by
        unfold natL
        rw [List.map_map, List.map_map]
        rfl
      rw [hints] at eF5
      refine ⟨_, rfl, F, _, rfl, .inl (.inl eF5), by rw [List.length_map, List.length_map, List.length_range]; omega, fun ns' pp perm pw np => ?_⟩
      have hnn : ns' = (ns'.map Int.toNat).map fun n => ((n : Nat) : Int) := by
        rw [List.map_map]
        have e : ∀ z ∈ ns', (((fun n : Nat => (n : Int)) ∘ Int.toNat) z) = z := fun z hz => by
          obtain ⟨n, _, rfl⟩ := List.mem_map.mp (perm.mem_iff.mp hz)
          show (((n : Nat) : Int).toNat : Int) = _
          rw [Int.toNat_natCast]
        rw [List.map_congr_left e, List.map_id']
      have hp2 : (ns'.map Int.toNat).Perm ((List.range c).map (bestG (wtF p q c) c)) := by
        rw [hbest]
        have h := perm.map Int.toNat
        rw [List.map_map] at h
        have e : ((List.range c).map g).map (Int.toNat ∘ fun n : Nat => ((n : Nat) : Int)) = (List.range c).map g := by
          rw [List.map_congr_left (fun n _ => show (Int.toNat ∘ fun n : Nat => ((n : Nat) : Int)) n = n from Int.toNat_natCast n), List.map_id']
        rw [e] at h
        exact h
      have hpw : (ns'.map Int.toNat).Pairwise (· ≤ ·) := List.pairwise_map.mpr (pw.imp fun h => Int.toNat_le_toNat h)
      refine ⟨pp, _, rfl, .inl ⟨.inl (.inl upd_same), fun T nT => ?_⟩⟩
      have sA := same_new np (.lst (ns'.map V.int))
      refine k T (ns'.map Int.toNat) _ hp2 hpw (fun b o ho => same_new nT _ _ _ (sA _ _ (keep b o (ne_of_none ho nFH) (S4 _ _ ho)))) ?_
      rw [upd_same]
      congr 2
      conv => lhs; rw [hnn, List.map_map]
      rfl
end

abbrev s__law_double : Stmt := topS 33
theorem sc__law_double : FnScope ["_law_times", "_law_found", "_law_again"] ["_law_times"] (defScope s__law_double) := ⟨rfl, rfl, rfl, by decide +kernel, rfl, by decide +kernel, by decide +kernel⟩
def sp__law_double (K : PySem.W.Frag) : Sp := fun vs H Q _ => ∃ t : Nat, vs = [.int (t : Nat)] ∧ t ≤ 1000 ∧ Q (.int ((2 ^ t : Nat) : Int)) H
section
variable {P : Program} {w : World} {K : PySem.W.Frag} {mg : Str → Option Value} {base : Heap}
theorem ok__law_double (A : At K mg "_law_double" s__law_double ["_law_times"]) (B : Bn mg) : CalE P w K mg base "_law_double" ["_law_times"] 1 (sp__law_double K) := by
  obtain ⟨f, fd, F, gF, bF⟩ := A
  refine ⟨f, fd, F.ok sc__law_double (fun vs H Q E h => ?_) (fun cdv A outer s H vs Q E hr h => ?_), gF, F.kp, bF⟩
  · repeat (first | (obtain ⟨rfl, _⟩ := h; rfl) | (obtain ⟨_, h⟩ := h))
  · obtain ⟨t, rfl, ht, k⟩ := h
    refine ⟨_, (pss_cons (ps_set (i := 1) sc__law_double.nd rfl (.inl rfl) pe_int)
      (pss_cons (ps_for PassesOwn.never rfl (pi_range1 (by rfl) B.range_ (pa_cons (pv 0) pa_nil)) (pg_name (i := 2) sc__law_double.nd rfl (.inl rfl))
      (pss_one (ps_set (i := 1) sc__law_double.nd rfl (.inl rfl) (pe_op op_mul (pv 1) pe_int))))
      (pss_one (ps_ret (pv 1))))), ?_⟩
    refine ⟨_, rfl, _, rfl, by omega, by omega, for_range (lo := 0) (n := t) (fun i σ H2 => ∃ v, σ = [some (.int (t : Nat)), some (.int ((2 ^ i : Nat) : Int)), v] ∧ H2 = H) ⟨_, rfl, rfl⟩ ?_ ?_⟩
    · rintro i σ H2 hi ⟨v, rfl, rfl⟩
      refine ⟨_, rfl, _, _, rfl, rfl, .inr (by omega), ?_⟩
      have e : ((2 ^ i : Nat) : Int) * 2 = ((2 ^ (i + 1) : Nat) : Int) := by
        rw [Nat.pow_succ, Int.natCast_mul]
        rfl
      refine ⟨some (.int (0 + (i : Nat))), ?_, rfl⟩
      show [_, some (V.int (((2 ^ i : Nat) : Int) * 2)), _] = _
      rw [e]
    · rintro σ H2 ⟨v, rfl, rfl⟩
      exact ⟨_, rfl, k⟩
end

abbrev s__law_alike : Stmt := topS 31
theorem sc__law_alike : FnScope ["_law_found", "_law_due", "_law_k"] ["_law_found", "_law_due"] (defScope s__law_alike) := ⟨rfl, rfl, rfl, by decide +kernel, rfl, by decide +kernel, by decide +kernel⟩
def tnD : PyData → String
  | .none => "NoneType" | .bool _ => "bool" | .int _ => "int" | .str _ => "str" | .list _ => "list" | .tuple _ => "tuple" | .dict _ => "dict"
theorem Dp.ty {K : PySem.W.Frag} {H : Hp} {v : V} {d : PyData} (h : Dp K H v d) : TyX K H v (.type (tnD d)) := by
  cases h with
  | non => exact .base .non
  | bl b => exact .base (.bl b)
  | int i => exact .base (.int i)
  | str x => exact .base (.str x)
  | lst h _ => exact tyL h
  | tup h _ => exact tyT h
def isLD : PyData → Bool
  | .list _ => true | _ => false
theorem kaTL {K : PySem.W.Frag} (d : PyData) : PySem.W.kitAny K (.type (tnD d)) [.type "tuple", .type "list"] = some (isTL d) := by
  have no : ∀ T : String, kitB T "tuple" = some false → kitB T "list" = some false → PySem.W.kitAny K (.type T) [.type "tuple", .type "list"] = some false := fun T h1 h2 =>
    kitAny_cons (b := false) (kit_ty h1) (fun _ => kitAny_cons (b := false) (kit_ty h2) (fun _ => rfl) (fun z => nomatch z)) (fun z => nomatch z)
  have c1 : kitB "tuple" "tuple" = some true := by decide +kernel
  have c2 : kitB "list" "tuple" = some false := by decide +kernel
  have c3 : kitB "list" "list" = some true := by decide +kernel
  cases d with
  | none => exact no "NoneType" (by decide +kernel) (by decide +kernel)
  | bool b => exact no "bool" (by decide +kernel) (by decide +kernel)
  | int b => exact no "int" (by decide +kernel) (by decide +kernel)
  | str b => exact no "str" (by decide +kernel) (by decide +kernel)
  | dict b => exact no "dict" (by decide +kernel) (by decide +kernel)
  | tuple b => exact kitAny_cons (b := true) (kit_ty c1) (fun z => nomatch z) (fun _ => rfl)
  | list b => exact kitAny_cons (b := false) (kit_ty c2) (fun _ => kitAny_cons (b := true) (kit_ty c3) (fun z => nomatch z) (fun _ => rfl)) (fun z => nomatch z)
theorem kaL {K : PySem.W.Frag} (d : PyData) : PySem.W.kitOne K (.type (tnD d)) (.type "list") = some (isLD d) := by
  have c1 : kitB "NoneType" "list" = some false := by decide +kernel
  have c2 : kitB "bool" "list" = some false := by decide +kernel
  have c3 : kitB "int" "list" = some false := by decide +kernel
  have c4 : kitB "str" "list" = some false := by decide +kernel
  have c5 : kitB "list" "list" = some true := by decide +kernel
  have c6 : kitB "tuple" "list" = some false := by decide +kernel
  have c7 : kitB "dict" "list" = some false := by decide +kernel
  cases d <;> first | exact kit_ty c1 | exact kit_ty c2 | exact kit_ty c3 | exact kit_ty c4 | exact kit_ty c5 | exact kit_ty c6 | exact kit_ty c7
theorem kit_of_names {K : PySem.W.Frag} (c : String) (g : PyData → Bool) (h : ∀ d, kitB (tnD d) c = some (g d)) (d : PyData) : PySem.W.kitOne K (.type (tnD d)) (.type c) = some (g d) := kit_ty (h d)
def isSD : PyData → Bool
  | .str _ => true | _ => false
def isID : PyData → Bool
  | .int _ => true | .bool _ => true | _ => false
def isBD : PyData → Bool
  | .bool _ => true | _ => false
theorem tab {c : String} {b1 b2 b3 b4 b5 b6 b7 : Bool} (h : kitB "NoneType" c = some b1 ∧ kitB "bool" c = some b2 ∧ kitB "int" c = some b3 ∧ kitB "str" c = some b4 ∧ kitB "list" c = some b5 ∧ kitB "tuple" c = some b6 ∧ kitB "dict" c = some b7) (d : PyData) :
    kitB (tnD d) c = some (match d with | .none => b1 | .bool _ => b2 | .int _ => b3 | .str _ => b4 | .list _ => b5 | .tuple _ => b6 | .dict _ => b7) := by
  obtain ⟨h1, h2, h3, h4, h5, h6, h7⟩ := h
  cases d <;> assumption
theorem kS {K : PySem.W.Frag} (d : PyData) : PySem.W.kitOne K (.type (tnD d)) (.type "str") = some (isSD d) := by
  have := kit_ty (K := K) (tab (c := "str") (by decide +kernel : kitB "NoneType" "str" = some false ∧ kitB "bool" "str" = some false ∧ kitB "int" "str" = some false ∧ kitB "str" "str" = some true ∧ kitB "list" "str" = some false ∧ kitB "tuple" "str" = some false ∧ kitB "dict" "str" = some false) d)
  cases d <;> exact this
theorem kI {K : PySem.W.Frag} (d : PyData) : PySem.W.kitOne K (.type (tnD d)) (.type "int") = some (isID d) := by
  have := kit_ty (K := K) (tab (c := "int") (by decide +kernel : kitB "NoneType" "int" = some false ∧ kitB "bool" "int" = some true ∧ kitB "int" "int" = some true ∧ kitB "str" "int" = some false ∧ kitB "list" "int" = some false ∧ kitB "tuple" "int" = some false ∧ kitB "dict" "int" = some false) d)
  cases d <;> exact this
theorem kB {K : PySem.W.Frag} (d : PyData) : PySem.W.kitOne K (.type (tnD d)) (.type "bool") = some (isBD d) := by
  have := kit_ty (K := K) (tab (c := "bool") (by decide +kernel : kitB "NoneType" "bool" = some false ∧ kitB "bool" "bool" = some true ∧ kitB "int" "bool" = some false ∧ kitB "str" "bool" = some false ∧ kitB "list" "bool" = some false ∧ kitB "tuple" "bool" = some false ∧ kitB "dict" "bool" = some false) d)
  cases d <;> exact this
def spA (K : PySem.W.Frag) (n : Nat) : Sp := fun vs H Q _ => ∃ (x y : V) (d : PyData) (m : Nat), vs = [x, y] ∧ n = m + 1 ∧ Dp K H x d ∧ Dp K H y d ∧ OkD m d ∧ ∀ H', Same H H' → Q (.bl true) H'
def sp__law_alike (K : PySem.W.Frag) : Sp := spA K 5
section
variable {P : Program} {w : World} {K : PySem.W.Frag} {mg : Str → Option Value} {base : Heap}
theorem ok__law_alike (A : At K mg "_law_alike" s__law_alike ["_law_found", "_law_due"]) (B : Bn mg) : CalE P w K mg base "_law_alike" ["_law_found", "_law_due"] 5 (sp__law_alike K) := by
  obtain ⟨f, fd, F, gF, bF⟩ := A
  have key : ∀ n, FnOk P w K mg base CX0 n f fd ["_law_found", "_law_due"] (spA K n) := by
    intro n
    induction n with
    | zero =>
      have no : ∀ vs H Q E, ¬ spA K 0 vs H Q E := fun vs H Q E h => by
        obtain ⟨x, y, d, m, _, h1, _⟩ := h
        omega
      exact ⟨fun vs H Q E h => absurd h (no vs H Q E), fun A outer s H args us vs Q E _ _ _ _ h => absurd h (no vs H Q E)⟩
    | succ n ih =>
      have G__law_alike : Cal P w K mg base "_law_alike" ["_law_found", "_law_due"] n (spA K n) f fd := ⟨ih, gF, F.kp, bF⟩
      refine F.ok sc__law_alike (fun vs H Q E h => ?_) (fun cdv A outer s H vs Q E hr h => ?_)
      · obtain ⟨x, y, d, m, rfl, _⟩ := h
        rfl
      obtain ⟨x, y, d, m, rfl, em, hx, hy, hd, q⟩ := h
      have em' : n = m := Nat.succ.inj em
      subst em'
      refine ⟨_, (pss_cons (ps_if (pt_val (pe_callB (call_isiT_ K) (by rfl) B.isinstance_ (by decide +kernel) (pa_cons (pv 1) (pa_cons (pe_tup (pa_cons (pe_bltn (v := .ty "tuple") (by rfl) B.tuple_ (by decide +kernel) rfl) (pa_cons (pe_bltn (v := .ty "list") (by rfl) B.list_ (by decide +kernel) rfl) pa_nil))) pa_nil))))
      (pss_cons (ps_if (PW.pt (pw_or (pt_not (pt_val (pe_callB (call_isiT_ K) (by rfl) B.isinstance_ (by decide +kernel) (pa_cons (pv 0) (pa_cons (pe_tup (pa_cons (pe_bltn (v := .ty "tuple") (by rfl) B.tuple_ (by decide +kernel) rfl) (pa_cons (pe_bltn (v := .ty "list") (by rfl) B.list_ (by decide +kernel) rfl) pa_nil))) pa_nil))))) (pw_or1 (pt_cmpR op_ne (pe_callB (call_isi_ K) (by rfl) B.isinstance_ (by decide +kernel) (pa_cons (pv 0) (pa_cons (pe_bltn (v := .ty "list") (by rfl) B.list_ (by decide +kernel) rfl) pa_nil))) (pe_callB (call_isi_ K) (by rfl) B.isinstance_ (by decide +kernel) (pa_cons (pv 1) (pa_cons (pe_bltn (v := .ty "list") (by rfl) B.list_ (by decide +kernel) rfl) pa_nil))) (nomark _)))))
      (pss_one (ps_ret pe_bl))
      pss_nil)
      (pss_cons (ps_if (pt_cmpR op_ne (pe_callB (call_len_ K) (by rfl) B.len_ (by decide +kernel) (pa_cons (pv 0) pa_nil)) (pe_callB (call_len_ K) (by rfl) B.len_ (by decide +kernel) (pa_cons (pv 1) pa_nil)) (nomark _))
      (pss_one (ps_ret pe_bl))
      pss_nil)
      (pss_one (ps_ret (pe_cmpR (op_eqD_ K hr.units) (pe_lc (own := [("_law_k", 2)]) (g := gName 2) (tt := _) rfl sc__law_alike.nd (pi_range1 (by rfl) B.range_ (pa_cons (pe_callB (call_len_ K) (by rfl) B.len_ (by decide +kernel) (pa_cons (pv 1) pa_nil)) pa_nil)) (blkOk_by (own := [("_law_k", 2)]) (N := ["_law_found", "_law_due", "_law_k"]) (sc := defScope s__law_alike) (by decide +kernel)) (fun _ _ _ _ _ => (pg_name (i := 2) sc__law_alike.nd rfl (.inl rfl))) (fun _ _ _ _ _ => (pts_one (pt_not (pt_val (pe_call G__law_alike.ok (hr.mono (by first | decide | exact Nat.le_refl _)) (by rfl) G__law_alike.g G__law_alike.kp G__law_alike.b .nil pass0 (pa_cons (pe_ix (ix_seq_ K) (pv 0) (pv 2) (fun _ _ => rfl)) (pa_cons (pe_ix (ix_seq_ K) (pv 1) (pv 2) (fun _ _ => rfl)) pa_nil))))))) (fun _ _ _ _ _ => (pv 2))) (pe_lst pa_nil) (nomark _))))))
      pss_nil)
      (pss_cons (ps_if (PW.pt (pw_or (pt_cmp (pc_isN (pv 1))) (pw_or1 (pt_val (pe_callB (call_isi_ K) (by rfl) B.isinstance_ (by decide +kernel) (pa_cons (pv 1) (pa_cons (pe_bltn (v := .ty "str") (by rfl) B.str_ (by decide +kernel) rfl) pa_nil)))))))
      (pss_one (ps_ret (pe_and (pe_cmpR op_eq (pv 0) (pv 1) (nomark _)) (pe_one (pe_cmpR op_eq (pe_callB (call_isi_ K) (by rfl) B.isinstance_ (by decide +kernel) (pa_cons (pv 0) (pa_cons (pe_bltn (v := .ty "str") (by rfl) B.str_ (by decide +kernel) rfl) pa_nil))) (pe_callB (call_isi_ K) (by rfl) B.isinstance_ (by decide +kernel) (pa_cons (pv 1) (pa_cons (pe_bltn (v := .ty "str") (by rfl) B.str_ (by decide +kernel) rfl) pa_nil))) (nomark _))))))
      pss_nil)
      (pss_one (ps_ret (pe_and (pe_callB (call_isi_ K) (by rfl) B.isinstance_ (by decide +kernel) (pa_cons (pv 0) (pa_cons (pe_bltn (v := .ty "int") (by rfl) B.int_ (by decide +kernel) rfl) pa_nil))) (pe_and (pe_cmpR op_eq (pe_callB (call_isi_ K) (by rfl) B.isinstance_ (by decide +kernel) (pa_cons (pv 0) (pa_cons (pe_bltn (v := .ty "bool") (by rfl) B.bool_ (by decide +kernel) rfl) pa_nil))) (pe_callB (call_isi_ K) (by rfl) B.isinstance_ (by decide +kernel) (pa_cons (pv 1) (pa_cons (pe_bltn (v := .ty "bool") (by rfl) B.bool_ (by decide +kernel) rfl) pa_nil))) (nomark _)) (pe_one (pe_cmpR op_eq (pv 0) (pv 1) (nomark _))))))))), ?_⟩
      -- isinstance(due, (tuple, list))
      refine ⟨_, rfl, (by show 2 ≤ sizeLine; decide), fun p np => ?_⟩
      have s1 := same_new np (.tup [.ty "tuple", .ty "list"])
      have x1 := Dp.same s1 hx
      have y1 := Dp.same s1 hy
      have two : ([V.ty "tuple", V.ty "list"] : List V).length ≤ sizeLine := by show 2 ≤ sizeLine; decide
      refine ⟨_, p, _, _, _, _, rfl, upd_same, .cons (.ty _) (.cons (.ty _) .nil), Dp.ty y1, kaTL d, _, rfl, ?_⟩
      have flat : isTL d = false → (d = .none ∨ (∃ b, d = .bool b) ∨ (∃ i, d = .int i) ∨ ∃ z, d = .str z) := by
        intro h
        cases d with
        | none => exact .inl rfl
        | bool b => exact .inr (.inl ⟨b, rfl⟩)
        | int i => exact .inr (.inr (.inl ⟨i, rfl⟩))
        | str z => exact .inr (.inr (.inr ⟨z, rfl⟩))
        | list _ => cases h
        | tuple _ => cases h
        | dict _ => cases hy
      cases hd0 : isTL d with
      | true =>
        refine iteT ?_
        -- not isinstance(found, (tuple, list)) or isinstance(found, list) != isinstance(due, list)
        refine ⟨_, rfl, two, fun p2 np2 => ?_⟩
        have s2 := same_new np2 (.tup [.ty "tuple", .ty "list"])
        refine ⟨_, p2, _, _, _, _, rfl, upd_same, .cons (.ty _) (.cons (.ty _) .nil), Dp.ty (Dp.same s2 x1), kaTL d, _, rfl, ?_⟩
        have x2 := Dp.same s2 x1
        have y2 := Dp.same s2 y1
        have s3 := s1.trans s2
        generalize upd (upd H p (.tup [.ty "tuple", .ty "list"])) p2 (.tup [.ty "tuple", .ty "list"]) = H2 at *
        rw [hd0]
        refine iteF ?_
        refine ⟨_, rfl, _, _, _, _, _, rfl, .ty _, Dp.ty x2, kaL d, _, rfl, _, _, _, _, _, rfl, .ty _, Dp.ty y2, kaL d, rfl, _, rfl, ?_⟩
        refine iteNS rfl ?_
        obtain ⟨a, xs, ds, rfl, ha, da⟩ := Dp.seq x2 hd0
        obtain ⟨b, ys, es, rfl, hb, db⟩ := Dp.seq y2 hd0
        have ee : es = ds := by
          rcases ha with ⟨e1, _⟩ | ⟨e1, _⟩ <;> rcases hb with ⟨e2, _⟩ | ⟨e2, _⟩
          · exact PyData.list.inj (e2.symm.trans e1)
          · cases e2.symm.trans e1
          · cases e2.symm.trans e1
          · exact PyData.tuple.inj (e2.symm.trans e1)
        subst ee
        have qa : SqL K H2 a xs ∨ SqT K H2 a xs := ha.elim (fun z => .inl z.2) (fun z => .inr z.2)
        have qb : SqL K H2 b ys ∨ SqT K H2 b ys := hb.elim (fun z => .inl z.2) (fun z => .inr z.2)
        have lx : xs.length = es.length := DpAll.length da
        have ly : ys.length = es.length := DpAll.length db
        obtain ⟨n', rfl, hsz, hok⟩ : ∃ n', n = n' + 1 ∧ es.length ≤ 1000000 ∧ ∀ d ∈ es, OkD n' d := by
          cases n with
          | zero => rcases ha with ⟨rfl, _⟩ | ⟨rfl, _⟩ <;> exact absurd hd id
          | succ n' => rcases ha with ⟨rfl, _⟩ | ⟨rfl, _⟩ <;> exact ⟨n', rfl, hd.1, hd.2⟩
        have La : ∀ H3, Same H2 H3 → LenV K (.ref a) H3 es.length := fun H3 s => qa.elim (fun z => .inl ⟨_, s.seq z, lx.symm⟩) (fun z => .inr ⟨_, Same.seqT s z, lx.symm⟩)
        have Lb : ∀ H3, Same H2 H3 → LenV K (.ref b) H3 es.length := fun H3 s => qb.elim (fun z => .inl ⟨_, s.seq z, ly.symm⟩) (fun z => .inr ⟨_, Same.seqT s z, ly.symm⟩)
        -- len(found) != len(due)
        refine ⟨_, rfl, _, es.length, rfl, La _ (Same.refl _), _, rfl, _, es.length, rfl, Lb _ (Same.refl _), rfl, _, rfl, iteNS rfl ?_⟩
        -- the comprehension
        refine ⟨_, rfl, _, es.length, rfl, Lb _ (Same.refl _), (es.length : Int), rfl, by omega, by omega, fun D nD => ?_⟩
        refine lc_range (lo := 0) (n := es.length) (fun i H' => Same H2 H' ∧ H' D = some (.lst [])) ⟨same_new nD _, upd_same⟩ ?_ ?_
        · rintro i H3 hi ⟨s4, eD⟩
          have hdi : es[i]? = some es[i] := List.getElem?_eq_getElem hi
          obtain ⟨u, hu, du⟩ := DpAll.get da hdi
          obtain ⟨v, hv, dv⟩ := DpAll.get db hdi
          have ei : (0 : Int) + (i : Int) = ((i : Nat) : Int) := Int.zero_add _
          refine ⟨rfl, _, rfl, _, rfl, ?_⟩
          have g1 : rIx K (.ref a) (.int (0 + (i : Int))) H3 = fun Q => rIx K (.ref a) (.int (0 + (i : Int))) H3 Q := rfl
          have ra : ∀ Q : VK, Q u H3 → rIx K (.ref a) (.int (0 + (i : Int))) H3 Q := fun Q q => qa.elim (fun z => .inl ⟨a, xs, _, u, rfl, rfl, s4.seq z, at_of ei hu, q⟩) (fun z => .inr (.inl ⟨a, xs, _, u, rfl, rfl, Same.seqT s4 z, at_of ei hu, q⟩))
          have rb : ∀ Q : VK, Q v H3 → rIx K (.ref b) (.int (0 + (i : Int))) H3 Q := fun Q q => qb.elim (fun z => .inl ⟨b, ys, _, v, rfl, rfl, s4.seq z, at_of ei hv, q⟩) (fun z => .inr (.inl ⟨b, ys, _, v, rfl, rfl, Same.seqT s4 z, at_of ei hv, q⟩))
          refine ra _ ?_
          refine ⟨_, rfl, _, rfl, rb _ ?_⟩
          refine ⟨u, v, es[i], n', rfl, rfl, Dp.same s4 du, Dp.same s4 dv, hok _ (List.getElem_mem hi), fun H4 s5 => ?_⟩
          refine ⟨_, rfl, iteF ?_⟩
          exact ⟨s4.trans s5, s5 _ _ eD⟩
        · rintro H3 ⟨s4, eD⟩
          refine ⟨(by show 0 ≤ sizeLine; decide), fun l nl => ?_⟩
          have s5 := same_new nl (.lst [])
          refine ⟨.list [], .list [], .lst (.inl (.inl (s5 _ _ eD))) .nil, .lst (.inl (.inl upd_same)) .nil, by decide +kernel, by decide +kernel, ?_⟩
          have e : PyData.eqv (.list []) (.list []) = true := by decide +kernel
          rw [e]
          exact q _ (s3.trans (s4.trans s5))
      | false =>
        refine iteF ?_
        have cS : ∀ H3 (Q : VK), Same H H3 → Q (.bl true) H3 → (tOp rEq (tCB (rIsi K) (tCons (tVar 0) (tCons (tC (V.ty "str")) tNil))) (tCB (rIsi K) (tCons (tVar 1) (tCons (tC (V.ty "str")) tNil)))) [some x, some y, none] H3 Q := fun H3 Q s q => by
          refine ⟨_, rfl, _, _, _, _, _, rfl, .ty _, Dp.ty (Dp.same s hx), kS d, _, rfl, _, _, _, _, _, rfl, .ty _, Dp.ty (Dp.same s hy), kS d, rfl, ?_⟩
          rw [decide_eq_true rfl]
          exact q
        have cB : ∀ H3 (Q : VK), Same H H3 → Q (.bl true) H3 → (tOp rEq (tCB (rIsi K) (tCons (tVar 0) (tCons (tC (V.ty "bool")) tNil))) (tCB (rIsi K) (tCons (tVar 1) (tCons (tC (V.ty "bool")) tNil)))) [some x, some y, none] H3 Q := fun H3 Q s q => by
          refine ⟨_, rfl, _, _, _, _, _, rfl, .ty _, Dp.ty (Dp.same s hx), kB d, _, rfl, _, _, _, _, _, rfl, .ty _, Dp.ty (Dp.same s hy), kB d, rfl, ?_⟩
          rw [decide_eq_true rfl]
          exact q
        have exy : x = y ∧ scal x y = true := by
          rcases flat hd0 with rfl | ⟨b, rfl⟩ | ⟨i, rfl⟩ | ⟨z, rfl⟩ <;> cases hx <;> cases hy <;> exact ⟨rfl, rfl⟩
        obtain ⟨rfl, hsc⟩ := exy
        -- due is None or isinstance(due, str)
        refine ⟨_, rfl, _, rfl, ?_⟩
        have fin : ∀ b : Bool, (b = true → isSD d = true ∨ x = .non) → (b = false → isID d = true) → (fun b H1 => if b = true then tRet (tAndV (tOp rEq (tVar 0) (tVar 1)) (tOp rEq (tCB (rIsi K) (tCons (tVar 0) (tCons (tC (V.ty "str")) tNil))) (tCB (rIsi K) (tCons (tVar 1) (tCons (tC (V.ty "str")) tNil)))))
            { nx := fun _ _ => False, rt := Q } [some x, some x, none] H1 else tRet (tAndV (tCB (rIsi K) (tCons (tVar 0) (tCons (tC (V.ty "int")) tNil))) (tAndV (tOp rEq (tCB (rIsi K) (tCons (tVar 0) (tCons (tC (V.ty "bool")) tNil))) (tCB (rIsi K) (tCons (tVar 1) (tCons (tC (V.ty "bool")) tNil)))) (tOp rEq (tVar 0) (tVar 1)))) { nx := fun _ _ => False, rt := Q } [some x, some x, none] H1) b (upd H p (.tup [.ty "tuple", .ty "list"])) := by
          intro b h1 h2
          cases b with
          | true =>
            refine iteT ?_
            refine ⟨_, rfl, _, rfl, hsc, _, rfl, iteDT rfl ?_⟩
            exact cS _ _ s1 (q _ s1)
          | false =>
            refine iteF ?_
            refine ⟨_, rfl, _, _, _, _, _, rfl, .ty _, Dp.ty x1, kI d, _, rfl, ?_⟩
            rw [h2 rfl]
            refine iteT (cB _ _ s1 ⟨_, rfl, iteT ⟨_, rfl, _, rfl, hsc, ?_⟩⟩)
            rw [decide_eq_true rfl]
            exact q _ s1
        by_cases c : x = .non
        · exact iteDT c (fin true (fun _ => .inr c) (fun z => nomatch z))
        · refine iteDF c ?_
          refine ⟨_, rfl, _, _, _, _, _, rfl, .ty _, Dp.ty y1, kS d, _, rfl, fin _ (fun z => .inl z) (fun z => ?_)⟩
          rcases flat hd0 with rfl | ⟨b, rfl⟩ | ⟨i, rfl⟩ | ⟨w, rfl⟩
          · cases hx
            exact absurd rfl c
          · rfl
          · rfl
          · cases z
  exact ⟨f, fd, key 5, gF, F.kp, bF⟩
end

abbrev s_check_lengths : Stmt := topS 24
theorem sc_check_lengths : FnScope ["thing", "index", "length"] ["thing"] (defScope s_check_lengths) := ⟨rfl, rfl, rfl, by decide +kernel, rfl, by decide +kernel, by decide +kernel⟩
def sp_check_lengths (K : PySem.W.Frag) : Sp := fun vs H Q _ => ∃ (a : Addr) (ls : List Nat), vs = [.ref a] ∧ SqT K H a (ls.map fun n => V.int (n : Nat)) ∧ IsLens ls ∧ ∀ H', Same H H' → Q .non H'
section
variable {P : Program} {w : World} {K : PySem.W.Frag} {mg : Str → Option Value} {base : Heap}
theorem ok_check_lengths (A : At K mg "check_lengths" s_check_lengths ["thing"]) (B : Bn mg) (H_is_integer : CalE P w K mg base "is_integer" ["thing", "low", "high"] 1 (sp_is_integer K)) (K_MOST_COUNT : ∃ v, mg "MOST_COUNT" = some v ∧ RelV (.int 40) v) (K_MOST_LENGTH : ∃ v, mg "MOST_LENGTH" = some v ∧ RelV (.int 60) v) : CalE P w K mg base "check_lengths" ["thing"] 2 (sp_check_lengths K) := by
  obtain ⟨f, fd, F, gF, bF⟩ := A
  obtain ⟨f_is_integer, fd_is_integer, G_is_integer⟩ := H_is_integer
  obtain ⟨v_MOST_COUNT, C_MOST_COUNT⟩ := K_MOST_COUNT
  obtain ⟨v_MOST_LENGTH, C_MOST_LENGTH⟩ := K_MOST_LENGTH
  refine ⟨f, fd, F.ok sc_check_lengths (fun vs H Q E h => ?_) (fun cdv A outer s H vs Q E hr h => ?_), gF, F.kp, bF⟩
  · repeat (first | (obtain ⟨rfl, _⟩ := h; rfl) | (obtain ⟨_, h⟩ := h))
  · obtain ⟨a, ns, rfl, hS, ⟨hl1, hl, hn⟩, k⟩ := h
    obtain ⟨_, rfl⟩ := C_MOST_COUNT.2
    obtain ⟨_, rfl⟩ := C_MOST_LENGTH.2
    have lm : (ns.map fun n => V.int (n : Nat)).length = ns.length := List.length_map _
    refine ⟨_, (pss_cons (ps_if (PW.pt (pw_or (pt_not (pt_val (pe_callB (call_isi_ K) (by rfl) B.isinstance_ (by decide +kernel) (pa_cons (pv 0) (pa_cons (pe_bltn (v := .ty "tuple") (by rfl) B.tuple_ (by decide +kernel) rfl) pa_nil))))) (pw_or1 (pt_not (pt_chain op_le op_le pe_int (pe_callB (call_len_seq_ K) (by rfl) B.len_ (by decide +kernel) (pa_cons (pv 0) pa_nil)) (pe_glob (by rfl) C_MOST_COUNT.1 C_MOST_COUNT.2))))))
      (pss_one ps_never)
      pss_nil)
      (pss_one (ps_for PassesOwn.never rfl (pi_enumT (by rfl) B.enumerate_ (pa_cons (pv 0) pa_nil)) (pg_tup (by rfl) (pgs_cons (pg_name (i := 1) sc_check_lengths.nd rfl (.inl rfl)) (pgs_cons (pg_name (i := 2) sc_check_lengths.nd rfl (.inl rfl)) pgs_nil)))
      (pss_one (ps_if (pt_not (pt_val (pe_call G_is_integer.ok (hr.mono (by first | decide | exact Nat.le_refl _)) (by rfl) G_is_integer.g G_is_integer.kp G_is_integer.b .nil pass0 (pa_cons (pv 2) (pa_cons pe_int (pa_cons (pe_glob (by rfl) C_MOST_LENGTH.1 C_MOST_LENGTH.2) pa_nil))))))
      (pss_one ps_never)
      pss_nil))))), ?_⟩
    refine ⟨_, rfl, _, _, _, _, true, rfl, .ty _, tyT hS, kit_ty (by decide +kernel), _, rfl, iteF ?_⟩
    refine ⟨_, rfl, a, _, rfl, .inr hS, _, _, rfl, rfl, _, rfl, iteDT (by rw [lm]; omega) ?_⟩
    refine ⟨_, _, rfl, rfl, _, rfl, iteNF (by rw [lm]; omega) ?_⟩
    refine ⟨_, rfl, a, _, rfl, hS, for_enumT (K := K) (a := a) (xs := ns.map fun n => V.int (n : Nat)) (fun i σ H2 => ∃ v1 v2, σ = [some (.ref a), v1, v2] ∧ Same H H2) ⟨_, _, rfl, Same.refl _⟩ (fun i σ H2 _ ⟨_, _, _, s⟩ => Same.seqT s hS) ?_ ?_⟩
    · rintro i x σ H2 T hx ⟨v1, v2, rfl, s2⟩ nT
      obtain ⟨z, hz, rfl⟩ := geti_nat hx
      have hzb := hn z (List.mem_of_getElem? hz)
      refine ⟨T, _, rfl, .inl (.inl upd_same), rfl, _, _, rfl, _, _, rfl, rfl, ?_⟩
      refine ⟨_, rfl, _, _, _, rfl, .int _, ?_⟩
      rw [isI_yes (by omega) (by omega)]
      exact ⟨_, rfl, iteF ⟨_, _, rfl, s2.trans (same_new nT _)⟩⟩
    · rintro σ H2 ⟨v1, v2, rfl, s2⟩
      exact k H2 s2
end

abbrev s_room_left : Stmt := topS 26
theorem sc_room_left : FnScope ["lengths", "length"] ["lengths"] (defScope s_room_left) := ⟨rfl, rfl, rfl, by decide +kernel, rfl, by decide +kernel, by decide +kernel⟩
def sp_room_left (K : PySem.W.Frag) : Sp := fun vs H Q _ => ∃ (a : Addr) (ls : List Nat), vs = [.ref a] ∧ SqT K H a (ls.map fun n => V.int (n : Nat)) ∧ IsLens ls ∧ ∀ H', Same H H' → Q (.int (((2 ^ 60 : Nat) : Int) - ((roomN ls : Nat) : Int))) H'
section
variable {P : Program} {w : World} {K : PySem.W.Frag} {mg : Str → Option Value} {base : Heap}
theorem ok_room_left (A : At K mg "room_left" s_room_left ["lengths"]) (B : Bn mg) (H_power_of_two : CalE P w K mg base "power_of_two" ["times"] 1 (sp_power_of_two K)) (K_MOST_LENGTH : ∃ v, mg "MOST_LENGTH" = some v ∧ RelV (.int 60) v) : CalE P w K mg base "room_left" ["lengths"] 2 (sp_room_left K) := by
  obtain ⟨f, fd, F, gF, bF⟩ := A
  obtain ⟨f_power_of_two, fd_power_of_two, G_power_of_two⟩ := H_power_of_two
  obtain ⟨v_MOST_LENGTH, C_MOST_LENGTH⟩ := K_MOST_LENGTH
  refine ⟨f, fd, F.ok sc_room_left (fun vs H Q E h => ?_) (fun cdv A outer s H vs Q E hr h => ?_), gF, F.kp, bF⟩
  · repeat (first | (obtain ⟨rfl, _⟩ := h; rfl) | (obtain ⟨_, h⟩ := h))
  · obtain ⟨a, ns, rfl, hS, ⟨hl1, hl, hn⟩, k⟩ := h
    obtain ⟨_, rfl⟩ := C_MOST_LENGTH.2
    have hsz := sizeLine_eq
    have lm : (ns.map fun n => V.int (n : Nat)).length = ns.length := List.length_map _
    refine ⟨_, (pss_one (ps_ret (pe_op op_sub (pe_call G_power_of_two.ok (hr.mono (by first | decide | exact Nat.le_refl _)) (by rfl) G_power_of_two.g G_power_of_two.kp G_power_of_two.b .nil pass0 (pa_cons (pe_glob (by rfl) C_MOST_LENGTH.1 C_MOST_LENGTH.2) pa_nil)) (pe_callB (cr_sum_ K rfl) (by rfl) B.sum_ (by decide +kernel) (pa_cons (pe_lc (own := [("length", 1)]) (g := gName 1) (tt := tYes) rfl sc_room_left.nd (pi_tup (pv 0)) (blkOk_by (own := [("length", 1)]) (N := ["lengths", "length"]) (sc := defScope s_room_left) (by decide +kernel)) (fun _ _ _ _ _ => (pg_name (i := 1) sc_room_left.nd rfl (.inl rfl))) (fun _ _ _ _ _ => pts_nil) (fun _ _ _ _ _ => (pe_call G_power_of_two.ok (hr.mono (by first | decide | exact Nat.le_refl _)) (by rfl) G_power_of_two.g G_power_of_two.kp G_power_of_two.b .nil pass0 (pa_cons (pe_op op_sub (pe_glob (by rfl) C_MOST_LENGTH.1 C_MOST_LENGTH.2) (pv 1)) pa_nil)))) pa_nil))))), ?_⟩
    refine ⟨60, rfl, by decide, ?_⟩
    refine ⟨_, rfl, a, rfl, ⟨_, hS⟩, fun L nL => ?_⟩
    refine lc_tup (K := K) (a := a) (xs := ns.map fun n => V.int (n : Nat)) (fun j H4 => Same H H4 ∧ H4 L = some (.lst (((ns.take j).map fun n => ((2 ^ (60 - n) : Nat) : Int)).map V.int))) ⟨same_new nL _, by rw [upd_same]; rfl⟩ (fun j H4 _ h4 => Same.seqT h4.1 hS) ?_ ?_
    · rintro j x H4 hx ⟨s4, eL⟩
      obtain ⟨z, hz, rfl⟩ := geti_nat hx
      have hzb := hn z (List.mem_of_getElem? hz)
      refine ⟨rfl, _, rfl, _, _, rfl, rfl, 60 - z, ?_, by omega, _, eL, ?_, ?_, ?_⟩
      · show [V.int (60 - (z : Int))] = _
        rw [show (60 - (z : Int)) = ((60 - z : Nat) : Int) by omega]
      · rw [List.length_map, List.length_map, List.length_take]
        omega
      · intro b o ho
        rw [upd_ne (ne_of_none ho nL)]
        exact s4 b o ho
      · rw [upd_same, take_more hz, List.map_append, List.map_append]
        rfl
    rintro H4 ⟨s4, eL⟩
    rw [lm, List.take_length] at eL
    refine ⟨L, _, rfl, .inl (.inl eL), _, _, rfl, rfl, ?_⟩
    show Q (.int (((2 ^ 60 : Nat) : Int) - (ns.map fun n => ((2 ^ (60 - n) : Nat) : Int)).sum)) H4
    rw [sum_natInt]
    exact k H4 s4
end

abbrev s_is_whole : Stmt := topS 27
theorem sc_is_whole : FnScope ["lengths"] ["lengths"] (defScope s_is_whole) := ⟨rfl, rfl, rfl, by decide +kernel, rfl, by decide +kernel, by decide +kernel⟩
def sp_is_whole (K : PySem.W.Frag) : Sp := fun vs H Q _ => ∃ (a : Addr) (ls : List Nat), vs = [.ref a] ∧ SqT K H a (ls.map fun n => V.int (n : Nat)) ∧ IsLens ls ∧
  roomN ls ≤ 2 ^ 60 ∧ ∀ H', Same H H' → Q (.bl (decide (roomN ls = 2 ^ 60))) H'
section
variable {P : Program} {w : World} {K : PySem.W.Frag} {mg : Str → Option Value} {base : Heap}
theorem ok_is_whole (A : At K mg "is_whole" s_is_whole ["lengths"]) (B : Bn mg) (H_check_lengths : CalE P w K mg base "check_lengths" ["thing"] 2 (sp_check_lengths K)) (H_room_left : CalE P w K mg base "room_left" ["lengths"] 2 (sp_room_left K)) : CalE P w K mg base "is_whole" ["lengths"] 3 (sp_is_whole K) := by
  obtain ⟨f, fd, F, gF, bF⟩ := A
  obtain ⟨f_check_lengths, fd_check_lengths, G_check_lengths⟩ := H_check_lengths
  obtain ⟨f_room_left, fd_room_left, G_room_left⟩ := H_room_left
  refine ⟨f, fd, F.ok sc_is_whole (fun vs H Q E h => ?_) (fun cdv A outer s H vs Q E hr h => ?_), gF, F.kp, bF⟩
  · repeat (first | (obtain ⟨rfl, _⟩ := h; rfl) | (obtain ⟨_, h⟩ := h))
  · obtain ⟨a, ls, rfl, hS, hL, hroom, k⟩ := h
    refine ⟨_, (pss_cons (ps_expr (pe_call G_check_lengths.ok (hr.mono (by first | decide | exact Nat.le_refl _)) (by rfl) G_check_lengths.g G_check_lengths.kp G_check_lengths.b .nil pass0 (pa_cons (pv 0) pa_nil)))
      (pss_cons (ps_if (pt_cmpR op_lt (pe_call G_room_left.ok (hr.mono (by first | decide | exact Nat.le_refl _)) (by rfl) G_room_left.g G_room_left.kp G_room_left.b .nil pass0 (pa_cons (pv 0) pa_nil)) pe_int (nomark _))
      (pss_one ps_never)
      pss_nil)
      (pss_one (ps_ret (pe_cmpR op_eq (pe_call G_room_left.ok (hr.mono (by first | decide | exact Nat.le_refl _)) (by rfl) G_room_left.g G_room_left.kp G_room_left.b .nil pass0 (pa_cons (pv 0) pa_nil)) pe_int (nomark _)))))), ?_⟩
    refine ⟨_, rfl, a, ls, rfl, hS, hL, fun H1 s1 => ?_⟩
    refine ⟨_, rfl, a, ls, rfl, Same.seqT s1 hS, hL, fun H2 s2 => ?_⟩
    refine ⟨_, _, rfl, rfl, _, rfl, ?_⟩
    · refine iteDF (by omega) ?_
      refine ⟨_, rfl, a, ls, rfl, Same.seqT (s1.trans s2) hS, hL, fun H3 s3 => ?_⟩
      refine ⟨rfl, ?_⟩
      have e : decide (V.int (((2 ^ 60 : Nat) : Int) - ((roomN ls : Nat) : Int)) = V.int 0) = decide (roomN ls = 2 ^ 60) := by
        refine decide_eq_decide.mpr ⟨fun z => ?_, fun z => ?_⟩
        · have := V.int.inj z
          omega
        · rw [z, Int.sub_self]
      have := k H3 (s1.trans (s2.trans s3))
      rw [← e] at this
      exact this
end

abbrev s_divisor : Stmt := topS 7
theorem sc_divisor : FnScope ["one", "two"] ["one", "two"] (defScope s_divisor) := ⟨rfl, rfl, rfl, by decide +kernel, rfl, by decide +kernel, by decide +kernel⟩
theorem gcd_step2 (a b : Nat) : Nat.gcd b (a % b) = Nat.gcd a b := by
  rw [Nat.gcd_comm b (a % b), ← Nat.gcd_rec, Nat.gcd_comm]
def sp_divisor (K : PySem.W.Frag) : Sp := fun vs H Q _ => ∃ (n d : Int), vs = [.int n, .int d] ∧ Q (.int (Int.gcd n d : Int)) H
section
variable {P : Program} {w : World} {K : PySem.W.Frag} {mg : Str → Option Value} {base : Heap}
theorem ok_divisor (A : At K mg "divisor" s_divisor ["one", "two"]) (B : Bn mg) : CalE P w K mg base "divisor" ["one", "two"] 1 (sp_divisor K) := by
  obtain ⟨f, fd, F, gF, bF⟩ := A
  refine ⟨f, fd, F.ok sc_divisor (fun vs H Q E h => ?_) (fun cdv A outer s H vs Q E hr h => ?_), gF, F.kp, bF⟩
  · repeat (first | (obtain ⟨rfl, _⟩ := h; rfl) | (obtain ⟨_, h⟩ := h))
  · obtain ⟨n, d, rfl, k⟩ := h
    refine ⟨_, (pss_cons (ps_par (i := 0) (j := 1) (by rfl) sc_divisor.nd rfl rfl (by decide) rfl rfl (pa_cons (pe_callB call_abs (by rfl) B.abs_ (by decide +kernel) (pa_cons (pv 0) pa_nil)) (pa_cons (pe_callB call_abs (by rfl) B.abs_ (by decide +kernel) (pa_cons (pv 1) pa_nil)) pa_nil)) (by rfl))
      (pss_cons (ps_while PassesOwn.never (pt_cmpR op_gt (pv 1) pe_int (nomark _))
      (pss_one (ps_par (i := 0) (j := 1) (by rfl) sc_divisor.nd rfl rfl (by decide) rfl rfl (pa_cons (pv 1) (pa_cons (pe_op op_mod (pv 0) (pv 1)) pa_nil)) (by rfl))))
      (pss_one (ps_ret (pv 0))))), ?_⟩
    refine ⟨_, rfl, _, rfl, _, rfl, _, rfl, _, _, rfl, ?_⟩
    refine ⟨fun m σ H2 => ∃ (x y : Nat), m = y ∧ σ = [some (.int x), some (.int y)] ∧ Nat.gcd x y = Int.gcd n d ∧ H2 = H, ⟨d.natAbs, n.natAbs, d.natAbs, rfl, ?_, rfl, rfl⟩, ?_⟩
    · have e1 : (if n < 0 then -n else n) = (n.natAbs : Int) := by split <;> omega
      have e2 : (if d < 0 then -d else d) = (d.natAbs : Int) := by split <;> omega
      show [some (V.int (if n < 0 then -n else n)), some (V.int (if d < 0 then -d else d))] = _
      rw [e1, e2]
    rintro m σ H2 ⟨x, y, rfl, rfl, hg, rfl⟩
    refine ⟨_, rfl, _, _, rfl, rfl, _, rfl, ?_⟩
    refine ite2 (fun c => ?_) (fun c => ?_)
    · have c' : 0 < m := Int.ofNat_lt.mp (of_decide_eq_true c)
      refine ⟨fun σ' H' => ∃ (x y : Nat), y < m ∧ σ' = [some (.int x), some (.int y)] ∧ Nat.gcd x y = Int.gcd n d ∧ H' = H2, fun σ' H' ⟨x, y, l, e1, e2, e3⟩ => ⟨y, l, x, y, rfl, e1, e2, e3⟩, ?_⟩
      refine ⟨_, rfl, _, rfl, _, rfl, _, _, rfl, rfl, (by omega : (0 : Int) < (m : Int)), _, _, rfl, ?_⟩
      exact ⟨m, x % m, Nat.mod_lt _ c', rfl, by rw [gcd_step2, hg], rfl⟩
    · have c' : m = 0 := by
        have : ¬ ((0 : Int) < (m : Int)) := fun z => c (decide_eq_true z)
        omega
      subst c'
      rw [Nat.gcd_zero_right] at hg
      subst hg
      exact ⟨_, rfl, k⟩
end

abbrev s_fraction : Stmt := topS 8
theorem sc_fraction : FnScope ["number", "parts", "common"] ["number", "parts"] (defScope s_fraction) := ⟨rfl, rfl, rfl, by decide +kernel, rfl, by decide +kernel, by decide +kernel⟩
def sp_fraction (K : PySem.W.Frag) : Sp := fun vs H Q _ => ∃ (n d : Int) (b : Nat), vs = [.int n, .int d] ∧ 0 < d ∧ d.natAbs < 2 ^ b ∧ b ≤ 8900 ∧
  ∀ (r : Addr) (H' : Hp), Same H H' → H r = none → RatAt K H' r (Rat.divInt n d) → Q (.ref r) H'
section
variable {P : Program} {w : World} {K : PySem.W.Frag} {mg : Str → Option Value} {base : Heap}
theorem ok_fraction (A : At K mg "fraction" s_fraction ["number", "parts"]) (B : Bn mg) (H_divisor : CalE P w K mg base "divisor" ["one", "two"] 1 (sp_divisor K)) : CalE P w K mg base "fraction" ["number", "parts"] 2 (sp_fraction K) := by
  obtain ⟨f, fd, F, gF, bF⟩ := A
  obtain ⟨f_divisor, fd_divisor, G_divisor⟩ := H_divisor
  refine ⟨f, fd, F.ok sc_fraction (fun vs H Q E h => ?_) (fun cdv A outer s H vs Q E hr h => ?_), gF, F.kp, bF⟩
  · repeat (first | (obtain ⟨rfl, _⟩ := h; rfl) | (obtain ⟨_, h⟩ := h))
  · obtain ⟨n, d, b, rfl, d0, hb, b9, k⟩ := h
    refine ⟨_, (pss_cons (ps_set (i := 2) sc_fraction.nd rfl (.inl rfl) (pe_ifExp (pt_cmpR op_gt (pv 1) pe_int (nomark _)) (pe_call G_divisor.ok (hr.mono (by first | decide | exact Nat.le_refl _)) (by rfl) G_divisor.g G_divisor.kp G_divisor.b .nil pass0 (pa_cons (pv 0) (pa_cons (pv 1) pa_nil))) (pe_un un_neg (pe_call G_divisor.ok (hr.mono (by first | decide | exact Nat.le_refl _)) (by rfl) G_divisor.g G_divisor.kp G_divisor.b .nil pass0 (pa_cons (pv 0) (pa_cons (pv 1) pa_nil))))))
      (pss_one (ps_ret (pe_tup (pa_cons (pe_op op_fdivW (pv 0) (pv 2)) (pa_cons (pe_op op_fdivW (pv 1) (pv 2)) pa_nil)))))), ?_⟩
    refine ⟨_, rfl, _, _, rfl, rfl, _, rfl, iteDT d0 ?_⟩
    refine ⟨_, rfl, _, rfl, n, d, rfl, ?_⟩
    have hg0 : (0 : Int) < (Int.gcd n d : Int) := Int.ofNat_lt.mpr (Int.gcd_pos_of_ne_zero_right n (by omega))
    have hgb : ((Int.gcd n d : Int)).natAbs < 2 ^ (b + 1) := by
      rw [Int.natAbs_natCast]
      refine Nat.lt_of_le_of_lt (Nat.le_of_dvd (by omega) (Int.gcd_dvd_natAbs_right n d)) (Nat.lt_of_lt_of_le hb (Nat.pow_le_pow_right (by decide) (by omega)))
    have hw : ∀ z, CDivW z (Int.gcd n d : Int) := fun z => wide_div hg0 hgb (by omega) (by omega)
    refine ⟨_, rfl, _, rfl, _, _, rfl, rfl, hw _, _, rfl, _, rfl, _, _, rfl, rfl, hw _, (by show 2 ≤ sizeLine; decide), fun p np => ?_⟩
    refine k p _ (same_new np _) np ?_
    unfold RatAt
    rw [frac_num d0, frac_den d0]
    exact .inl (.inl upd_same)
end

abbrev s_cost : Stmt := topS 25
theorem sc_cost : FnScope ["lengths", "ratio", "rows", "weight", "length"] ["lengths", "ratio"] (defScope s_cost) := ⟨rfl, rfl, rfl, by decide +kernel, rfl, by decide +kernel, by decide +kernel⟩
theorem sumW_pos {p q c : Nat} (h : IsRat p q) (hc : 1 ≤ c) : 0 < sumW (wtF p q c) c := by
  unfold sumW
  obtain ⟨d, rfl⟩ : ∃ d, c = d + 1 := ⟨c - 1, by omega⟩
  rw [List.range_succ, List.map_append, List.sum_append]
  have h1 := wt_pos (c := d + 1) h.p1 h.pq d
  have h2 : ∀ n, 0 ≤ ((List.range n).map (wtF p q (d + 1))).sum := fun n => by
    induction n with
    | zero => exact Int.le_refl _
    | succ n ih =>
      rw [List.range_succ, List.map_append, List.sum_append]
      have := wt_pos (c := d + 1) h.p1 h.pq n
      show 0 ≤ _ + (wtF p q (d + 1) n + 0)
      omega
  have := h2 d
  show 0 < _ + (wtF p q (d + 1) d + 0)
  omega
theorem wt_bound {p q c i : Nat} (h : IsRat p q) (hc : c ≤ 40) (hi : i < c) : (wtF p q c i).natAbs < 2 ^ 197 := by
  have hq := h.q30
  have hp := h.pq
  unfold wtF
  have h1 := pow_small (p := p) (t := i) (by omega)
  have h2 := pow_small (p := q) (t := c - 1 - i) hq
  exact bd_up (bd_mul h1 h2) (by omega)
theorem sumW_bound {p q c : Nat} (h : IsRat p q) (hc : c ≤ 40) : (sumW (wtF p q c) c).natAbs < 2 ^ 240 := by
  have h2 : ∀ n, n ≤ c → (((List.range n).map (wtF p q c)).sum).natAbs ≤ n * 2 ^ 197 := fun n hn => by
    induction n with
    | zero => simp
    | succ n ih =>
      rw [List.range_succ, List.map_append, List.sum_append]
      have h3 := wt_bound h hc (show n < c by omega)
      have h4 := ih (by omega)
      show (_ + (wtF p q c n + 0)).natAbs ≤ _
      rw [Nat.add_mul]
      omega
  unfold sumW
  refine Nat.lt_of_le_of_lt (h2 c (Nat.le_refl _)) ?_
  exact Nat.lt_of_le_of_lt (Nat.mul_le_mul_right _ (show c ≤ 2 ^ 6 by omega)) (by rw [← Nat.pow_add]; exact Nat.pow_lt_pow_right (by decide) (by decide))
def costR (p q : Nat) (ls : List Nat) : Rat := Rat.divInt ((prodZ (wtF p q ls.length) 0 ls).sum) (sumW (wtF p q ls.length) ls.length)
def sp_cost (K : PySem.W.Frag) : Sp := fun vs H Q _ => ∃ (a b : Addr) (p q : Nat) (ls : List Nat), vs = [.ref a, .ref b] ∧ SqT K H a (ls.map fun n => V.int (n : Nat)) ∧ IsLens ls ∧ SqT K H b [.int (p : Nat), .int (q : Nat)] ∧ IsRat p q ∧
  ∀ (r : Addr) (H' : Hp), Same H H' → H r = none → RatAt K H' r (costR p q ls) → Q (.ref r) H'
section
variable {P : Program} {w : World} {K : PySem.W.Frag} {mg : Str → Option Value} {base : Heap}
theorem ok_cost (A : At K mg "cost" s_cost ["lengths", "ratio"]) (B : Bn mg) (H_check_lengths : CalE P w K mg base "check_lengths" ["thing"] 2 (sp_check_lengths K)) (H_check_ratio : CalE P w K mg base "check_ratio" ["thing"] 3 (sp_check_ratio K)) (H_chance_weights : CalE P w K mg base "chance_weights" ["ratio", "count"] 1 (sp_chance_weights K)) (H_fraction : CalE P w K mg base "fraction" ["number", "parts"] 2 (sp_fraction K)) : CalE P w K mg base "cost" ["lengths", "ratio"] 4 (sp_cost K) := by
  obtain ⟨f, fd, F, gF, bF⟩ := A
  obtain ⟨f_check_lengths, fd_check_lengths, G_check_lengths⟩ := H_check_lengths
  obtain ⟨f_check_ratio, fd_check_ratio, G_check_ratio⟩ := H_check_ratio
  obtain ⟨f_chance_weights, fd_chance_weights, G_chance_weights⟩ := H_chance_weights
  obtain ⟨f_fraction, fd_fraction, G_fraction⟩ := H_fraction
  refine ⟨f, fd, F.ok sc_cost (fun vs H Q E h => ?_) (fun cdv A outer s H vs Q E hr h => ?_), gF, F.kp, bF⟩
  · repeat (first | (obtain ⟨rfl, _⟩ := h; rfl) | (obtain ⟨_, h⟩ := h))
  · obtain ⟨a, b, p, q, ls, rfl, hS, hL, hB, hr0, k⟩ := h
    have hsz := sizeLine_eq
    have h1 := hL.l1
    have h40 := hL.l40
    have lm : (ls.map fun n => V.int (n : Nat)).length = ls.length := List.length_map _
    have lw : (wtsV p q ls.length).length = ls.length := by unfold wtsV; rw [List.length_map, List.length_range]
    refine ⟨_, (pss_cons (ps_expr (pe_call G_check_lengths.ok (hr.mono (by first | decide | exact Nat.le_refl _)) (by rfl) G_check_lengths.g G_check_lengths.kp G_check_lengths.b .nil pass0 (pa_cons (pv 0) pa_nil)))
      (pss_cons (ps_expr (pe_call G_check_ratio.ok (hr.mono (by first | decide | exact Nat.le_refl _)) (by rfl) G_check_ratio.g G_check_ratio.kp G_check_ratio.b .nil pass0 (pa_cons (pv 1) pa_nil)))
      (pss_cons (ps_set (i := 2) sc_cost.nd rfl (.inl rfl) (pe_call G_chance_weights.ok (hr.mono (by first | decide | exact Nat.le_refl _)) (by rfl) G_chance_weights.g G_chance_weights.kp G_chance_weights.b .nil pass0 (pa_cons (pv 1) (pa_cons (pe_callB (call_len_seq_ K) (by rfl) B.len_ (by decide +kernel) (pa_cons (pv 0) pa_nil)) pa_nil))))
      (pss_one (ps_ret (pe_call G_fraction.ok (hr.mono (by first | decide | exact Nat.le_refl _)) (by rfl) G_fraction.g G_fraction.kp G_fraction.b .nil pass0 (pa_cons (pe_callB (cr_sum_ K rfl) (by rfl) B.sum_ (by decide +kernel) (pa_cons (pe_lc (own := [("weight", 3), ("length", 4)]) (g := (gTup K 2 (gCons (gName 3) (gCons (gName 4) gNil)))) (tt := tYes) rfl sc_cost.nd (pi_zipM (by rfl) B.zip_ (pa_cons (pv 2) (pa_cons (pv 0) pa_nil))) (blkOk_by (own := [("weight", 3), ("length", 4)]) (N := ["lengths", "ratio", "rows", "weight", "length"]) (sc := defScope s_cost) (by decide +kernel)) (fun _ _ _ _ _ => (pg_tup (by rfl) (pgs_cons (pg_name (i := 3) sc_cost.nd rfl (.inl rfl)) (pgs_cons (pg_name (i := 4) sc_cost.nd rfl (.inl rfl)) pgs_nil)))) (fun _ _ _ _ _ => pts_nil) (fun _ _ _ _ _ => (pe_op op_mul (pv 3) (pv 4)))) pa_nil)) (pa_cons (pe_callB (cr_sum_ K rfl) (by rfl) B.sum_ (by decide +kernel) (pa_cons (pv 2) pa_nil)) pa_nil)))))))), ?_⟩
    refine ⟨_, rfl, a, ls, rfl, hS, hL, fun H1 s1 => ?_⟩
    refine ⟨_, rfl, b, p, q, rfl, Same.seqT s1 hB, hr0, ?_⟩
    refine ⟨_, rfl, _, rfl, a, _, rfl, .inr (Same.seqT s1 hS), b, p, q, ls.length, ?_, Same.seqT s1 hB, hr0, h1, h40, fun Z H2 s2 nZ eZ => ?_⟩
    · rw [lm]
      rfl
    have S2 := s1.trans s2
    refine ⟨_, rfl, _, rfl, Z, a, _, _, rfl, .inl (.inl eZ), Same.seqT S2 hS, fun D nD => ?_⟩
    refine lc_zipM (K := K) (a := Z) (b := a) (xs := wtsV p q ls.length) (ys := ls.map fun n => V.int (n : Nat)) (by rw [lw, lm]) (fun j H3 => Same H2 H3 ∧ H3 D = some (.lst (((prodZ (wtF p q ls.length) 0 ls).take j).map V.int))) ⟨same_new nD _, by rw [List.take_zero]; exact upd_same⟩ (fun j H3 _ h3 => ⟨.inl (.inl (h3.1 _ _ eZ)), Same.seqT (S2.trans h3.1) hS⟩) ?_ ?_
    · rintro j x y H3 T hx hy ⟨s3, eD⟩ nT
      have hj : j < ls.length := lm ▸ (List.getElem?_eq_some_iff.mp hy).1
      have ex : x = V.int (wtF p q ls.length j) := by
        unfold wtsV at hx
        rw [List.getElem?_map, List.getElem?_range hj] at hx
        exact (Option.some.inj hx).symm
      obtain ⟨l, hl, rfl⟩ := geti_nat hy
      subst ex
      have l60 := hL.l60 l (List.mem_of_getElem? hl)
      have s4 := same_new nT (.tup [.int (wtF p q ls.length j), .int (l : Nat)])
      refine ⟨T, _, rfl, .inl (.inl upd_same), rfl, _, _, rfl, _, _, rfl, rfl, rfl, ?_⟩
      refine ⟨_, rfl, _, rfl, _, _, rfl, rfl, .inr (by omega), _, s4 _ _ eD, ?_, fun b o ho => ?_, ?_⟩
      · rw [List.length_map, List.length_take]
        omega
      · rw [upd_ne (ne_of_none ho nD)]
        exact s4 _ _ (s3 _ _ ho)
      · have hg := prodZ_get (wtF p q ls.length) ls 0 j l hl
        rw [Nat.zero_add] at hg
        rw [upd_same, take_more hg, List.map_append]
        rfl
    rintro H3 ⟨s3, eD⟩
    rw [lw, List.take_of_length_le (by rw [prodZ_len]; exact Nat.le_refl _)] at eD
    have eZ3 := s3 _ _ eZ
    have ez : wtsV p q ls.length = ((List.range ls.length).map (wtF p q ls.length)).map V.int := by
      unfold wtsV
      rw [List.map_map]
      rfl
    rw [ez] at eZ3
    refine ⟨D, _, rfl, .inl (.inl eD), _, rfl, Z, _, rfl, .inl (.inl eZ3), _, _, 240, rfl, sumW_pos hr0 h1, sumW_bound hr0 h40, by decide, fun r H4 s4 nr Rr => ?_⟩
    exact k r H4 (S2.trans (s3.trans s4)) ((S2.trans s3).free nr) Rr
end

abbrev s__law_least : Stmt := topS 38
theorem sc__law_least : FnScope ["_law_weights_here", "_law_most", "_law_count", "_law_states", "_law_best", "_law_depth", "_law_later", "_law_told", "_law_free", "_law_ends", "_law_now", "_law_room", "_law_paid"] ["_law_weights_here", "_law_most"] (defScope s__law_least) := ⟨rfl, rfl, rfl, by decide +kernel, rfl, by decide +kernel, by decide +kernel⟩
def sp__law_least (K : PySem.W.Frag) (P : Program) (w : World) : Sp := fun vs H Q _ => ∃ (A : Addr) (W : Nat → Nat) (c m : Nat), vs = [.ref A, .int (m : Nat)] ∧ SqL K H A ((List.range c).map fun i => V.int (W i : Nat)) ∧ 1 ≤ c ∧ c ≤ 40 ∧ m ≤ 12 ∧
  (∃ v, Pay W c (m + 1) 0 1 v) ∧ ∀ (b : Nat) H', Same H H' → Pay W c (m + 1) 0 1 b → (∀ v, Pay W c (m + 1) 0 1 v → b ≤ v) → Q (.int (b : Nat)) H'
section
variable {P : Program} {w : World} {K : PySem.W.Frag} {mg : Str → Option Value} {base : Heap}
theorem ok__law_least (A : At K mg "_law_least" s__law_least ["_law_weights_here", "_law_most"]) (B : Bn mg) : CalE P w K mg base "_law_least" ["_law_weights_here", "_law_most"] 1 (sp__law_least K P w) := by
  obtain ⟨f, fd, F, gF, bF⟩ := A
  refine ⟨f, fd, F.ok sc__law_least (fun vs H Q E h => ?_) (fun cdv A outer s H vs Q E hr h => ?_), gF, F.kp, bF⟩
  · repeat (first | (obtain ⟨rfl, _⟩ := h; rfl) | (obtain ⟨_, h⟩ := h))
  · obtain ⟨Aw, W, c, m, rfl, hW, c1, c40, m12, ⟨v0, hv0⟩, k⟩ := h
    have hsz := sizeLine_eq
    have lm : ((List.range c).map fun i => V.int (W i : Nat)).length = c := by rw [List.length_map, List.length_range]
    refine ⟨_, (pss_cons (ps_par3 (i := 2) (j := 3) (l := 4) (by rfl) sc__law_least.nd rfl rfl rfl (by decide) (by decide) (by decide) rfl rfl rfl (pa_cons (pe_callB (call_len_seq_ K) (by rfl) B.len_ (by decide +kernel) (pa_cons (pv 0) pa_nil)) (pa_cons (pe_dvone_ K P w hr.units (pps_cons (pe_tup (pa_cons pe_int (pa_cons pe_int pa_nil))) pe_int pps_nil)) (pa_cons pe_non pa_nil))) (by rfl))
      (pss_cons (ps_for PassesOwn.never rfl (pi_range1 (by rfl) B.range_ (pa_cons (pe_op op_add (pv 1) pe_int) pa_nil)) (pg_name (i := 5) sc__law_least.nd rfl (.inl rfl))
      (pss_cons (ps_set (i := 6) sc__law_least.nd rfl (.inl rfl) (pe_dvnew_ P w))
      (pss_cons (ps_for PassesOwn.never rfl (pi_keysV_ P w (pv 3)) (pg_tup (by rfl) (pgs_cons (pg_name (i := 7) sc__law_least.nd rfl (.inl rfl)) (pgs_cons (pg_name (i := 8) sc__law_least.nd rfl (.inl rfl)) pgs_nil)))
      (pss_one (ps_for PassesOwn.never rfl (pi_range1 (by rfl) B.range_ (pa_cons (pe_op op_add (pe_callB (call_min2 rfl) (by rfl) B.min_ (by decide +kernel) (pa_cons (pv 8) (pa_cons (pe_op op_sub (pv 2) (pv 7)) pa_nil))) pe_int) pa_nil)) (pg_name (i := 9) sc__law_least.nd rfl (.inl rfl))
      (pss_cons (ps_par (i := 10) (j := 11) (by rfl) sc__law_least.nd rfl rfl (by decide) rfl rfl (pa_cons (pe_op op_add (pv 7) (pv 9)) (pa_cons (pe_callB (call_min2 rfl) (by rfl) B.min_ (by decide +kernel) (pa_cons (pe_op op_mul pe_int (pe_op op_sub (pv 8) (pv 9))) (pa_cons (pv 2) pa_nil))) pa_nil)) (by rfl))
      (pss_cons (ps_set (i := 12) sc__law_least.nd rfl (.inl rfl) (pe_op op_add (pe_dvget_ K P w hr.units (pv 3) (pe_tup (pa_cons (pv 7) (pa_cons (pv 8) pa_nil))) (fun _ _ => rfl)) (pe_callB (cr_sum_ K rfl) (by rfl) B.sum_ (by decide +kernel) (pa_cons (pe_slice (sl_list_ K) (pv 0) (po_some (pv 10)) po_none) pa_nil))))
      (pss_one (ps_if (pt_cmpR op_eq (pv 10) (pv 2) (nomark _))
      (pss_one (ps_set (i := 4) sc__law_least.nd rfl (.inl rfl) (pe_ifExp (pt_cmp (pc_isN (pv 4))) (pv 12) (pe_callB (call_min2 rfl) (by rfl) B.min_ (by decide +kernel) (pa_cons (pv 4) (pa_cons (pv 12) pa_nil))))))
      (pss_one (ps_if (pt_cmpR op_gt (pv 11) pe_int (nomark _))
      (pss_one (ps_asg (pe_callB (call_min2 rfl) (by rfl) B.min_ (by decide +kernel) (pa_cons (pv 12) (pa_cons (pe_dvget2_ K P w hr.units (pv 6) (pe_tup (pa_cons (pv 10) (pa_cons (pv 11) pa_nil))) (pv 12) ⟨rfl, rfl, rfl, rfl⟩) pa_nil))) (pg_sub (pv 6) (pe_tup (pa_cons (pv 10) (pa_cons (pv 11) pa_nil))) (set_dv K P w hr.units))))
      pss_nil)))))))))
      (pss_one (ps_set (i := 3) sc__law_least.nd rfl (.inl rfl) (pv 6))))))
      (pss_one (ps_ret (pv 4))))), ?_⟩
    refine ⟨_, rfl, Aw, _, rfl, .inl hW, fun d nd => ?_⟩
    -- the start
    refine ⟨(by show 2 ≤ sizeLine; omega), fun T nT => ?_⟩
    have ndT : d ≠ T := fun z => by rw [← z, upd_same] at nT; cases nT
    refine ⟨_, nkN (0, 1), _, rfl, by rw [upd_ne ndT]; exact upd_same, nkN_at (x := (0, 1)) (.inl (.inl upd_same)), ?_⟩
    have S1 : Same H (upd (upd (upd H d (DV P w d [])) T (.tup [.int 0, .int 1])) d (DV P w d [(nkN (0, 1), T, .int 0)])) := fun b o ho => by
      rw [upd_ne (ne_of_none ho nd)]
      exact same_new nT _ _ _ (same_new nd _ _ _ ho)
    have hd0 : RW nkN K P w (upd (upd (upd H d (DV P w d [])) T (.tup [.int 0, .int 1])) d (DV P w d [(nkN (0, 1), T, .int 0)])) d [((0, 1), 0)] := ⟨_, upd_same, .cons ⟨rfl, rfl, nkN_at (x := (0, 1)) (.inl (.inl (by rw [upd_ne (Ne.symm ndT)]; exact upd_same)))⟩ .nil⟩
    show (fun x H1 => _) (V.ref d) (upd (upd (upd H d (DV P w d [])) T (.tup [.int 0, .int 1])) d (DV P w d [(nkN (0, 1), T, .int 0)]))
    generalize upd (upd (upd H d (DV P w d [])) T (.tup [.int 0, .int 1])) d (DV P w d [(nkN (0, 1), T, .int 0)]) = H1 at *
    refine ⟨_, _, _, rfl, ?_⟩
    rw [lm]
    have A0 : AchP W c (m + 1) none (m + 1) [((0, 1), 0)] := ⟨fun x h => (by cases h), fun k x hx v hv => by
      have hk : k = (0, 1) := by
        have : k ∈ keysR [(((0, 1), 0) : (Nat × Nat) × Nat)] := valR_some.mp (by rw [hx]; rfl)
        simpa [keysR] using this
      subst hk
      have : x = 0 := by
        have e : valR [(((0, 1), 0) : (Nat × Nat) × Nat)] (0, 1) = some 0 := rfl
        rw [e] at hx
        exact (Option.some.inj hx).symm
      subst this
      rw [Nat.zero_add]
      exact hv, fun k hk => by
      have : k = (0, 1) := by simpa [keysR] using hk
      subst this
      exact ⟨by show 0 < c; omega, Nat.one_pos, Nat.le_max_left _ _⟩, by simp [keysR]⟩
    have C0 : CovP W c (m + 1) none (m + 1) [((0, 1), 0)] := fun v hv => .inr ⟨(0, 1), 0, v, rfl, hv, by omega⟩
    refine ⟨_, rfl, _, _, rfl, rfl, _, rfl, by omega, by omega, ?_⟩
    rw [show ((m : Int) + 1).toNat = m + 1 by omega]
    refine for_range (lo := 0) (n := m + 1) (fun i σ H' => ∃ (dl : Addr) (q : SR (Nat × Nat)) (bo : Option Nat) (v5 v6 v7 v8 v9 v10 v11 v12 : Option V), σ = [some (.ref Aw), some (.int (m : Nat)), some (.int (c : Nat)), some (.ref dl), some (bestV bo), v5, v6, v7, v8, v9, v10, v11, v12] ∧ Same H H' ∧ H dl = none ∧ RW nkN K P w H' dl q ∧ AchP W c (m + 1) bo (m + 1 - i) q ∧ CovP W c (m + 1) bo (m + 1 - i) q) ⟨d, _, none, _, _, _, _, _, _, _, _, rfl, S1, nd, hd0, A0, C0⟩ ?_ ?_
    rotate_left
    · rintro σ H2 ⟨dl, q, bo, v5, v6, v7, v8, v9, v10, v11, v12, rfl, s2, nl, hdl, A, C⟩
      rw [Nat.sub_self] at A C
      obtain ⟨x, hx, _⟩ := C.done hv0
      rw [hx] at A C ⊢
      refine ⟨_, rfl, k x H2 s2 (A.best x rfl) fun v hv => ?_⟩
      obtain ⟨y, hy, hle⟩ := C.done hv
      cases Option.some.inj hy
      exact hle
    clear hd0 S1 nT ndT nd A0 C0
    rintro i σ H3 hi ⟨dl, R, bo, v5, v6, v7, v8, v9, v10, v11, v12, rfl, s3, nl, hdl, A, C⟩
    obtain ⟨r, hr⟩ : ∃ r, r = m + 1 - (i + 1) := ⟨_, rfl⟩
    rw [show m + 1 - i = r + 1 by omega] at A C
    refine fun d2 nd2 => ?_
    have s4 := same_new nd2 (DV P w d2 [])
    have e2 : RW nkN K P w (upd H3 d2 (DV P w d2 [])) d2 [] := RW.new d2
    have nd2H : H d2 = none := s3.free nd2
    have n2l : dl ≠ d2 := hdl.nf nd2
    have hdl4 := RW.smT (.of s4) (by rw [upd_ne n2l]) hdl
    generalize upd H3 d2 (DV P w d2 []) = H4 at *
    obtain ⟨xs, el4, hx4⟩ := hdl4
    refine ⟨_, rfl, dl, xs, rfl, .inl ⟨el4, fun od => ?_⟩⟩
    have sm : SmT H4 (upd H4 dl (.frz od (DV P w dl xs))) := .dv el4
    have e25 : RW nkN K P w (upd H4 dl (.frz od (DV P w dl xs))) d2 [] := RW.smT sm (by rw [upd_ne (Ne.symm n2l)]) e2
    have el5 : (upd H4 dl (.frz od (DV P w dl xs))) dl = some (.frz od (DV P w dl xs)) := upd_same
    have S5 : Same H (upd H4 dl (.frz od (DV P w dl xs))) := fun b u hb => by
      rw [upd_ne (ne_of_none hb nl)]
      exact s4 _ _ (s3 _ _ hb)
    generalize upd H4 dl (.frz od (DV P w dl xs)) = H5 at *
    have hx5 := hx4.smT sm
    clear hdl hx4 el4 e2 s4 sm s3 nd2
    have A1 : AchP W c (m + 1) bo r [] := ⟨A.best, fun k x hx => (by cases hx), fun k hk => (by cases hk), List.nodup_nil⟩
    refine for_keysV (P := P) (w := w) (d := dl) (o := od) (xs := xs) (fun j σ H' => ∃ (q : SR (Nat × Nat)) (b : Option Nat) (v7 v8 v9 v10 v11 v12 : Option V), σ = [some (.ref Aw), some (.int (m : Nat)), some (.int (c : Nat)), some (.ref dl), some (bestV b), some (.int (0 + (i : Int))), some (.ref d2), v7, v8, v9, v10, v11, v12] ∧ SmT H5 H' ∧ Same H H' ∧ RW nkN K P w H' d2 q ∧ AchP W c (m + 1) b r q ∧ ImpB bo b ∧ ∀ j' x, j' < j → R[j']? = some x → ∀ e, e ≤ x.1.2 → x.1.1 + e ≤ c → DoneP W c x e b q)
      ⟨[], bo, _, _, _, _, _, _, rfl, .refl _, S5, e25, A1, .refl _, (fun j' x h => by omega)⟩ (fun j σ H' _ ⟨_, _, _, _, _, _, _, _, _, s, _⟩ => s _ _ el5 fun f z => by cases z) ?_ ?_
    rotate_left
    · rintro σ H6 ⟨q, b, v7, v8, v9, v10, v11, v12, rfl, s6, S6, r6, A6, I6, D6⟩
      refine ⟨_, rfl, d2, q, b, _, _, _, _, _, _, _, _, rfl, S6, nd2H, r6, by rw [← hr]; exact A6, ?_⟩
      rw [← hr]
      refine C.next I6 fun k x hx e h1 h2 => ?_
      have hm : (k, x) ∈ R := by
        have hk := valR_some.mp (by rw [hx]; rfl : (valR R k).isSome = true)
        obtain ⟨y, hy, e⟩ := List.mem_map.mp hk
        have := valR_mem A.nd (show (y.1, y.2) ∈ R from hy)
        have e : y.1 = k := e
        rw [e, hx] at this
        have : y = (k, x) := Prod.ext e (Option.some.inj this).symm
        exact this ▸ hy
      obtain ⟨j', hj'⟩ := List.getElem?_of_mem hm
      exact D6 j' (k, x) (by rw [hx5.len]; exact (List.getElem?_eq_some_iff.mp hj').1) hj' e h1 h2
    rintro j kk bk v σ H6 hj ⟨q, b, v7, v8, v9, v10, v11, v12, rfl, s6, S6, r6, A6, I6, D6⟩
    obtain ⟨x, hxj, rfl, rfl, hb⟩ := (hx5.smT s6).get hj
    have hxm : x ∈ R := List.mem_of_getElem? hxj
    have xk : x.1 ∈ keysR R := List.mem_map.mpr ⟨x, hxm, rfl⟩
    have xv : valR R x.1 = some x.2 := valR_mem A.nd hxm
    obtain ⟨x1, x2, x3⟩ := A.keys _ xk
    have x4 : x.1.2 ≤ 40 := Nat.le_trans x3 (by omega)
    refine ⟨bk, _, rfl, nkN_of hb, rfl, _, _, rfl, _, _, rfl, rfl, ?_⟩
    refine ⟨_, rfl, _, rfl, _, rfl, _, _, rfl, rfl, _, _, rfl, ?_⟩
    obtain ⟨N, hN⟩ : ∃ N, N = min x.1.2 (c - x.1.1) := ⟨_, rfl⟩
    refine ⟨_, _, rfl, rfl, _, rfl, by split <;> omega, by split <;> omega, ?_⟩
    rw [show ((if ((c : Nat) : Int) - ((x.1.1 : Nat) : Int) < ((x.1.2 : Nat) : Int) then ((c : Nat) : Int) - ((x.1.1 : Nat) : Int) else ((x.1.2 : Nat) : Int)) + 1).toNat = N + 1 by split <;> omega]
    refine for_range (lo := 0) (n := N + 1) (fun e σ H' => ∃ (q' : SR (Nat × Nat)) (b' : Option Nat) (v9 v10 v11 v12 : Option V), σ = [some (.ref Aw), some (.int (m : Nat)), some (.int (c : Nat)), some (.ref dl), some (bestV b'), some (.int (0 + (i : Int))), some (.ref d2), some (.int (x.1.1 : Nat)), some (.int (x.1.2 : Nat)), v9, v10, v11, v12] ∧ SmT H6 H' ∧ Same H H' ∧ RW nkN K P w H' d2 q' ∧ AchP W c (m + 1) b' r q' ∧ ImpB b b' ∧ ImpR q q' ∧ ∀ e', e' < e → DoneP W c x e' b' q')
      ⟨q, b, _, _, _, _, rfl, .refl _, S6, r6, A6, .refl _, .refl _, (fun e' h => by omega)⟩ ?_ ?_
    rotate_left
    · rintro σ H7 ⟨q', b', v9, v10, v11, v12, rfl, s7, S7, r7, A7, I7, J7, D7⟩
      refine ⟨q', b', _, _, _, _, _, _, rfl, s6.trans s7, S7, r7, A7, I6.trans I7, fun j' y hj' hy e h1 h2 => ?_⟩
      by_cases cj : j' = j
      · rw [cj, hxj] at hy
        cases Option.some.inj hy
        exact D7 e (by omega)
      · exact (D6 j' y (by omega) hy e h1 h2).imp I7 J7
    rintro e σ H7 he ⟨q', b', v9, v10, v11, v12, rfl, s7, S7, r7, A7, I7, J7, D7⟩
    have he1 : e ≤ x.1.2 := by omega
    have he2 : x.1.1 + e ≤ c := by omega
    refine ⟨_, rfl, _, rfl, _, _, rfl, rfl, _, rfl, _, rfl, _, _, rfl, rfl, _, _, rfl, rfl, .inl (by decide), _, rfl, _, _, rfl, _, _, rfl, ?_⟩
    have enow : ((x.1.1 : Nat) : Int) + (0 + (e : Int)) = ((x.1.1 + e : Nat) : Int) := by omega
    have eroom : (if ((c : Nat) : Int) < 2 * (((x.1.2 : Nat) : Int) - (0 + (e : Int))) then ((c : Nat) : Int) else 2 * (((x.1.2 : Nat) : Int) - (0 + (e : Int)))) = ((roomM c x.1.2 e : Nat) : Int) := by
      unfold roomM
      split <;> omega
    refine to_next (σ' := [some (.ref Aw), some (.int (m : Nat)), some (.int (c : Nat)), some (.ref dl), some (bestV b'), some (.int (0 + (i : Int))), some (.ref d2), some (.int (x.1.1 : Nat)), some (.int (x.1.2 : Nat)), some (.int (0 + (e : Int))), some (.int ((x.1.1 + e : Nat) : Int)), some (.int (roomM c x.1.2 e : Nat)), v12]) (by rw [← enow, ← eroom]; rfl) ?_
    -- what is paid
    refine ⟨_, rfl, _, rfl, _, rfl, (by show 2 ≤ sizeLine; omega), fun T nT => ?_⟩
    have s8 := same_new nT (.tup [.int (x.1.1 : Nat), .int (x.1.2 : Nat)])
    have hT : SqT K (upd H7 T (.tup [.int (x.1.1 : Nat), .int (x.1.2 : Nat)])) T [.int (x.1.1 : Nat), .int (x.1.2 : Nat)] := .inl (.inl upd_same)
    generalize upd H7 T (.tup [.int (x.1.1 : Nat), .int (x.1.2 : Nat)]) = H8 at *
    have SM8 : SmT H6 H8 := s7.trans (.of s8)
    have S8 := S7.trans s8
    have rl8 : RD nkN K P w H8 dl R := RL.rd ⟨od, xs, (s6.trans SM8) _ _ el5 fun f z => (by cases z), hx5.smT (s6.trans SM8)⟩
    obtain ⟨zs, dz, vz⟩ := rl8.at_ hiN xv
    refine ⟨dl, T, zs, _, _, rfl, rfl, dz, nkN_at hT, vz, ?_⟩
    refine ⟨_, rfl, _, rfl, _, rfl, Aw, _, rfl, S8.seq hW, fun L nL => ?_⟩
    rw [cutV_from]
    have s9 := same_new nL (.lst (((List.range c).map fun i => V.int (W i : Nat)).drop (x.1.1 + e)))
    have eL : (upd H8 L (.lst (((List.range c).map fun i => V.int (W i : Nat)).drop (x.1.1 + e)))) L = some (.lst ((((List.range c).map fun i => ((W i : Nat) : Int)).drop (x.1.1 + e)).map V.int)) := by
      rw [upd_same, List.map_drop, List.map_map]
      rfl
    have r9 : RW nkN K P w (upd H8 L (.lst (((List.range c).map fun i => V.int (W i : Nat)).drop (x.1.1 + e)))) d2 q' := by
      obtain ⟨ys, e, y⟩ := r7
      exact ⟨ys, s9 _ _ (s8 _ _ e), y.smT (.of (s8.trans s9))⟩
    generalize upd H8 L (.lst (((List.range c).map fun i => V.int (W i : Nat)).drop (x.1.1 + e))) = H9 at *
    refine ⟨L, _, rfl, .inl (.inl eL), ?_⟩
    rw [drop_sum]
    refine ⟨_, _, rfl, rfl, ?_⟩
    have SM9 : SmT H6 H9 := SM8.trans (.of s9)
    have S9 := S8.trans s9
    clear s8 hT nT rl8 dz vz zs S8 SM8 r7 s9 nL eL s7 S7
    obtain ⟨pd, hpd⟩ : ∃ pd, pd = x.2 + TW W c (x.1.1 + e) := ⟨_, rfl⟩
    refine to_nx (σ' := [some (.ref Aw), some (.int (m : Nat)), some (.int (c : Nat)), some (.ref dl), some (bestV b'), some (.int (0 + (i : Int))), some (.ref d2), some (.int (x.1.1 : Nat)), some (.int (x.1.2 : Nat)), some (.int (0 + (e : Int))), some (.int ((x.1.1 + e : Nat) : Int)), some (.int (roomM c x.1.2 e : Nat)), some (.int (pd : Nat))]) (by rw [hpd, Int.natCast_add]; rfl) ?_
    have hD : ∀ b2 q2, ImpB b' b2 → ImpR q' q2 → DoneP W c x e b2 q2 → ∀ e', e' < e + 1 → DoneP W c x e' b2 q2 := fun b2 q2 h1 h2 h3 e' he' => by
      by_cases ce : e' = e
      · exact ce ▸ h3
      · exact (D7 e' (by omega)).imp h1 h2
    refine ⟨_, rfl, _, rfl, rfl, _, rfl, ?_⟩
    by_cases cn : x.1.1 + e = c
    · refine iteDT (by rw [cn]) ?_
      have hpay : Pay W c (m + 1) 0 1 pd := hpd ▸ A.rows x.1 x.2 xv _ (Pay.fin he1 cn)
      have hdone : DoneP W c x e (minO b' pd) q' := ⟨fun _ => ⟨_, rfl, by rw [← hpd]; cases b' <;> simp <;> omega⟩, fun z => by omega⟩
      have fin : ∀ v : V, v = bestV (minO b' pd) → ∃ (q'' : SR (Nat × Nat)) (b'' : Option Nat) (v9 v10 v11 v12 : Option V), [some (.ref Aw), some (.int (m : Nat)), some (.int (c : Nat)), some (.ref dl), some v, some (.int (0 + (i : Int))), some (.ref d2), some (.int (x.1.1 : Nat)), some (.int (x.1.2 : Nat)), some (.int (0 + (e : Int))), some (.int ((x.1.1 + e : Nat) : Int)), some (.int (roomM c x.1.2 e : Nat)), some (.int (pd : Nat))] = [some (.ref Aw), some (.int (m : Nat)), some (.int (c : Nat)), some (.ref dl), some (bestV b''), some (.int (0 + (i : Int))), some (.ref d2), some (.int (x.1.1 : Nat)), some (.int (x.1.2 : Nat)), v9, v10, v11, v12] ∧ SmT H6 H9 ∧ Same H H9 ∧ RW nkN K P w H9 d2 q'' ∧ AchP W c (m + 1) b'' r q'' ∧ ImpB b b'' ∧ ImpR q q'' ∧ ∀ e', e' < e + 1 → DoneP W c x e' b'' q'' := fun v hv => by
        subst hv
        exact ⟨q', minO b' pd, _, _, _, _, rfl, SM9, S9, r9, A7.fin hpay, I7.trans (minO_imp _ _), J7, hD _ _ (minO_imp _ _) (.refl _) hdone⟩
      cases b' with
      | none =>
        refine ⟨_, rfl, _, rfl, iteDT rfl ?_⟩
        exact ⟨_, rfl, fin _ rfl⟩
      | some y =>
        refine ⟨_, rfl, _, rfl, iteDF (fun z => by cases z) ?_⟩
        refine ⟨_, rfl, _, rfl, _, _, rfl, fin _ ?_⟩
        show V.int _ = V.int ((min y pd : Nat) : Int)
        congr 1
        split <;> omega
    refine iteDF (fun z => cn (by have := V.int.inj z; omega)) ?_
    refine ⟨_, rfl, _, _, rfl, rfl, _, rfl, ?_⟩
    by_cases cr : 0 < roomM c x.1.2 e
    rotate_left
    · refine iteDF (by omega) ?_
      exact ⟨q', b', _, _, _, _, rfl, SM9, S9, r9, A7, I7, J7, hD _ _ (.refl _) (.refl _) ⟨fun z => absurd z cn, fun _ z => absurd z cr⟩⟩
    refine iteDT (by omega) ?_
    obtain ⟨ys, ed2, eval⟩ := RD.get0 hiN r9.rd (x.1.1 + e, roomM c x.1.2 e) pd
    refine ⟨_, rfl, _, rfl, d2, ys, rfl, ed2, _, rfl, _, rfl, (by show 2 ≤ sizeLine; omega), fun T2 nT2 => ?_⟩
    have s10 := same_new nT2 (.tup [.int ((x.1.1 + e : Nat) : Int), .int (roomM c x.1.2 e : Nat)])
    have hT2 : SqT K (upd H9 T2 (.tup [.int ((x.1.1 + e : Nat) : Int), .int (roomM c x.1.2 e : Nat)])) T2 [.int ((x.1.1 + e : Nat) : Int), .int (roomM c x.1.2 e : Nat)] := .inl (.inl upd_same)
    have r10 : RW nkN K P w (upd H9 T2 (.tup [.int ((x.1.1 + e : Nat) : Int), .int (roomM c x.1.2 e : Nat)])) d2 q' := by
      obtain ⟨ys, e, y⟩ := r9
      exact ⟨ys, s10 _ _ e, y.smT (.of s10)⟩
    generalize upd H9 T2 (.tup [.int ((x.1.1 + e : Nat) : Int), .int (roomM c x.1.2 e : Nat)]) = H10 at *
    obtain ⟨zs, ed3, eval3⟩ := RD.get0 hiN r10.rd (x.1.1 + e, roomM c x.1.2 e) pd
    refine ⟨_, rfl, T2, nkN (x.1.1 + e, roomM c x.1.2 e), zs, rfl, ed3, nkN_at (x := (x.1.1 + e, roomM c x.1.2 e)) hT2, ?_⟩
    rw [eval3]
    refine ⟨_, _, rfl, ?_⟩
    refine ⟨_, rfl, _, rfl, _, rfl, (by show 2 ≤ sizeLine; omega), fun T3 nT3 => ?_⟩
    have s11 := same_new nT3 (.tup [.int ((x.1.1 + e : Nat) : Int), .int (roomM c x.1.2 e : Nat)])
    have hT3 : SqT K (upd H10 T3 (.tup [.int ((x.1.1 + e : Nat) : Int), .int (roomM c x.1.2 e : Nat)])) T3 [.int ((x.1.1 + e : Nat) : Int), .int (roomM c x.1.2 e : Nat)] := .inl (.inl upd_same)
    have r11 : RW nkN K P w (upd H10 T3 (.tup [.int ((x.1.1 + e : Nat) : Int), .int (roomM c x.1.2 e : Nat)])) d2 q' := by
      obtain ⟨ys, e, y⟩ := r10
      exact ⟨ys, s11 _ _ e, y.smT (.of s11)⟩
    generalize upd H10 T3 (.tup [.int ((x.1.1 + e : Nat) : Int), .int (roomM c x.1.2 e : Nat)]) = H11 at *
    have hkey := nkN_at (x := (x.1.1 + e, roomM c x.1.2 e)) hT3
    have SM11 : SmT H6 H11 := SM9.trans (.of (s10.trans s11))
    have S11 := S9.trans (s10.trans s11)
    obtain ⟨ws, p1, p2, p3, p4⟩ := RW.put hiN r11 (min pd ((valR q' (x.1.1 + e, roomM c x.1.2 e)).getD pd)) hkey
    have ev : (if (((valR q' (x.1.1 + e, roomM c x.1.2 e)).getD pd : Nat) : Int) < (pd : Int) then (((valR q' (x.1.1 + e, roomM c x.1.2 e)).getD pd : Nat) : Int) else (pd : Int)) = ((min pd ((valR q' (x.1.1 + e, roomM c x.1.2 e)).getD pd) : Nat) : Int) := by
      split <;> omega
    rw [ev]
    have hroom : roomM c x.1.2 e ≤ max 1 c := by unfold roomM; omega
    refine ⟨d2, T3, ws, _, rfl, rfl, p1, p2, hkey, ?_, minPut q' (x.1.1 + e, roomM c x.1.2 e) pd, b', _, _, _, _, rfl, SM11.trans (.dv p1), fun b2 u2 hb2 => ?_, p4, A7.put ⟨by show x.1.1 + e < c; omega, cr, hroom⟩ (fun v hv => ?_), I7, J7.trans (minPut_imp _ _ _), hD _ _ (.refl _) (minPut_imp _ _ _) ⟨fun z => absurd z cn, fun _ _ => ?_⟩⟩
    · rw [p3]
      have := rowN_len A7.nd fun k hk => ⟨by have := (A7.keys k hk).1; omega, by have := (A7.keys k hk).2.2; omega⟩
      omega
    · rw [upd_ne (ne_of_none hb2 nd2H)]
      exact S11 _ _ hb2
    · have := A.rows x.1 x.2 xv _ (Pay.step he1 (by omega) cr hv)
      rw [hpd, Nat.add_assoc]
      exact this
    · rw [← hpd]
      exact minPut_at _ _ _
end

abbrev s__law_all : Stmt := topS 37
theorem sc__law_all : FnScope ["_law_count", "_law_most", "_law_found", "_law_k", "_law_longer", "_law_row", "_law_one"] ["_law_count", "_law_most"] (defScope s__law_all) := ⟨rfl, rfl, rfl, by decide +kernel, rfl, by decide +kernel, by decide +kernel⟩
/-- the tuples of rows -/
abbrev RowsT (K : PySem.W.Frag) (H : Hp) : List Addr → List (List Nat) → Prop := Paired fun t r => SqT K H t (r.map fun l => V.int (l : Nat))
theorem RowsT.same {K : PySem.W.Frag} {H H' : Hp} {ts : List Addr} {rs : List (List Nat)} (s : Same H H') (h : RowsT K H ts rs) : RowsT K H' ts rs := Paired.mapP h fun _ _ z => Same.seqT s z
theorem RowsT.snoc {K : PySem.W.Frag} {H : Hp} {ts : List Addr} {rs : List (List Nat)} {t : Addr} {r : List Nat} (h : RowsT K H ts rs) (z : SqT K H t (r.map fun l => V.int (l : Nat))) : RowsT K H (ts ++ [t]) (rs ++ [r]) := by
  induction h with
  | nil => exact .cons z .nil
  | cons a t ih => exact .cons a ih
theorem RowsT.app {K : PySem.W.Frag} {H : Hp} {ts us : List Addr} {rs qs : List (List Nat)} (h : RowsT K H ts rs) (k : RowsT K H us qs) : RowsT K H (ts ++ us) (rs ++ qs) := by
  induction h with
  | nil => exact k
  | cons a t ih => exact .cons a ih
theorem RowsT.get {K : PySem.W.Frag} {H : Hp} {ts : List Addr} {rs : List (List Nat)} (h : RowsT K H ts rs) : ∀ {j : Nat} {t : Addr}, ts[j]? = some t → ∃ r, rs[j]? = some r ∧ SqT K H t (r.map fun l => V.int (l : Nat)) := by
  induction h with
  | nil => intro j e z; simp at z
  | @cons p q l m a t ih =>
    intro j e hj
    cases j with
    | zero =>
      cases Option.some.inj (show some p = some e from hj)
      exact ⟨q, rfl, a⟩
    | succ j => exact ih hj
theorem RowsT.len {K : PySem.W.Frag} {H : Hp} {ts : List Addr} {rs : List (List Nat)} (h : RowsT K H ts rs) : ts.length = rs.length := Paired.length h
theorem RowsT.dp {K : PySem.W.Frag} {H : Hp} {t : Addr} {r : List Nat} (h : SqT K H t (r.map fun l => V.int (l : Nat))) : Dp K H (.ref t) (.tuple (r.map fun l => PyData.int (l : Nat))) := by
  refine .tup h ?_
  clear h
  induction r with
  | nil => exact .nil
  | cons a r ih => exact .cons (.int _) ih
theorem rowT_ok (n : Nat) (r : List Nat) : OkN (n + 1) (.tuple (r.map fun l => PyData.int (l : Nat))) := fun d hd => by
  obtain ⟨x, _, rfl⟩ := List.mem_map.mp hd
  cases n <;> trivial
theorem at_lastV (us : List V) (v : V) : atI (us ++ [v]) (-1) = Option.some v := by
  unfold atI
  have e : ixN (us ++ [v]).length (-1) = Option.some us.length := by
    unfold ixN
    rw [List.length_append, List.length_singleton, if_neg (by decide), if_pos (by omega)]
    congr 1
    omega
  rw [e]
  exact List.getElem?_concat_length
theorem if_val {c : Bool} {ta tb : TE} {σ : List (Option V)} {H : Hp} {Q : VK} {x : V} (h1 : c = true → ∀ Q' : VK, Q' x H → ta σ H Q') (h2 : c = false → ∀ Q' : VK, Q' x H → tb σ H Q') (k : Q x H) : if c = true then ta σ H Q else tb σ H Q := by
  cases c with
  | true => exact h1 rfl Q k
  | false => exact h2 rfl Q k
def sp__law_all (K : PySem.W.Frag) : Sp := fun vs H Q _ => ∃ c m : Nat, vs = [.int (c : Nat), .int (m : Nat)] ∧ c ≤ 6 ∧ m ≤ 5 ∧
  ∀ (D : Addr) (ts : List Addr) (H' : Hp), Same H H' → H D = none → H' D = some (.lst (ts.map V.ref)) → RowsT K H' ts (validL m c) → Q (.ref D) H'
section
variable {P : Program} {w : World} {K : PySem.W.Frag} {mg : Str → Option Value} {base : Heap}
theorem ok__law_all (A : At K mg "_law_all" s__law_all ["_law_count", "_law_most"]) (B : Bn mg) (H__law_double : CalE P w K mg base "_law_double" ["_law_times"] 1 (sp__law_double K)) : CalE P w K mg base "_law_all" ["_law_count", "_law_most"] 2 (sp__law_all K) := by
  obtain ⟨f, fd, F, gF, bF⟩ := A
  obtain ⟨f__law_double, fd__law_double, G__law_double⟩ := H__law_double
  refine ⟨f, fd, F.ok sc__law_all (fun vs H Q E h => ?_) (fun cdv A outer s H vs Q E hr h => ?_), gF, F.kp, bF⟩
  · repeat (first | (obtain ⟨rfl, _⟩ := h; rfl) | (obtain ⟨_, h⟩ := h))
  · obtain ⟨c, m, rfl, hc, hm, k⟩ := h
    have hsz := sizeLine_eq
    have bnd : ∀ j, j ≤ 6 → (allL m j).length ≤ 46656 := fun j hj => Nat.le_trans (allL_len hm j) (Nat.le_trans (Nat.pow_le_pow_right (by decide) hj) (by decide))
    refine ⟨_, (pss_cons (ps_set (i := 2) sc__law_all.nd rfl (.inl rfl) (pe_lst (pa_cons (pe_tup pa_nil) pa_nil)))
      (pss_cons (ps_for PassesOwn.never rfl (pi_range1 (by rfl) B.range_ (pa_cons (pv 0) pa_nil)) (pg_name (i := 3) sc__law_all.nd rfl (.inl rfl))
      (pss_cons (ps_set (i := 4) sc__law_all.nd rfl (.inl rfl) (pe_lst pa_nil))
      (pss_cons (ps_for PassesOwn.never rfl (pi_list (pv 2)) (pg_name (i := 5) sc__law_all.nd rfl (.inr rfl))
      (pss_one (ps_set (i := 4) sc__law_all.nd rfl (.inl rfl) (pe_op op_cat (pv 4) (pe_lc (own := [("_law_one", 6)]) (g := gName 6) (tt := tYes) rfl sc__law_all.nd (pi_range2 (by rfl) B.range_ (pa_cons (pe_ifExp (pt_cmpR (op_neD_ K hr.units) (pv 5) (pe_tup pa_nil) (nomark _)) (pe_ix (ix_tup_ K) (pv 5) (pe_un un_neg pe_int) (fun _ _ => rfl)) pe_int) (pa_cons (pe_op op_add (pv 1) pe_int) pa_nil))) (blkOk_by (own := [("_law_one", 6)]) (N := ["_law_count", "_law_most", "_law_found", "_law_k", "_law_longer", "_law_row", "_law_one"]) (sc := defScope s__law_all) (by decide +kernel)) (fun _ _ _ _ _ => (pg_name (i := 6) sc__law_all.nd rfl (.inl rfl))) (fun _ _ _ _ _ => pts_nil) (fun _ _ _ _ _ => (pe_op (op_catA_ K) (pv 5) (pe_tup (pa_cons (pv 6) pa_nil)))))))))
      (pss_one (ps_set (i := 2) sc__law_all.nd rfl (.inl rfl) (pv 4))))))
      (pss_one (ps_ret (pe_lc (own := [("_law_row", 5)]) (g := gName 5) (tt := _) rfl sc__law_all.nd (pi_list (pv 2)) (blkOk_by (own := [("_law_row", 5)]) (N := ["_law_count", "_law_most", "_law_found", "_law_k", "_law_longer", "_law_row", "_law_one"]) (sc := defScope s__law_all) (by decide +kernel)) (fun _ _ _ _ _ => (pg_name (i := 5) sc__law_all.nd rfl (.inl rfl))) (fun _ _ _ _ _ => (pts_one (pt_cmpR op_le (pe_callB (cr_sum_ K rfl) (by rfl) B.sum_ (by decide +kernel) (pa_cons (pe_lc (own := [("_law_one", 6)]) (g := gName 6) (tt := tYes) rfl sc__law_all.nd (pi_tup_ K (pv 5)) (blkOk_by (own := [("_law_one", 6)]) (N := ["_law_count", "_law_most", "_law_found", "_law_k", "_law_longer", "_law_row", "_law_one"]) (sc := _) (by rfl)) (fun _ _ _ _ _ => (pg_name (i := 6) sc__law_all.nd rfl (.inl rfl))) (fun _ _ _ _ _ => pts_nil) (fun _ _ _ _ _ => (pe_call G__law_double.ok (hr.mono (by first | decide | exact Nat.le_refl _)) (by rfl) G__law_double.g G__law_double.kp G__law_double.b .nil pass0 (pa_cons (pe_op op_sub (pv 1) (pv 6)) pa_nil)))) pa_nil)) (pe_call G__law_double.ok (hr.mono (by first | decide | exact Nat.le_refl _)) (by rfl) G__law_double.g G__law_double.kp G__law_double.b .nil pass0 (pa_cons (pv 1) pa_nil)) (nomark _)))) (fun _ _ _ _ _ => (pv 5))))))), ?_⟩
    refine ⟨(by show 0 ≤ sizeLine; omega), fun T0 nT0 => ?_⟩
    have s1 := same_new nT0 (.tup [])
    have hT0 : SqT K (upd H T0 (.tup [])) T0 (([] : List Nat).map fun l => V.int (l : Nat)) := .inl (.inl upd_same)
    generalize upd H T0 (.tup []) = H1 at *
    refine ⟨(by show 1 ≤ sizeLine; omega), fun D0 nD0 => ?_⟩
    have s2 := same_new nD0 (.lst [.ref T0])
    have eD0 : (upd H1 D0 (.lst [.ref T0])) D0 = some (.lst ([T0].map V.ref)) := upd_same
    have hR0 : RowsT K (upd H1 D0 (.lst [.ref T0])) [T0] (allL m 0) := .cons (Same.seqT s2 hT0) .nil
    have nD0H := s1.free nD0
    have S2 := s1.trans s2
    generalize upd H1 D0 (.lst [.ref T0]) = H2 at *
    clear s1 s2 hT0 nT0 nD0
    refine ⟨_, rfl, _, rfl, by omega, by omega, ?_⟩
    rw [Int.toNat_natCast]
    refine for_range (lo := 0) (n := c) (fun i σ H' => ∃ (D : Addr) (ts : List Addr) (v3 v4 v5 v6 : Option V), σ = [some (.int (c : Nat)), some (.int (m : Nat)), some (.ref D), v3, v4, v5, v6] ∧ Same H H' ∧ H D = none ∧ H' D = some (.lst (ts.map V.ref)) ∧ RowsT K H' ts (allL m i)) ⟨D0, [T0], _, _, _, _, rfl, S2, nD0H, eD0, hR0⟩ ?_ ?_
    · clear S2 nD0H eD0 hR0
      rintro i σ H3 hi ⟨D, ts, v3, v4, v5, v6, rfl, s3, nD, eD, hR⟩
      refine ⟨(by show 0 ≤ sizeLine; omega), fun L0 nL0 => ?_⟩
      have s4 := same_new nL0 (.lst [])
      have eL0 : (upd H3 L0 (.lst [])) L0 = some (.lst (([] : List Addr).map V.ref)) := upd_same
      have nL0H := s3.free nL0
      have S4 := s3.trans s4
      have eD4 := s4 _ _ eD
      have hR4 := hR.same s4
      generalize upd H3 L0 (.lst []) = H4 at *
      clear s3 s4 nL0 eD hR
      refine ⟨_, rfl, D, rfl, ⟨_, .inl (.inl eD4)⟩, for_list (K := K) (a := D) (xs := ts.map V.ref) (fun j σ H' => ∃ (L : Addr) (us : List Addr) (v5 v6 : Option V), σ = [some (.int (c : Nat)), some (.int (m : Nat)), some (.ref D), some (.int (0 + (i : Int))), some (.ref L), v5, v6] ∧ Same H4 H' ∧ H L = none ∧ H' L = some (.lst (us.map V.ref)) ∧ RowsT K H' us (((allL m i).take j).flatMap (nextL m))) ⟨L0, [], _, _, rfl, .refl _, nL0H, eL0, .nil⟩ (fun j σ H' _ ⟨_, _, _, _, _, s, _⟩ => .inl (.inl (s _ _ eD4))) ?_ ?_⟩
      · clear eL0 nL0H
        rintro j y σ H5 hy ⟨L, us, v5, v6, rfl, s5, nL, eL, hU⟩
        rw [List.getElem?_map] at hy
        obtain ⟨t, ht, rfl⟩ : ∃ t, ts[j]? = some t ∧ y = V.ref t := by
          cases e : ts[j]? with
          | none => rw [e] at hy; cases hy
          | some t => rw [e] at hy; exact ⟨t, rfl, (Option.some.inj hy).symm⟩
        obtain ⟨r, hr, hq⟩ := (hR4.same s5).get ht
        obtain ⟨rl, rp, rm⟩ := (mem_allL m i r).mp (List.mem_of_getElem? hr)
        have hrl : r.length = i := rl
        have em : (r.map fun l => V.int (l : Nat)).length = i := by rw [List.length_map, hrl]
        have hU46 : us.length ≤ 46656 := by
          rw [hU.len]
          refine Nat.le_trans ?_ (bnd (i + 1) (by omega))
          rw [allL]
          have e := List.take_append_drop j (allL m i)
          rw [← e, List.flatMap_append, List.length_append]
          rw [e]
          omega
        refine ⟨_, rfl, ?_⟩
        refine ⟨_, rfl, (by show 0 ≤ sizeLine; omega), fun E nE => ?_⟩
        have s6 := same_new nE (.tup [])
        have hE : Dp K (upd H5 E (.tup [])) (.ref E) (.tuple []) := .tup (.inl (.inl upd_same)) .nil
        have hq6 := Same.seqT s6 hq
        have eL6 := s6 _ _ eL
        have hU6 := hU.same s6
        have nL6 := nL
        have S6 := s5.trans s6
        generalize upd H5 E (.tup []) = H6 at *
        clear s6 hq eL hU s5 nE
        refine ⟨_, _, RowsT.dp hq6, hE, ok_shaped (n := 2) (rowT_ok 1 r) (by decide), by decide +kernel, _, rfl, ?_⟩
        refine if_val (x := .int ((r.getLast?.getD 0 : Nat) : Int)) (fun hc1 Q' k' => ?_) (fun hc1 Q' k' => ?_) ?_
        · rcases List.eq_nil_or_concat r with e | ⟨r0, z, e⟩
          · subst e
            exact absurd hc1 (by decide +kernel)
          · rw [List.concat_eq_append] at e
            subst e
            rw [List.getLast?_concat] at k'
            refine ⟨_, rfl, _, rfl, t, _, _, _, rfl, rfl, hq6, ?_, k'⟩
            rw [List.map_append]
            exact at_lastV _ _
        · rcases List.eq_nil_or_concat r with e | ⟨r0, z, e⟩
          · subst e
            exact k'
          · rw [List.concat_eq_append] at e
            subst e
            refine absurd hc1 ?_
            cases r0 <;> exact Bool.noConfusion
        have hlo : r.getLast?.getD 0 ≤ m := by
          cases e : r.getLast? with
          | none => exact Nat.zero_le _
          | some z => exact rm z (List.mem_of_getLast? e)
        have e1 : (((m : Nat) : Int) + 1 - ((r.getLast?.getD 0 : Nat) : Int)).toNat = m + 1 - r.getLast?.getD 0 := by omega
        have hnx : (nextL m r).length = m + 1 - r.getLast?.getD 0 := by
          unfold nextL
          rw [List.length_map, List.length_range']
        have hng : ∀ k, k < m + 1 - r.getLast?.getD 0 → (nextL m r)[k]? = some (r ++ [r.getLast?.getD 0 + k]) := fun k hk => by
          unfold nextL
          rw [List.getElem?_map, List.getElem?_range' hk]
          simp
        generalize r.getLast?.getD 0 = lo at *
        refine ⟨_, rfl, _, _, rfl, rfl, _, _, rfl, ⟨by omega, by omega, by omega, by omega⟩, ?_⟩
        rw [e1]
        refine fun B0 nB => ?_
        have hU7 := hU6
        refine lc_range (lo := (lo : Int)) (n := m + 1 - lo) (fun k H' => ∃ qs : List Addr, Same H6 H' ∧ H' B0 = some (.lst (qs.map V.ref)) ∧ RowsT K H' qs ((nextL m r).take k)) ⟨[], same_new nB _, upd_same, .nil⟩ ?_ ?_
        · rintro k H7 hk ⟨qs, s7, eB, hQ⟩
          have hq7 := Same.seqT s7 hq6
          have hl7 : qs.length ≤ k := by
            rw [hQ.len, List.length_take]
            omega
          refine ⟨rfl, _, rfl, _, rfl, (by show 1 ≤ sizeLine; omega), fun U nU => ?_⟩
          have s8 := same_new nU (.tup [.int ((lo : Int) + (k : Nat))])
          have eU : (upd H7 U (.tup [.int ((lo : Int) + (k : Nat))])) U = some (.tup [.int ((lo : Int) + (k : Nat))]) := upd_same
          have hq8 := Same.seqT s8 hq7
          have hQ8 := hQ.same s8
          have eB8 := s8 _ _ eB
          have s78 := s7.trans s8
          generalize upd H7 U (.tup [.int ((lo : Int) + (k : Nat))]) = H8 at *
          clear s7 s8 nU eB hQ
          have el : (V.int ((lo : Int) + (k : Nat))) = V.int ((lo + k : Nat) : Int) := by rw [Int.natCast_add]
          have fin : ∀ (p : Addr) (H9 : Hp), Same H8 H9 → SqT K H9 p ((r ++ [lo + k]).map fun l => V.int (l : Nat)) → ∃ acc, H9 B0 = some (.lst acc) ∧ acc.length < sizeLine ∧ ∃ qs : List Addr, Same H6 (upd H9 B0 (.lst (acc ++ [.ref p]))) ∧ (upd H9 B0 (.lst (acc ++ [.ref p]))) B0 = some (.lst (qs.map V.ref)) ∧ RowsT K (upd H9 B0 (.lst (acc ++ [.ref p]))) qs ((nextL m r).take (k + 1)) := fun p H9 s9 hp => by
            have nB9 := nB
            refine ⟨_, s9 _ _ eB8, (by rw [List.length_map]; omega), qs ++ [p], ?_, ?_, ?_⟩
            · exact fun b o hb => by
                rw [upd_ne (ne_of_none hb nB)]
                exact s9 _ _ (s78 _ _ hb)
            · rw [upd_same, List.map_append]
              rfl
            · rw [take_more (hng k hk)]
              have hQ9 := (hQ8.same s9).snoc hp
              exact Paired.mapP hQ9 fun _ _ z => SqT.updL (s9 _ _ eB8) z
          refine ⟨t, _, _, _, rfl, rfl, hq8, .inl (.inl eU), (by rw [List.length_map]; show r.length + 1 ≤ sizeLine; omega), fun e0 => ?_, fun _ e0 => ?_, fun _ _ p np => ?_⟩
          · have er : r = [] := List.map_eq_nil_iff.mp e0
            refine fin U H8 (.refl _) ?_
            rw [er]
            show SqT K _ U [V.int ((lo + k : Nat) : Int)]
            rw [← el]
            exact .inl (.inl eU)
          · cases e0
          · refine fin p _ (same_new np _) ?_
            rw [List.map_append]
            show SqT K _ p (_ ++ [V.int ((lo + k : Nat) : Int)])
            rw [← el]
            exact .inl (.inl upd_same)
        rintro H7 ⟨qs, s7, eB, hQ⟩
        rw [← hnx, List.take_length] at hQ
        have lQ : qs.length ≤ 6 := by
          rw [hQ.len, hnx]
          omega
        have nB5 := S6.free nB
        refine ⟨L, B0, us.map V.ref, qs.map V.ref, rfl, rfl, s7 _ _ eL6, eB, (by rw [List.length_map, List.length_map]; omega), fun p np => ?_⟩
        have s8 := same_new np (.lst (us.map V.ref ++ qs.map V.ref))
        refine ⟨p, us ++ qs, _, _, rfl, S6.trans (s7.trans s8), S4.free (S6.free (s7.free np)), (by rw [upd_same, List.map_append]), ?_⟩
        rw [take_more hr, List.flatMap_append]
        refine ((hU6.same s7).same s8).app ?_
        rw [List.flatMap_cons, List.flatMap_nil, List.append_nil]
        exact hQ.same s8
      rintro σ H5 ⟨L, us, v5, v6, rfl, s5, nL, eL, hU⟩
      rw [List.length_map, hR4.len, List.take_length] at hU
      exact ⟨_, rfl, L, us, _, _, _, _, rfl, S4.trans s5, nL, eL, hU⟩
    clear S2 nD0H eD0 hR0
    rintro σ H3 ⟨D, ts, v3, v4, v5, v6, rfl, s3, nD, eD, hR⟩
    have hl46 := bnd c hc
    refine ⟨_, rfl, D, rfl, ⟨_, .inl (.inl eD)⟩, fun G nG => ?_⟩
    refine lc_list (K := K) (a := D) (xs := ts.map V.ref) (fun j H' => ∃ us : List Addr, Same H3 H' ∧ H' G = some (.lst (us.map V.ref)) ∧ RowsT K H' us (((allL m c).take j).filter fun r => decide (krf m r ≤ 2 ^ m))) ⟨[], same_new nG _, upd_same, .nil⟩ (fun j H' _ ⟨_, s, _⟩ => .inl (.inl (s _ _ eD))) ?_ ?_
    · rintro j y H4 hy ⟨us, s4, eG, hU⟩
      rw [List.getElem?_map] at hy
      obtain ⟨t, ht, rfl⟩ : ∃ t, ts[j]? = some t ∧ y = V.ref t := by
        cases e : ts[j]? with
        | none => rw [e] at hy; cases hy
        | some t => rw [e] at hy; exact ⟨t, rfl, (Option.some.inj hy).symm⟩
      obtain ⟨r, hr, hq⟩ := hR.get ht
      obtain ⟨rl, rp, rm⟩ := (mem_allL m c r).mp (List.mem_of_getElem? hr)
      have hq4 := Same.seqT s4 hq
      have lU : us.length ≤ 46656 := by
        rw [hU.len]
        exact Nat.le_trans (List.length_filter_le _ _) (Nat.le_trans (by rw [List.length_take]; omega) hl46)
      refine ⟨rfl, _, rfl, t, rfl, ⟨_, hq4⟩, fun B0 nB => ?_⟩
      refine lc_tup (K := K) (a := t) (xs := r.map fun l => V.int (l : Nat)) (fun k H' => Same H4 H' ∧ H' B0 = some (.lst ((((r.take k).map fun l => ((2 ^ (m - l) : Nat) : Int))).map V.int))) ⟨same_new nB _, upd_same⟩ (fun k H' _ h => Same.seqT h.1 hq4) ?_ ?_
      · rintro k y H5 hy ⟨s5, eB⟩
        rw [List.getElem?_map] at hy
        obtain ⟨l, hl, rfl⟩ : ∃ l, r[k]? = some l ∧ y = V.int (l : Nat) := by
          cases e : r[k]? with
          | none => rw [e] at hy; cases hy
          | some t => rw [e] at hy; exact ⟨t, rfl, (Option.some.inj hy).symm⟩
        have hlm := rm l (List.mem_of_getElem? hl)
        have hkl := (List.getElem?_eq_some_iff.mp hl).1
        refine ⟨rfl, _, rfl, _, rfl, _, _, rfl, rfl, m - l, (by show [V.int ((m : Int) - (l : Nat))] = _; rw [Int.natCast_sub hlm]), by omega, _, eB, ?_, fun b o hb => ?_, ?_⟩
        · rw [List.length_map, List.length_map, List.length_take]
          omega
        · rw [upd_ne (ne_of_none hb nB)]
          exact s5 _ _ hb
        · rw [upd_same, take_more hl, List.map_append, List.map_append]
          rfl
      rintro H5 ⟨s5, eB⟩
      rw [List.length_map, List.take_length] at eB
      have ek : (r.map fun l => ((2 ^ (m - l) : Nat) : Int)).sum = ((krf m r : Nat) : Int) := by
        unfold krf
        clear hq hq4 eB hr rl rp rm
        induction r with
        | nil => rfl
        | cons a r ih => rw [List.map_cons, List.sum_cons, ih, List.map_cons, List.sum_cons, Int.natCast_add]
      refine ⟨B0, _, rfl, .inl (.inl eB), _, rfl, m, rfl, by omega, ?_⟩
      rw [ek]
      refine ⟨_, _, rfl, rfl, _, rfl, ?_⟩
      have ed : decide (((krf m r : Nat) : Int) ≤ ((2 ^ m : Nat) : Int)) = decide (krf m r ≤ 2 ^ m) := by
        congr 1
        exact propext Int.ofNat_le
      rw [ed]
      have eG5 := s5 _ _ eG
      have hU5 := hU.same s5
      have s45 := s4.trans s5
      have ef : ((allL m c).take (j + 1)).filter (fun r => decide (krf m r ≤ 2 ^ m)) = ((allL m c).take j).filter (fun r => decide (krf m r ≤ 2 ^ m)) ++ (if krf m r ≤ 2 ^ m then [r] else []) := by
        rw [take_more hr, List.filter_append]
        congr 1
        by_cases c1 : krf m r ≤ 2 ^ m
        · rw [if_pos c1, List.filter_eq_self.mpr]
          intro z hz
          rw [List.mem_singleton.mp hz, decide_eq_true c1]
        · rw [if_neg c1]
          simp [c1]
      by_cases c1 : krf m r ≤ 2 ^ m
      · rw [if_pos c1] at ef
        rw [decide_eq_true c1]
        refine iteT ⟨_, rfl, _, eG5, (by rw [List.length_map]; omega), us ++ [t], fun b o hb => ?_, ?_, ?_⟩
        · rw [upd_ne (ne_of_none hb nG)]
          exact s45 _ _ hb
        · rw [upd_same, List.map_append]
          rfl
        · rw [ef]
          exact Paired.mapP (hU5.snoc (Same.seqT s5 hq4)) fun _ _ z => SqT.updL eG5 z
      · rw [if_neg c1, List.append_nil] at ef
        rw [decide_eq_false c1]
        refine iteF ⟨us, s45, eG5, ?_⟩
        rw [ef]
        exact hU5
    rintro H4 ⟨us, s4, eG, hU⟩
    rw [List.length_map, hR.len, List.take_length] at hU
    exact k G us H4 (s3.trans s4) (s3.free nG) eG hU
end

abbrev s_law : Stmt := topS 39
theorem sc_law : FnScope ["_law_script", "_law_h", "_law_turn", "_law_ratio_here", "_law_most", "_law_count", "_law_found", "_law_best", "_law_weights_here", "_law_costs", "_law_k", "_law_row"] ["_law_script"] (defScope s_law) := ⟨rfl, rfl, rfl, by decide +kernel, rfl, by decide +kernel, by decide +kernel⟩
def sp_law (K : PySem.W.Frag) : Sp := fun vs H Q _ => ∃ (a : Addr) (ns : List Int), vs = [.ref a] ∧ SqL K H a (ns.map V.int) ∧ ns.length ≤ 63 ∧ ∀ H', Q (.bl true) H'
theorem int_uniq : ∀ {a b : List Int}, a.Pairwise (· ≤ ·) → b.Pairwise (· ≤ ·) → a.Perm b → a = b
  | [], b, _, _, h => (List.Perm.eq_nil h.symm).symm
  | x :: a, [], _, _, h => absurd h.length_eq (by simp)
  | x :: a, y :: b, ha, hb, h => by
    obtain ⟨a1, a2⟩ := List.pairwise_cons.mp ha
    obtain ⟨b1, b2⟩ := List.pairwise_cons.mp hb
    have e : x = y := by
      refine Int.le_antisymm ?_ ?_
      · rcases List.mem_cons.mp (h.mem_iff.mpr List.mem_cons_self) with e | hy
        · omega
        · exact a1 y hy
      · rcases List.mem_cons.mp (h.mem_iff.mp List.mem_cons_self) with e | hx
        · omega
        · exact b1 x hx
    subst e
    rw [int_uniq a2 b2 h.cons_inv]
def ratD (r : Rat) : PyData := .tuple [.int r.num, .int (r.den : Int)]
theorem dp_rat {K : PySem.W.Frag} {H : Hp} {a : Addr} {r : Rat} (h : RatAt K H a r) : Dp K H (.ref a) (ratD r) := .tup h (.cons (.int _) (.cons (.int _) .nil))
theorem ok_rat (n : Nat) (r : Rat) : OkN (n + 1) (ratD r) := fun d hd => by
  rcases List.mem_cons.mp hd with rfl | hd
  · cases n <;> trivial
  · rcases List.mem_cons.mp hd with rfl | hd
    · cases n <;> trivial
    · cases hd
theorem dp_nats {K : PySem.W.Frag} {H : Hp} : ∀ (ws : List Nat), DpAll K H (ws.map fun n => V.int (n : Nat)) (ws.map fun n => PyData.int (n : Nat))
  | [] => .nil
  | w :: ws => .cons (.int _) (dp_nats ws)
theorem okA_nats {n : Nat} (ws : List Nat) : ∀ d ∈ ws.map (fun n => PyData.int (n : Nat)), OkD n d := fun d hd => by
  obtain ⟨x, _, rfl⟩ := List.mem_map.mp hd
  cases n <;> trivial
/-- the weights -/
def wtN (p q c i : Nat) : Nat := p ^ i * q ^ (c - 1 - i)
theorem wtF_N (p q c : Nat) : wtF p q c = fun i => ((wtN p q c i : Nat) : Int) := by
  funext i
  show (p : Int) ^ i * (q : Int) ^ (c - 1 - i) = _
  unfold wtN
  rw [Int.natCast_mul, Int.natCast_pow, Int.natCast_pow]
def payL (W : Nat → Nat) (ls : List Nat) : List Int := (List.range ls.length).map fun k => ((W k * (ls.getD k 0) : Nat) : Int)
theorem pay_sum (W : Nat → Nat) (ls : List Nat) : (payL W ls).sum = ((costN W 0 ls : Nat) : Int) := by
  have e : ∀ (ls : List Nat) (t : Nat), ((List.range ls.length).map fun k => ((W (t + k) * (ls.getD k 0) : Nat) : Int)).sum = ((costN W t ls : Nat) : Int) := by
    intro ls
    induction ls with
    | nil => intro t; rfl
    | cons a ls ih =>
      intro t
      rw [List.length_cons, List.range_succ_eq_map, List.map_cons, List.sum_cons, List.map_map, costN, Int.natCast_add, ← ih (t + 1)]
      congr 1
      congr 1
      refine List.map_congr_left fun k _ => ?_
      show ((W (t + (k + 1)) * ((a :: ls).getD (k + 1) 0) : Nat) : Int) = _
      rw [show t + (k + 1) = t + 1 + k by omega]
      rfl
  have := e ls 0
  unfold payL
  rw [← this]
  congr 1
  refine List.map_congr_left fun k _ => ?_
  rw [Nat.zero_add]
theorem ite_both {b : Bool} {A B : Prop} (ha : A) (hb : B) : if b = true then A else B := by
  cases b
  · exact hb
  · exact ha
theorem if_test {te : TE} {t u : TS} {D : Ends} {σ : List (Option V)} {H : Hp} (h : te σ H fun x H' => ∃ k, x = .bl k ∧ (if k = true then t D σ H' else u D σ H')) : tIfS (tTest te) t u D σ H := h
theorem nx_if {te : TE} {t u : TS} {D : Ends} {r : VK} {b c : List (Option V) → Hp → Prop} {σ : List (Option V)} {H : Hp} (h : te σ H fun x H' => ∃ k, x = .bl k ∧ (if k = true then t D σ H' else u D σ H')) : tNext { nx := tIfS (tTest te) t u D, rt := r, bk := b, ct := c } σ H := h
theorem yes_walk {σ : List (Option V)} {H : Hp} {Q : Bool → Hp → Prop} (h : Q true H) : tYes σ H Q := h
theorem op_walk {r : R2} {ta tb : TE} {σ : List (Option V)} {H : Hp} {Q : VK} (h : ta σ H fun x H1 => tb σ H1 fun y H2 => r x y H2 Q) : tOp r ta tb σ H Q := h
theorem seq_any {A B : TS} {D : Ends} {σ : List (Option V)} {H : Hp} (G : Hp → Prop) (hA : ∀ D' : Ends, (∀ H', G H' → D'.nx σ H') → A D' σ H) (k : ∀ H', G H' → B D σ H') : tSeq A B D σ H := hA _ k
theorem seq_anyN {A B : TS} {D : Ends} {r : VK} {b c : List (Option V) → Hp → Prop} {σ : List (Option V)} {H : Hp} (G : Hp → Prop) (hA : ∀ D' : Ends, (∀ H', G H' → D'.nx σ H') → A D' σ H) (k : ∀ H', G H' → B D σ H') : tNext { nx := tSeq A B D, rt := r, bk := b, ct := c } σ H := hA _ k
theorem dot_walk {K : PySem.W.Frag} {x0 x1 x2 x3 x4 x6 x7 x9 x10 x11 : Option V} {Z T : Addr} {W : Nat → Nat} {c rr : Nat} {ls : List Nat} {H : Hp} {Q : VK}
    (hrow : ∀ z, ([x0, x1, x2, x3, x4, some (.int (c : Nat)), x6, x7, some (.ref Z), x9, z, x11] : List (Option V))[rr]? = some (some (.ref T)))
    (hZ : H Z = some (.lst ((List.range c).map fun i => V.int (W i : Nat)))) (hT : SqT K H T (ls.map fun l => V.int (l : Nat))) (hl : ls.length = c) (hc : c ≤ 40) (h60 : ∀ l ∈ ls, l ≤ 60)
    (k : ∀ H', Same H H' → Q (.int ((costN W 0 ls : Nat) : Int)) H') :
    tCB (rSum K) (tCons (tLc (iRng1 (tCons (tVar 5) tNil)) (gName 10) tYes (tOp (rI CMul fun i j => .int (i * j)) (tOp (rIxL K) (tVar 8) (tVar 10)) (tOp (rIxT K) (tVar rr) (tVar 10))) [10]) tNil)
      [x0, x1, x2, x3, x4, some (.int (c : Nat)), x6, x7, some (.ref Z), x9, x10, x11] H Q := by
  have hsz := sizeLine_eq
  refine ⟨_, rfl, _, rfl, by omega, by omega, fun G nG => ?_⟩
  rw [Int.toNat_natCast]
  refine lc_range (lo := 0) (n := c) (fun j H' => Same H H' ∧ H' G = some (.lst (((payL W ls).take j).map V.int))) ⟨same_new nG _, by rw [List.take_zero]; exact upd_same⟩ ?_ ?_
  · rintro j H19 hj ⟨s19, eG⟩
    have hz : ls[j]? = some ls[j] := List.getElem?_eq_getElem (by omega)
    generalize ls[j] = l at hz
    have l60 := h60 l (List.mem_of_getElem? hz)
    have at1 : (ls.map fun n => V.int (n : Nat))[j]? = some (.int (l : Nat)) := by rw [List.getElem?_map, hz]; rfl
    have at2 : ((List.range c).map fun i => V.int (W i : Nat))[j]? = some (.int (W j : Nat)) := by rw [List.getElem?_map, List.getElem?_range hj]; rfl
    have hZ2 : SqL K H19 Z _ := .inl (.inl (s19 _ _ hZ))
    refine ⟨rfl, _, rfl, _, rfl, Z, _, _, _, rfl, rfl, hZ2, at_of (Int.zero_add _) at2, _, hrow _, _, rfl, T, _, _, _, rfl, rfl, Same.seqT s19 hT, at_of (Int.zero_add _) at1, _, _, rfl, rfl, .inr (by omega), _, eG, ?_, fun b o ho => ?_, ?_⟩
    · rw [List.length_map, List.length_take]
      omega
    · rw [upd_ne (ne_of_none ho nG)]
      exact s19 _ _ ho
    · have hg : (payL W ls)[j]? = some ((W j : Nat) * (l : Nat) : Int) := by
        unfold payL
        rw [List.getElem?_map, List.getElem?_range (by omega)]
        show some ((W j * ls.getD j 0 : Nat) : Int) = _
        rw [List.getD_eq_getElem?_getD, hz]
        show some ((W j * l : Nat) : Int) = _
        rw [Int.natCast_mul]
      rw [upd_same, take_more hg, List.map_append]
      rfl
  rintro H19 ⟨s19, eG⟩
  rw [List.take_of_length_le (by unfold payL; rw [List.length_map, List.length_range]; omega)] at eG
  refine ⟨G, _, rfl, .inl (.inl eG), ?_⟩
  rw [pay_sum]
  exact k _ s19
section
variable {P : Program} {w : World} {K : PySem.W.Frag} {mg : Str → Option Value} {base : Heap}
theorem ok_law {f : Addr} {fd : FuncData} (F : Fun K "law" "law" s_law f fd) (B : Bn mg) (H__law_mix : CalE P w K mg base "_law_mix" ["_law_script", "_law_seed"] 1 (sp__law_mix K)) (H__law_ratio : CalE P w K mg base "_law_ratio" ["_law_h"] 3 (sp__law_ratio K)) (H__law_next : CalE P w K mg base "_law_next" ["_law_h", "_law_cap"] 1 (sp__law_next K)) (H__law_pick : CalE P w K mg base "_law_pick" ["_law_h", "_law_things"] 2 (sp__law_pick K)) (H_limited_lengths : CalE P w K mg base "limited_lengths" ["ratio", "count", "most"] 4 (sp_limited_lengths K)) (H_best_lengths : CalE P w K mg base "best_lengths" ["ratio", "count"] 4 (sp_best_lengths K)) (H__law_weights : CalE P w K mg base "_law_weights" ["_law_ratio_here", "_law_count"] 1 (sp__law_weights K)) (H__law_double : CalE P w K mg base "_law_double" ["_law_times"] 1 (sp__law_double K)) (H__law_alike : CalE P w K mg base "_law_alike" ["_law_found", "_law_due"] 5 (sp__law_alike K)) (H_is_whole : CalE P w K mg base "is_whole" ["lengths"] 3 (sp_is_whole K)) (H_cost : CalE P w K mg base "cost" ["lengths", "ratio"] 4 (sp_cost K)) (H__law_least : CalE P w K mg base "_law_least" ["_law_weights_here", "_law_most"] 1 (sp__law_least K P w)) (H__law_all : CalE P w K mg base "_law_all" ["_law_count", "_law_most"] 2 (sp__law_all K)) : FnOk P w K mg base CX0 6 f fd ["_law_script"] (sp_law K) := by
  obtain ⟨f__law_mix, fd__law_mix, G__law_mix⟩ := H__law_mix
  obtain ⟨f__law_ratio, fd__law_ratio, G__law_ratio⟩ := H__law_ratio
  obtain ⟨f__law_next, fd__law_next, G__law_next⟩ := H__law_next
  obtain ⟨f__law_pick, fd__law_pick, G__law_pick⟩ := H__law_pick
  obtain ⟨f_limited_lengths, fd_limited_lengths, G_limited_lengths⟩ := H_limited_lengths
  obtain ⟨f_best_lengths, fd_best_lengths, G_best_lengths⟩ := H_best_lengths
  obtain ⟨f__law_weights, fd__law_weights, G__law_weights⟩ := H__law_weights
  obtain ⟨f__law_double, fd__law_double, G__law_double⟩ := H__law_double
  obtain ⟨f__law_alike, fd__law_alike, G__law_alike⟩ := H__law_alike
  obtain ⟨f_is_whole, fd_is_whole, G_is_whole⟩ := H_is_whole
  obtain ⟨f_cost, fd_cost, G_cost⟩ := H_cost
  obtain ⟨f__law_least, fd__law_least, G__law_least⟩ := H__law_least
  obtain ⟨f__law_all, fd__law_all, G__law_all⟩ := H__law_all
  refine F.ok sc_law (fun vs H Q E h => ?_) (fun cdv A outer s H vs Q E hr h => ?_)
  · obtain ⟨a, ns, rfl, _⟩ := h
    rfl
  obtain ⟨a, ns, rfl, hS, hlen, k⟩ := h
  have hsz := sizeLine_eq
  refine ⟨_, (pss_cons (ps_set (i := 1) sc_law.nd rfl (.inl rfl) (pe_call G__law_mix.ok (hr.mono (by first | decide | exact Nat.le_refl _)) (by rfl) G__law_mix.g G__law_mix.kp G__law_mix.b .nil pass0 (pa_cons (pv 0) (pa_cons pe_int pa_nil))))
      (pss_cons (ps_for PassesOwn.never rfl (pi_range1 (by rfl) B.range_ (pa_cons pe_int pa_nil)) (pg_name (i := 2) sc_law.nd rfl (.inl rfl))
      (pss_cons (ps_par (i := 3) (j := 4) (by rfl) sc_law.nd rfl rfl (by decide) rfl rfl (pa_cons (pe_call G__law_ratio.ok (hr.mono (by first | decide | exact Nat.le_refl _)) (by rfl) G__law_ratio.g G__law_ratio.kp G__law_ratio.b .nil pass0 (pa_cons (pv 1) pa_nil)) (pa_cons (pe_op op_add pe_int (pe_call G__law_next.ok (hr.mono (by first | decide | exact Nat.le_refl _)) (by rfl) G__law_next.g G__law_next.kp G__law_next.b .nil pass0 (pa_cons (pv 1) (pa_cons (pe_call G__law_pick.ok (hr.mono (by first | decide | exact Nat.le_refl _)) (by rfl) G__law_pick.g G__law_pick.kp G__law_pick.b .nil pass0 (pa_cons (pv 1) (pa_cons (pe_lst (pa_cons pe_int (pa_cons pe_int pa_nil))) pa_nil))) pa_nil)))) pa_nil)) (by rfl))
      (pss_cons (ps_set (i := 5) sc_law.nd rfl (.inr rfl) (pe_op op_add pe_int (pe_call G__law_next.ok (hr.mono (by first | decide | exact Nat.le_refl _)) (by rfl) G__law_next.g G__law_next.kp G__law_next.b .nil pass0 (pa_cons (pv 1) (pa_cons (pe_call G__law_pick.ok (hr.mono (by first | decide | exact Nat.le_refl _)) (by rfl) G__law_pick.g G__law_pick.kp G__law_pick.b .nil pass0 (pa_cons (pv 1) (pa_cons (pe_lst (pa_cons pe_int (pa_cons pe_int pa_nil))) pa_nil))) pa_nil)))))
      (pss_cons (ps_asg (pe_tup (pa_cons (pe_call G_limited_lengths.ok (hr.mono (by first | decide | exact Nat.le_refl _)) (by rfl) G_limited_lengths.g G_limited_lengths.kp G_limited_lengths.b .nil pass0 (pa_cons (pv 3) (pa_cons (pv 5) (pa_cons (pv 4) pa_nil)))) (pa_cons (pe_call G_best_lengths.ok (hr.mono (by first | decide | exact Nat.le_refl _)) (by rfl) G_best_lengths.g G_best_lengths.kp G_best_lengths.b .nil pass0 (pa_cons (pv 3) (pa_cons (pv 5) pa_nil))) pa_nil))) (pg_tup (by rfl) (pgs_cons (pg_name (i := 6) sc_law.nd rfl (.inr rfl)) (pgs_cons (pg_name (i := 7) sc_law.nd rfl (.inl rfl)) pgs_nil))))
      (pss_cons (ps_set (i := 8) sc_law.nd rfl (.inr rfl) (pe_call G__law_weights.ok (hr.mono (by first | decide | exact Nat.le_refl _)) (by rfl) G__law_weights.g G__law_weights.kp G__law_weights.b .nil pass0 (pa_cons (pv 3) (pa_cons (pv 5) pa_nil))))
      (pss_cons (ps_if (pt_cmpR op_ne (pe_cmp (pc_isN (pv 6)) rfl) (pe_cmpR op_gt (pv 5) (pe_call G__law_double.ok (hr.mono (by first | decide | exact Nat.le_refl _)) (by rfl) G__law_double.g G__law_double.kp G__law_double.b .nil pass0 (pa_cons (pv 4) pa_nil)) (nomark _)) (nomark _))
      (pss_one (ps_ret pe_bl))
      pss_nil)
      (pss_one (ps_if (pt_cmp (pc_notN (pv 6)))
      (pss_cons (ps_if (PW.pt (pw_or (pt_not (pt_val (pe_callB (call_isi_ K) (by rfl) B.isinstance_ (by decide +kernel) (pa_cons (pv 6) (pa_cons (pe_bltn (v := .ty "tuple") (by rfl) B.tuple_ (by decide +kernel) rfl) pa_nil))))) (pw_or (pt_cmpR op_ne (pe_callB (call_len_seq_ K) (by rfl) B.len_ (by decide +kernel) (pa_cons (pv 6) pa_nil)) (pv 5) (nomark _)) (pw_or1 (pt_not (pt_val (pe_call G__law_alike.ok (hr.mono (by first | decide | exact Nat.le_refl _)) (by rfl) G__law_alike.g G__law_alike.kp G__law_alike.b .nil pass0 (pa_cons (pe_callTy (call_list_of_ K) (by rfl) B.list_ (by decide +kernel) (pa_cons (pv 6) pa_nil)) (pa_cons (pe_callB cr_sortedTI (by rfl) B.sorted_ (by decide +kernel) (pa_cons (pv 6) pa_nil)) pa_nil)))))))))
      (pss_one (ps_ret pe_bl))
      pss_nil)
      (pss_cons (ps_if (PW.pt (pw_or (pt_cmpR op_gt (pe_callB (cr_maxT_ K rfl) (by rfl) B.max_ (by decide +kernel) (pa_cons (pv 6) pa_nil)) (pv 4) (nomark _)) (pw_or1 (pt_not (pt_val (pe_call G_is_whole.ok (hr.mono (by first | decide | exact Nat.le_refl _)) (by rfl) G_is_whole.g G_is_whole.kp G_is_whole.b .nil pass0 (pa_cons (pv 6) pa_nil)))))))
      (pss_one (ps_ret pe_bl))
      pss_nil)
      (pss_cons (ps_if (PW.pt (pw_and (pt_cmpR op_le (pe_callB (cr_maxT_ K rfl) (by rfl) B.max_ (by decide +kernel) (pa_cons (pv 7) pa_nil)) (pv 4) (nomark _)) (pw_and1 (pt_cmpR (op_neD_ K hr.units) (pe_call G_cost.ok (hr.mono (by first | decide | exact Nat.le_refl _)) (by rfl) G_cost.g G_cost.kp G_cost.b .nil pass0 (pa_cons (pv 6) (pa_cons (pv 3) pa_nil))) (pe_call G_cost.ok (hr.mono (by first | decide | exact Nat.le_refl _)) (by rfl) G_cost.g G_cost.kp G_cost.b .nil pass0 (pa_cons (pv 7) (pa_cons (pv 3) pa_nil))) (nomark _)))))
      (pss_one (ps_ret pe_bl))
      pss_nil)
      (pss_cons (ps_if (PW.pt (pw_or (pt_cmpR op_eq (pv 2) pe_int (nomark _)) (pw_or1 (pt_cmpR op_lt (pv 5) pe_int (nomark _)))))
      (pss_one (ps_if (pt_cmpR op_ne (pe_callB (cr_sum_ K rfl) (by rfl) B.sum_ (by decide +kernel) (pa_cons (pe_lc (own := [("_law_k", 10)]) (g := gName 10) (tt := tYes) rfl sc_law.nd (pi_range1 (by rfl) B.range_ (pa_cons (pv 5) pa_nil)) (blkOk_by (own := [("_law_k", 10)]) (N := ["_law_script", "_law_h", "_law_turn", "_law_ratio_here", "_law_most", "_law_count", "_law_found", "_law_best", "_law_weights_here", "_law_costs", "_law_k", "_law_row"]) (sc := defScope s_law) (by decide +kernel)) (fun _ _ _ _ _ => (pg_name (i := 10) sc_law.nd rfl (.inl rfl))) (fun _ _ _ _ _ => pts_nil) (fun _ _ _ _ _ => (pe_op op_mul (pe_ix (ix_list_ K) (pv 8) (pv 10) (fun _ _ => rfl)) (pe_ix (ix_tup_ K) (pv 6) (pv 10) (fun _ _ => rfl))))) pa_nil)) (pe_call G__law_least.ok (hr.mono (by first | decide | exact Nat.le_refl _)) (by rfl) G__law_least.g G__law_least.kp G__law_least.b .nil pass0 (pa_cons (pv 8) (pa_cons (pv 4) pa_nil))) (nomark _))
      (pss_one (ps_ret pe_bl))
      pss_nil))
      pss_nil)
      (pss_one (ps_if (PW.pt (pw_and (pt_cmpR op_lt (pv 5) pe_int (nomark _)) (pw_and1 (pt_cmpR op_lt (pv 4) pe_int (nomark _)))))
      (pss_cons (ps_setLc (i := 9) (own := [("_law_row", 11)]) (g := gName 11) (tt := tYes) rfl sc_law.nd rfl rfl (sw_true rfl rfl rfl (by decide +kernel)) (pi_list (pe_call G__law_all.ok (hr.mono (by first | decide | exact Nat.le_refl _)) (by rfl) G__law_all.g G__law_all.kp G__law_all.b .nil pass0 (pa_cons (pv 5) (pa_cons (pv 4) pa_nil)))) (blkOk_by (own := [("_law_row", 11)]) (N := ["_law_script", "_law_h", "_law_turn", "_law_ratio_here", "_law_most", "_law_count", "_law_found", "_law_best", "_law_weights_here", "_law_costs", "_law_k", "_law_row"]) (sc := defScope s_law) (by decide +kernel)) (fun _ _ _ _ _ => (pg_name (i := 11) sc_law.nd rfl (.inr rfl))) (fun _ _ _ _ _ => pts_nil) (fun _ _ _ _ _ => (pe_callB (cr_sum_ K rfl) (by rfl) B.sum_ (by decide +kernel) (pa_cons (pe_lc (own := [("_law_k", 10)]) (g := gName 10) (tt := tYes) rfl sc_law.nd (pi_range1 (by rfl) B.range_ (pa_cons (pv 5) pa_nil)) (blkOk_by (own := [("_law_k", 10)]) (N := ["_law_script", "_law_h", "_law_turn", "_law_ratio_here", "_law_most", "_law_count", "_law_found", "_law_best", "_law_weights_here", "_law_costs", "_law_k", "_law_row"]) (sc := _) (by rfl)) (fun _ _ _ _ _ => (pg_name (i := 10) sc_law.nd rfl (.inl rfl))) (fun _ _ _ _ _ => pts_nil) (fun _ _ _ _ _ => (pe_op op_mul (pe_ix (ix_list_ K) (pv 8) (pv 10) (fun _ _ => rfl)) (pe_ix (ix_tup_ K) (pv 11) (pv 10) (fun _ _ => rfl))))) pa_nil))))
      (pss_one (ps_if (pt_cmpR op_ne (pe_callB (cr_sum_ K rfl) (by rfl) B.sum_ (by decide +kernel) (pa_cons (pe_lc (own := [("_law_k", 10)]) (g := gName 10) (tt := tYes) rfl sc_law.nd (pi_range1 (by rfl) B.range_ (pa_cons (pv 5) pa_nil)) (blkOk_by (own := [("_law_k", 10)]) (N := ["_law_script", "_law_h", "_law_turn", "_law_ratio_here", "_law_most", "_law_count", "_law_found", "_law_best", "_law_weights_here", "_law_costs", "_law_k", "_law_row"]) (sc := defScope s_law) (by decide +kernel)) (fun _ _ _ _ _ => (pg_name (i := 10) sc_law.nd rfl (.inl rfl))) (fun _ _ _ _ _ => pts_nil) (fun _ _ _ _ _ => (pe_op op_mul (pe_ix (ix_list_ K) (pv 8) (pv 10) (fun _ _ => rfl)) (pe_ix (ix_tup_ K) (pv 6) (pv 10) (fun _ _ => rfl))))) pa_nil)) (pe_callB (cr_min_ K rfl) (by rfl) B.min_ (by decide +kernel) (pa_cons (pv 9) pa_nil)) (nomark _))
      (pss_one (ps_ret pe_bl))
      pss_nil)))
      pss_nil))))))
      pss_nil))))))))
      (pss_one (ps_ret pe_bl)))), ?_⟩
  refine ⟨_, rfl, a, ns, 8, rfl, hS, hlen, fun h q H1 s1 n1 n2 L1 => ?_⟩
  refine ⟨4, rfl, by decide, by decide, for_range (lo := 0) (n := 4) (fun i σ H2 => ∃ v2 v3 v4 v5 v6 v7 v8 v9 v10 v11, σ = [some (.ref a), some (.ref h), v2, v3, v4, v5, v6, v7, v8, v9, v10, v11] ∧ LawH H2 h q) ⟨_, _, _, _, _, _, _, _, _, _, rfl, L1⟩ ?_ ?_⟩
  rotate_left
  · rintro σ H2 ⟨v2, v3, v4, v5, v6, v7, v8, v9, v10, v11, rfl, L2⟩
    exact k H2
  rintro i σ H2 hi ⟨v2, v3, v4, v5, v6, v7, v8, v9, v10, v11, rfl, L2⟩
  -- ratio, most, count
  refine ⟨_, rfl, h, q, rfl, L2, fun r x y H3 hr0 L3 S3 er => ?_⟩
  refine ⟨_, rfl, _, rfl, (by show 2 ≤ sizeLine; omega), fun t nt => pickI L3 nt (fun z => by cases z) (by show 2 ≤ 1000; decide) fun z hz H4 L4 S4 => ?_⟩
  obtain ⟨c1, rfl, c2, c3⟩ : ∃ c : Nat, z = .int (c : Int) ∧ 1 ≤ c ∧ c ≤ 12 := by
    simp only [List.mem_cons, List.not_mem_nil, or_false] at hz
    rcases hz with rfl | rfl <;> exact ⟨_, rfl, by decide, by decide⟩
  refine ⟨h, q, c1, rfl, L4, by omega, by omega, fun z' H5 y0 y1 L5 S5 => ?_⟩
  obtain ⟨m, em⟩ : ∃ m : Nat, (1 : Int) + z' = (m : Int) := ⟨1 + z'.toNat, by omega⟩
  have hm1 : 1 ≤ m := by omega
  have hm : m ≤ 12 := by omega
  obtain ⟨g1, g2⟩ := L3.tup_ne er
  have er := S5 _ _ (S4 _ _ er g1 g2) g1 g2
  refine ⟨_, _, rfl, rfl, _, _, rfl, ?_⟩
  refine to_next (σ' := [some (.ref a), some (.ref h), some (.int (0 + (i : Int))), some (.ref r), some (.int (m : Nat)), v5, v6, v7, v8, v9, v10, v11]) (by rw [← em]; rfl) ?_
  clear S3 S4 S5 L4 L3 nt hz y0 y1 c2 c3 em
  refine ⟨_, rfl, _, rfl, (by show 2 ≤ sizeLine; omega), fun t2 nt2 => pickI L5 nt2 (fun z => by cases z) (by show 2 ≤ 1000; decide) fun z2 hz2 H6 L6 S6 => ?_⟩
  obtain ⟨c2, rfl, c3, c4⟩ : ∃ c : Nat, z2 = .int (c : Int) ∧ 1 ≤ c ∧ c ≤ 40 := by
    simp only [List.mem_cons, List.not_mem_nil, or_false] at hz2
    rcases hz2 with rfl | rfl <;> exact ⟨_, rfl, by decide, by decide⟩
  refine ⟨h, q, c2, rfl, L6, by omega, by omega, fun z' H7 y0 y1 L7 S7 => ?_⟩
  obtain ⟨c, ec⟩ : ∃ c : Nat, (1 : Int) + z' = (c : Int) := ⟨1 + z'.toNat, by omega⟩
  have hc1 : 1 ≤ c := by omega
  have hc : c ≤ 40 := by omega
  have er := S7 _ _ (S6 _ _ er g1 g2) g1 g2
  have hR : ∀ {H' : Hp}, Same H7 H' → SqT K H' r [.int (x : Nat), .int (y : Nat)] := fun s => .inl (.inl (s _ _ er))
  refine ⟨_, _, rfl, rfl, ?_⟩
  refine to_next (σ' := [some (.ref a), some (.ref h), some (.int (0 + (i : Int))), some (.ref r), some (.int (m : Nat)), some (.int (c : Nat)), v6, v7, v8, v9, v10, v11]) (by rw [← ec]; rfl) ?_
  clear S6 S7 L6 L5 nt2 hz2 y0 y1 c3 c4 ec
  have hp1 := hr0.p1
  have hpq := hr0.pq
  refine ⟨_, rfl, _, rfl, _, rfl, r, x, y, c, m, rfl, hR (Same.refl _), hr0, hc1, hc, hm1, hm, fun hlt H8 s8 => ?_, fun hle T ls H8 hp hs s8 eT => ?_⟩
  · refine ⟨_, rfl, _, rfl, r, x, y, c, rfl, hR s8, hr0, hc1, hc, fun T2 bs H9 hpb hsb s9 eT2 => ?_⟩
    refine ⟨(by show 2 ≤ sizeLine; omega), fun U nU => ?_⟩
    refine ⟨U, _, rfl, .inl (.inl upd_same), rfl, _, _, rfl, _, _, rfl, rfl, ?_⟩
    have S10 := s8.trans (s9.trans (same_new nU (.tup [.non, .ref T2])))
    generalize upd H9 U (.tup [.non, .ref T2]) = H10 at *
    refine ⟨_, rfl, _, rfl, r, x, y, c, rfl, hR S10, hr0, hc1, hc, fun Z H11 s11 nZ eZ => ?_⟩
    refine ⟨_, rfl, _, rfl, _, rfl, m, rfl, by omega, _, _, rfl, rfl, rfl, _, rfl, iteNF ?_ ?_⟩
    · rw [decide_eq_true (rfl : V.non = V.non)]
      show V.bl true = V.bl (decide (((2 ^ m : Nat) : Int) < (c : Int)))
      rw [decide_eq_true (Int.ofNat_lt.mpr hlt)]
    refine ⟨_, rfl, _, rfl, iteNF rfl ?_⟩
    exact ⟨_, _, _, _, _, _, _, _, _, _, rfl, L7.same (S10.trans s11)⟩
  have hWpos := wt_pos (c := c) hp1 hpq
  have LF := lim_is (W := wtF x y c) (fun i => Int.le_of_lt (hWpos i)) (fun k hk => wt_fall hpq hk) hc1 hm1 hle hp hs
  have hwh := LF.whole hWpos hc1 hs
  have hlow := LF.low
  have hL : IsLens ls := ⟨by rw [LF.len]; exact hc1, by rw [LF.len]; exact hc, fun l hl => by have := hlow l hl; omega⟩
  have hroom : roomN ls = 2 ^ 60 := by
    show krf 60 ls = 2 ^ 60
    rw [krf_60 (by omega) hlow, hwh, ← Nat.pow_add]
    congr 1
    omega
  refine ⟨_, rfl, _, rfl, r, x, y, c, rfl, hR s8, hr0, hc1, hc, fun T2 bs H9 hpb hsb s9 eT2 => ?_⟩
  have B := best_is hp1 hpq hc1 hc hpb hsb
  refine ⟨(by show 2 ≤ sizeLine; omega), fun U nU => ?_⟩
  refine ⟨U, _, rfl, .inl (.inl upd_same), rfl, _, _, rfl, _, _, rfl, rfl, ?_⟩
  have s10 := same_new nU (.tup [.ref T, .ref T2])
  have S10 := s8.trans (s9.trans s10)
  have eT := s10 _ _ (s9 _ _ eT)
  have eT2 := s10 _ _ eT2
  generalize upd H9 U (.tup [.ref T, .ref T2]) = H10 at *
  refine ⟨_, rfl, _, rfl, r, x, y, c, rfl, hR S10, hr0, hc1, hc, fun Z H11 s11 nZ eZ => ?_⟩
  have S11 := S10.trans s11
  have eT := s11 _ _ eT
  have eT2 := s11 _ _ eT2
  have L11 := L7.same S11
  have er11 := S11 _ _ er
  clear s8 s9 s10 s11 nU hR S10 S11 nZ
  have hT : ∀ {H' : Hp}, Same H11 H' → SqT K H' T (ls.map fun n => V.int (n : Nat)) := fun s => .inl (.inl (s _ _ eT))
  have hT2 : ∀ {H' : Hp}, Same H11 H' → SqT K H' T2 (bs.map fun n => V.int (n : Nat)) := fun s => .inl (.inl (s _ _ eT2))
  have hR : ∀ {H' : Hp}, Same H11 H' → SqT K H' r [.int (x : Nat), .int (y : Nat)] := fun s => .inl (.inl (s _ _ er11))
  have eints : ∀ ls : List Nat, (ls.map fun n => V.int (n : Nat)) = (ls.map fun n => ((n : Nat) : Int)).map V.int := fun ls => by rw [List.map_map]; rfl
  have eZ : H11 Z = some (.lst ((List.range c).map fun i => V.int (wtN x y c i : Nat))) := by
    rw [eZ]
    unfold wtsV
    rw [wtF_N]
  refine to_next (σ' := [some (.ref a), some (.ref h), some (.int (0 + (i : Int))), some (.ref r), some (.int (m : Nat)), some (.int (c : Nat)), some (.ref T), some (.ref T2), some (.ref Z), v9, v10, v11]) rfl ?_
  refine ⟨_, rfl, _, rfl, _, rfl, m, rfl, by omega, _, _, rfl, rfl, rfl, _, rfl, iteNF ?_ ?_⟩
  · have e1 : ¬ (V.ref T = V.non) := fun z => V.noConfusion z
    have e2 : ¬ (((2 ^ m : Nat) : Int) < (c : Int)) := fun z => by have := Int.ofNat_lt.mp z; omega
    show V.bl (decide (V.ref T = V.non)) = V.bl (decide (((2 ^ m : Nat) : Int) < (c : Int)))
    rw [decide_eq_false e1, decide_eq_false e2]
  refine ⟨_, rfl, _, rfl, iteND (fun z => by cases z) ?_⟩
  -- a rising tuple
  refine ⟨_, rfl, _, _, _, _, true, rfl, .ty _, tyT (hT (Same.refl _)), kit_ty (by decide +kernel), _, rfl, iteF ?_⟩
  refine ⟨_, rfl, T, _, rfl, .inr (hT (Same.refl _)), _, rfl, rfl, _, rfl, iteNF (by rw [List.length_map, LF.len]) ?_⟩
  refine ⟨_, rfl, T, _, rfl, .inr (hT (Same.refl _)), fun Lf nL => ?_⟩
  have s12 := same_new nL (.lst (ls.map fun n => V.int (n : Nat)))
  have hT12 : SqT K (upd H11 Lf (.lst (ls.map fun n => V.int (n : Nat)))) T ((ls.map fun n => ((n : Nat) : Int)).map V.int) := eints ls ▸ hT s12
  refine ⟨_, rfl, T, _, rfl, hT12, by rw [List.length_map, LF.len]; omega, fun ns' p perm pw np => ?_⟩
  have ens : ns' = ls.map fun n => ((n : Nat) : Int) := int_uniq pw (List.pairwise_map.mpr (hs.imp fun h => Int.ofNat_le.mpr h)) perm
  rw [ens, ← eints ls]
  have s13 := same_new np (.lst (ls.map fun n => V.int (n : Nat)))
  refine ⟨_, _, .list (ls.map fun n => .int (n : Nat)), 4, rfl, rfl, .lst (.inl (.inl (s13 _ _ upd_same))) (dp_nats ls), .lst (.inl (.inl upd_same)) (dp_nats ls), okd_list (by rw [List.length_map, LF.len]; omega) (okA_nats ls), fun H14 s14 => ⟨_, rfl, iteF ?_⟩⟩
  have S14 := s12.trans (s13.trans s14)
  clear s12 s13 s14 hT12 nL np ens perm pw
  -- within the limit, and whole
  refine ⟨_, rfl, T, _, rfl, eints ls ▸ hT S14, by rw [List.length_map, LF.len]; omega, fun M hM _ => ?_⟩
  obtain ⟨l0, hl0, rfl⟩ := List.mem_map.mp hM
  have hl0m := hlow l0 hl0
  refine ⟨_, rfl, _, _, rfl, rfl, _, rfl, iteDF (by omega) ?_⟩
  refine ⟨_, rfl, T, ls, rfl, hT S14, hL, by rw [hroom]; exact Nat.le_refl _, fun H16 s16 => ?_⟩
  rw [decide_eq_true hroom]
  refine ⟨_, rfl, iteF ?_⟩
  have S16 := S14.trans s16
  clear hM s16 S14
  -- the cost of the best
  refine seq_anyN (fun H' => Same H11 H') (fun D' hD' => ?_) (fun H17 S17 => ?_)
  · refine ⟨_, rfl, T2, _, rfl, eints bs ▸ hT2 S16, by rw [List.length_map, B.len]; omega, fun M hM hMle => ?_⟩
    refine ⟨_, rfl, _, _, rfl, rfl, _, rfl, ?_⟩
    by_cases hMm : M ≤ (m : Int)
    · refine iteDT hMm ?_
      have hbm : ∀ l ∈ bs, l ≤ m := fun l hl => by
        have := hMle _ (List.mem_map.mpr ⟨l, hl, rfl⟩)
        omega
      have hbL : IsLens bs := ⟨by rw [B.len]; exact hc1, by rw [B.len]; exact hc, fun l hl => by have := hbm l hl; omega⟩
      have hbk : krf m bs ≤ 2 ^ m := by
        have e1 := krf_60 (show m ≤ 60 by omega) hbm
        rw [B.whole, show 60 = (60 - m) + m by omega, Nat.pow_add, Nat.add_sub_cancel] at e1
        exact Nat.le_of_eq (Nat.eq_of_mul_eq_mul_left (Nat.pow_pos (by decide)) e1).symm
      have hsum : (prodZ (wtF x y c) 0 ls).sum = (prodZ (wtF x y c) 0 bs).sum :=
        Int.le_antisymm (LF.least bs B.len hbm hbk) (best_least hp1 hpq B LF.len (fun l hl => by have := hlow l hl; omega) (Nat.le_of_eq hroom))
      have ecost : costR x y bs = costR x y ls := by
        unfold costR
        rw [B.len, LF.len, hsum]
      refine ⟨_, rfl, _, rfl, T, r, x, y, ls, rfl, hT S16, hL, hR S16, hr0, fun f1 H17 s17 nf1 R1 => ?_⟩
      refine ⟨_, rfl, _, rfl, T2, r, x, y, bs, rfl, hT2 (S16.trans s17), hbL, hR (S16.trans s17), hr0, fun f2 H18 s18 nf2 R2 => ?_⟩
      rw [ecost] at R2
      refine ⟨_, _, dp_rat (R1.same s18), dp_rat R2, ok_shaped (ok_rat 3 _) (by decide), ok_shaped (ok_rat 3 _) (by decide), _, rfl, ?_⟩
      have ee : (!PyData.eqv (ratD (costR x y ls)) (ratD (costR x y ls))) = false := by simp [ratD, PyData.eqv, PyData.eqvAll]
      rw [ee]
      exact iteF (hD' _ (S16.trans (s17.trans s18)))
    · exact iteDF hMm (iteF (hD' _ S16))
  clear S16
  have eW := wtF_N x y c
  have hle' : ∀ ms : List Nat, ms.length = c → (∀ l ∈ ms, l ≤ m) → krf m ms ≤ 2 ^ m → costN (wtN x y c) 0 ls ≤ costN (wtN x y c) 0 ms := fun ms h1 h2 h3 => by
    have := LF.least ms h1 h2 h3
    rw [eW, cost_prod, cost_prod] at this
    exact Int.ofNat_le.mp this
  have hl60 : ∀ l ∈ ls, l ≤ 60 := hL.l60
  -- the least of all
  refine seq_any (fun H' => Same H11 H') (fun D' hD' => ?_) (fun H18 S18 => ?_)
  · have hpay : Pay (wtN x y c) c (m + 1) 0 1 (costN (wtN x y c) 0 ls) := lens_pay m 0 1 ls (by rw [LF.len, Nat.zero_add]) hs hlow (by rw [Nat.one_mul]; exact LF.room)
    refine ⟨_, rfl, rfl, _, rfl, ?_⟩
    refine ite_both (iteT ?_) ⟨_, rfl, _, _, rfl, rfl, _, rfl, ite_both ?_ (hD' _ S17)⟩
    all_goals
      show tCB (rSum K) _ _ _ _
      refine dot_walk (rr := 6) (Z := Z) (T := T) (W := wtN x y c) (ls := ls) (fun _ => rfl) (S17 _ _ eZ) (hT S17) LF.len hc hl60 fun H18 s18 => ?_
      refine ⟨_, rfl, _, rfl, Z, wtN x y c, c, m, rfl, .inl (.inl (s18 _ _ (S17 _ _ eZ))), hc1, hc, hm, ⟨_, hpay⟩, fun b H19 s19 hb hbl => ?_⟩
      have eb : b = costN (wtN x y c) 0 ls := by
        refine Nat.le_antisymm (hbl _ hpay) ?_
        obtain ⟨ms, h1, h2, h3, h4⟩ := pay_lens hb
        rw [Nat.zero_add] at h1
        rw [Nat.one_mul, Nat.add_sub_cancel] at h3
        rw [← h4]
        exact hle' ms h1 (fun l hl => by have := h2 l hl; omega) h3
      subst eb
      exact ⟨rfl, _, rfl, iteNF rfl (hD' _ (S17.trans (s18.trans s19)))⟩
  -- against all
  refine ⟨_, rfl, _, _, rfl, rfl, _, rfl, ?_⟩
  by_cases h7 : (c : Int) < 7
  rotate_left
  · exact iteDF h7 (iteF ⟨_, _, _, _, _, _, _, _, _, _, rfl, L11.same S18⟩)
  refine iteDT h7 ⟨_, rfl, _, _, rfl, rfl, _, rfl, ?_⟩
  by_cases h6 : (m : Int) < 6
  rotate_left
  · exact iteDF h6 ⟨_, _, _, _, _, _, _, _, _, _, rfl, L11.same S18⟩
  refine iteDT h6 ?_
  refine ⟨_, rfl, _, rfl, c, m, rfl, by omega, by omega, fun D ts H19 s19 nD eD hR19 => ?_⟩
  have S19 := S18.trans s19
  have hvl : (validL m c).length ≤ 46656 := Nat.le_trans (List.length_filter_le _ _) (Nat.le_trans (allL_len (by omega) c) (Nat.le_trans (Nat.pow_le_pow_right (by decide) (show c ≤ 6 by omega)) (by decide)))
  refine ⟨D, rfl, ⟨_, .inl (.inl eD)⟩, fun G nG => ?_⟩
  refine lc_list (K := K) (a := D) (xs := ts.map V.ref) (fun j H' => Same H19 H' ∧ H' G = some (.lst ((((validL m c).take j).map fun r => ((costN (wtN x y c) 0 r : Nat) : Int)).map V.int))) ⟨same_new nG _, upd_same⟩ (fun j H' _ h => .inl (.inl (h.1 _ _ eD))) ?_ ?_
  · rintro j z H20 hz ⟨s20, eG⟩
    rw [List.getElem?_map] at hz
    obtain ⟨t, ht, rfl⟩ : ∃ t, ts[j]? = some t ∧ z = V.ref t := by
      cases e : ts[j]? with
      | none => rw [e] at hz; cases hz
      | some t => rw [e] at hz; exact ⟨t, rfl, (Option.some.inj hz).symm⟩
    obtain ⟨rw, hrw, hq⟩ := hR19.get ht
    have hmem : rw ∈ allL m c := (List.mem_filter.mp (List.mem_of_getElem? hrw)).1
    obtain ⟨rl, rp, rm⟩ := (mem_allL m c rw).mp hmem
    refine ⟨rfl, ?_⟩
    refine yes_walk (iteT ?_)
    show tCB (rSum K) _ [some (.ref a), some (.ref h), some (.int (0 + (i : Int))), some (.ref r), some (.int (m : Nat)), some (.int (c : Nat)), some (.ref T), some (.ref T2), some (.ref Z), v9, v10, some (.ref t)] _ _
    refine dot_walk (rr := 11) (Z := Z) (T := t) (W := wtN x y c) (ls := rw) (fun _ => rfl) (s20 _ _ (S19 _ _ eZ)) (Same.seqT s20 hq) rl hc (fun l hl => by have := rm l hl; omega) fun H21 s21 => ?_
    refine ⟨_, s21 _ _ eG, ?_, fun b o hb => ?_, ?_⟩
    · rw [List.length_map, List.length_map, List.length_take]
      omega
    · rw [upd_ne (ne_of_none hb nG)]
      exact s21 _ _ (s20 _ _ hb)
    · rw [upd_same, take_more hrw, List.map_append, List.map_append]
      rfl
  rintro H20 ⟨s20, eG⟩
  rw [List.length_map, hR19.len, List.take_length] at eG
  have S20 := S19.trans s20
  refine to_next (σ' := [some (.ref a), some (.ref h), some (.int (0 + (i : Int))), some (.ref r), some (.int (m : Nat)), some (.int (c : Nat)), some (.ref T), some (.ref T2), some (.ref Z), some (.ref G), v10, v11]) rfl ?_
  refine nx_if ?_
  refine op_walk ?_
  refine dot_walk (rr := 6) (Z := Z) (T := T) (W := wtN x y c) (ls := ls) (fun _ => rfl) (S20 _ _ eZ) (hT S20) LF.len hc hl60 fun H21 s21 => ?_
  have hmine : ls ∈ validL m c := List.mem_filter.mpr ⟨(mem_allL m c ls).mpr ⟨LF.len, hs, hlow⟩, decide_eq_true LF.room⟩
  refine ⟨_, rfl, G, _, rfl, .inl (.inl (s21 _ _ eG)), (by rw [List.length_map]; exact List.length_pos_of_mem hmine), fun M hM hMl => ?_⟩
  have eM : M = ((costN (wtN x y c) 0 ls : Nat) : Int) := by
    refine Int.le_antisymm (hMl _ (List.mem_map.mpr ⟨ls, hmine, rfl⟩)) ?_
    obtain ⟨ms, hms, rfl⟩ := List.mem_map.mp hM
    obtain ⟨h1, h2⟩ := List.mem_filter.mp hms
    obtain ⟨g1, _, g3⟩ := (mem_allL m c ms).mp h1
    exact Int.ofNat_le.mpr (hle' ms g1 g3 (of_decide_eq_true h2))
  subst eM
  exact ⟨rfl, _, rfl, iteNF rfl ⟨_, _, _, _, _, _, _, _, _, _, rfl, L11.same (S20.trans s21)⟩⟩
end
end St
namespace St
open PySem PySem.Spec PyProof.Rows L2
theorem all_mk {l : PySem.W.OpenLaw} {w : World} {K : PySem.W.Frag} {h : Heap} {mg : Str → Option Value} {fa : Addr} (X : K.In h) (G : h.Ns mainGlobals mg) (hfa : mg "law" = some (.ref fa))
    {f0 : Addr} {od0 an0 : Option Addr} {sl0 : Array (Option Value)} {oc0 kV0 dc0 pm0 cd0 ct0 : Value}
    (a0 : PySem.W.nsIn K mainGlobals "_law_mix" = some (some (.ref f0))) (l0 : K.lookup f0 = some ⟨oc0, od0, .func (PySem.W.fnOf "_law_mix" "_law_mix" (defArgs s__law_mix) (defBody s__law_mix) (defScope s__law_mix) .none kV0 dc0 pm0 an0 cd0 ct0), sl0⟩) (c0 : PySem.W.codeIn K cd0 "_law_mix" = true) (k0 : PySem.W.keepIn K (.ref f0) = true)
    {f1 : Addr} {od1 an1 : Option Addr} {sl1 : Array (Option Value)} {oc1 kV1 dc1 pm1 cd1 ct1 : Value}
    (a1 : PySem.W.nsIn K mainGlobals "_law_weights" = some (some (.ref f1))) (l1 : K.lookup f1 = some ⟨oc1, od1, .func (PySem.W.fnOf "_law_weights" "_law_weights" (defArgs s__law_weights) (defBody s__law_weights) (defScope s__law_weights) .none kV1 dc1 pm1 an1 cd1 ct1), sl1⟩) (c1 : PySem.W.codeIn K cd1 "_law_weights" = true) (k1 : PySem.W.keepIn K (.ref f1) = true)
    {f2 : Addr} {od2 an2 : Option Addr} {sl2 : Array (Option Value)} {oc2 kV2 dc2 pm2 cd2 ct2 : Value}
    (a2 : PySem.W.nsIn K mainGlobals "_law_next" = some (some (.ref f2))) (l2 : K.lookup f2 = some ⟨oc2, od2, .func (PySem.W.fnOf "_law_next" "_law_next" (defArgs s__law_next) (defBody s__law_next) (defScope s__law_next) .none kV2 dc2 pm2 an2 cd2 ct2), sl2⟩) (c2 : PySem.W.codeIn K cd2 "_law_next" = true) (k2 : PySem.W.keepIn K (.ref f2) = true)
    {f3 : Addr} {od3 an3 : Option Addr} {sl3 : Array (Option Value)} {oc3 kV3 dc3 pm3 cd3 ct3 : Value}
    (a3 : PySem.W.nsIn K mainGlobals "_law_pick" = some (some (.ref f3))) (l3 : K.lookup f3 = some ⟨oc3, od3, .func (PySem.W.fnOf "_law_pick" "_law_pick" (defArgs s__law_pick) (defBody s__law_pick) (defScope s__law_pick) .none kV3 dc3 pm3 an3 cd3 ct3), sl3⟩) (c3 : PySem.W.codeIn K cd3 "_law_pick" = true) (k3 : PySem.W.keepIn K (.ref f3) = true)
    {f4 : Addr} {od4 an4 : Option Addr} {sl4 : Array (Option Value)} {oc4 kV4 dc4 pm4 cd4 ct4 : Value}
    (a4 : PySem.W.nsIn K mainGlobals "_law_ratio" = some (some (.ref f4))) (l4 : K.lookup f4 = some ⟨oc4, od4, .func (PySem.W.fnOf "_law_ratio" "_law_ratio" (defArgs s__law_ratio) (defBody s__law_ratio) (defScope s__law_ratio) .none kV4 dc4 pm4 an4 cd4 ct4), sl4⟩) (c4 : PySem.W.codeIn K cd4 "_law_ratio" = true) (k4 : PySem.W.keepIn K (.ref f4) = true)
    {f5 : Addr} {od5 an5 : Option Addr} {sl5 : Array (Option Value)} {oc5 kV5 dc5 pm5 cd5 ct5 : Value}
    (a5 : PySem.W.nsIn K mainGlobals "is_integer" = some (some (.ref f5))) (l5 : K.lookup f5 = some ⟨oc5, od5, .func (PySem.W.fnOf "is_integer" "is_integer" (defArgs s_is_integer) (defBody s_is_integer) (defScope s_is_integer) .none kV5 dc5 pm5 an5 cd5 ct5), sl5⟩) (c5 : PySem.W.codeIn K cd5 "is_integer" = true) (k5 : PySem.W.keepIn K (.ref f5) = true)
    {f6 : Addr} {od6 an6 : Option Addr} {sl6 : Array (Option Value)} {oc6 kV6 dc6 pm6 cd6 ct6 : Value}
    (a6 : PySem.W.nsIn K mainGlobals "is_ratio" = some (some (.ref f6))) (l6 : K.lookup f6 = some ⟨oc6, od6, .func (PySem.W.fnOf "is_ratio" "is_ratio" (defArgs s_is_ratio) (defBody s_is_ratio) (defScope s_is_ratio) .none kV6 dc6 pm6 an6 cd6 ct6), sl6⟩) (c6 : PySem.W.codeIn K cd6 "is_ratio" = true) (k6 : PySem.W.keepIn K (.ref f6) = true)
    {f7 : Addr} {od7 an7 : Option Addr} {sl7 : Array (Option Value)} {oc7 kV7 dc7 pm7 cd7 ct7 : Value}
    (a7 : PySem.W.nsIn K mainGlobals "check_ratio" = some (some (.ref f7))) (l7 : K.lookup f7 = some ⟨oc7, od7, .func (PySem.W.fnOf "check_ratio" "check_ratio" (defArgs s_check_ratio) (defBody s_check_ratio) (defScope s_check_ratio) .none kV7 dc7 pm7 an7 cd7 ct7), sl7⟩) (c7 : PySem.W.codeIn K cd7 "check_ratio" = true) (k7 : PySem.W.keepIn K (.ref f7) = true)
    {f8 : Addr} {od8 an8 : Option Addr} {sl8 : Array (Option Value)} {oc8 kV8 dc8 pm8 cd8 ct8 : Value}
    (a8 : PySem.W.nsIn K mainGlobals "check_count" = some (some (.ref f8))) (l8 : K.lookup f8 = some ⟨oc8, od8, .func (PySem.W.fnOf "check_count" "check_count" (defArgs s_check_count) (defBody s_check_count) (defScope s_check_count) .none kV8 dc8 pm8 an8 cd8 ct8), sl8⟩) (c8 : PySem.W.codeIn K cd8 "check_count" = true) (k8 : PySem.W.keepIn K (.ref f8) = true)
    {f9 : Addr} {od9 an9 : Option Addr} {sl9 : Array (Option Value)} {oc9 kV9 dc9 pm9 cd9 ct9 : Value}
    (a9 : PySem.W.nsIn K mainGlobals "power_of_two" = some (some (.ref f9))) (l9 : K.lookup f9 = some ⟨oc9, od9, .func (PySem.W.fnOf "power_of_two" "power_of_two" (defArgs s_power_of_two) (defBody s_power_of_two) (defScope s_power_of_two) .none kV9 dc9 pm9 an9 cd9 ct9), sl9⟩) (c9 : PySem.W.codeIn K cd9 "power_of_two" = true) (k9 : PySem.W.keepIn K (.ref f9) = true)
    {f10 : Addr} {od10 an10 : Option Addr} {sl10 : Array (Option Value)} {oc10 kV10 dc10 pm10 cd10 ct10 : Value}
    (a10 : PySem.W.nsIn K mainGlobals "chance_weights" = some (some (.ref f10))) (l10 : K.lookup f10 = some ⟨oc10, od10, .func (PySem.W.fnOf "chance_weights" "chance_weights" (defArgs s_chance_weights) (defBody s_chance_weights) (defScope s_chance_weights) .none kV10 dc10 pm10 an10 cd10 ct10), sl10⟩) (c10 : PySem.W.codeIn K cd10 "chance_weights" = true) (k10 : PySem.W.keepIn K (.ref f10) = true)
    {f11 : Addr} {od11 an11 : Option Addr} {sl11 : Array (Option Value)} {oc11 kV11 dc11 pm11 cd11 ct11 : Value}
    (a11 : PySem.W.nsIn K mainGlobals "limited_lengths" = some (some (.ref f11))) (l11 : K.lookup f11 = some ⟨oc11, od11, .func (PySem.W.fnOf "limited_lengths" "limited_lengths" (defArgs s_limited_lengths) (defBody s_limited_lengths) (defScope s_limited_lengths) .none kV11 dc11 pm11 an11 cd11 ct11), sl11⟩) (c11 : PySem.W.codeIn K cd11 "limited_lengths" = true) (k11 : PySem.W.keepIn K (.ref f11) = true)
    {f12 : Addr} {od12 an12 : Option Addr} {sl12 : Array (Option Value)} {oc12 kV12 dc12 pm12 cd12 ct12 : Value}
    (a12 : PySem.W.nsIn K mainGlobals "best_lengths" = some (some (.ref f12))) (l12 : K.lookup f12 = some ⟨oc12, od12, .func (PySem.W.fnOf "best_lengths" "best_lengths" (defArgs s_best_lengths) (defBody s_best_lengths) (defScope s_best_lengths) .none kV12 dc12 pm12 an12 cd12 ct12), sl12⟩) (c12 : PySem.W.codeIn K cd12 "best_lengths" = true) (k12 : PySem.W.keepIn K (.ref f12) = true)
    {f13 : Addr} {od13 an13 : Option Addr} {sl13 : Array (Option Value)} {oc13 kV13 dc13 pm13 cd13 ct13 : Value}
    (a13 : PySem.W.nsIn K mainGlobals "_law_double" = some (some (.ref f13))) (l13 : K.lookup f13 = some ⟨oc13, od13, .func (PySem.W.fnOf "_law_double" "_law_double" (defArgs s__law_double) (defBody s__law_double) (defScope s__law_double) .none kV13 dc13 pm13 an13 cd13 ct13), sl13⟩) (c13 : PySem.W.codeIn K cd13 "_law_double" = true) (k13 : PySem.W.keepIn K (.ref f13) = true)
    {f14 : Addr} {od14 an14 : Option Addr} {sl14 : Array (Option Value)} {oc14 kV14 dc14 pm14 cd14 ct14 : Value}
    (a14 : PySem.W.nsIn K mainGlobals "_law_alike" = some (some (.ref f14))) (l14 : K.lookup f14 = some ⟨oc14, od14, .func (PySem.W.fnOf "_law_alike" "_law_alike" (defArgs s__law_alike) (defBody s__law_alike) (defScope s__law_alike) .none kV14 dc14 pm14 an14 cd14 ct14), sl14⟩) (c14 : PySem.W.codeIn K cd14 "_law_alike" = true) (k14 : PySem.W.keepIn K (.ref f14) = true)
    {f15 : Addr} {od15 an15 : Option Addr} {sl15 : Array (Option Value)} {oc15 kV15 dc15 pm15 cd15 ct15 : Value}
    (a15 : PySem.W.nsIn K mainGlobals "check_lengths" = some (some (.ref f15))) (l15 : K.lookup f15 = some ⟨oc15, od15, .func (PySem.W.fnOf "check_lengths" "check_lengths" (defArgs s_check_lengths) (defBody s_check_lengths) (defScope s_check_lengths) .none kV15 dc15 pm15 an15 cd15 ct15), sl15⟩) (c15 : PySem.W.codeIn K cd15 "check_lengths" = true) (k15 : PySem.W.keepIn K (.ref f15) = true)
    {f16 : Addr} {od16 an16 : Option Addr} {sl16 : Array (Option Value)} {oc16 kV16 dc16 pm16 cd16 ct16 : Value}
    (a16 : PySem.W.nsIn K mainGlobals "room_left" = some (some (.ref f16))) (l16 : K.lookup f16 = some ⟨oc16, od16, .func (PySem.W.fnOf "room_left" "room_left" (defArgs s_room_left) (defBody s_room_left) (defScope s_room_left) .none kV16 dc16 pm16 an16 cd16 ct16), sl16⟩) (c16 : PySem.W.codeIn K cd16 "room_left" = true) (k16 : PySem.W.keepIn K (.ref f16) = true)
    {f17 : Addr} {od17 an17 : Option Addr} {sl17 : Array (Option Value)} {oc17 kV17 dc17 pm17 cd17 ct17 : Value}
    (a17 : PySem.W.nsIn K mainGlobals "is_whole" = some (some (.ref f17))) (l17 : K.lookup f17 = some ⟨oc17, od17, .func (PySem.W.fnOf "is_whole" "is_whole" (defArgs s_is_whole) (defBody s_is_whole) (defScope s_is_whole) .none kV17 dc17 pm17 an17 cd17 ct17), sl17⟩) (c17 : PySem.W.codeIn K cd17 "is_whole" = true) (k17 : PySem.W.keepIn K (.ref f17) = true)
    {f18 : Addr} {od18 an18 : Option Addr} {sl18 : Array (Option Value)} {oc18 kV18 dc18 pm18 cd18 ct18 : Value}
    (a18 : PySem.W.nsIn K mainGlobals "divisor" = some (some (.ref f18))) (l18 : K.lookup f18 = some ⟨oc18, od18, .func (PySem.W.fnOf "divisor" "divisor" (defArgs s_divisor) (defBody s_divisor) (defScope s_divisor) .none kV18 dc18 pm18 an18 cd18 ct18), sl18⟩) (c18 : PySem.W.codeIn K cd18 "divisor" = true) (k18 : PySem.W.keepIn K (.ref f18) = true)
    {f19 : Addr} {od19 an19 : Option Addr} {sl19 : Array (Option Value)} {oc19 kV19 dc19 pm19 cd19 ct19 : Value}
    (a19 : PySem.W.nsIn K mainGlobals "fraction" = some (some (.ref f19))) (l19 : K.lookup f19 = some ⟨oc19, od19, .func (PySem.W.fnOf "fraction" "fraction" (defArgs s_fraction) (defBody s_fraction) (defScope s_fraction) .none kV19 dc19 pm19 an19 cd19 ct19), sl19⟩) (c19 : PySem.W.codeIn K cd19 "fraction" = true) (k19 : PySem.W.keepIn K (.ref f19) = true)
    {f20 : Addr} {od20 an20 : Option Addr} {sl20 : Array (Option Value)} {oc20 kV20 dc20 pm20 cd20 ct20 : Value}
    (a20 : PySem.W.nsIn K mainGlobals "cost" = some (some (.ref f20))) (l20 : K.lookup f20 = some ⟨oc20, od20, .func (PySem.W.fnOf "cost" "cost" (defArgs s_cost) (defBody s_cost) (defScope s_cost) .none kV20 dc20 pm20 an20 cd20 ct20), sl20⟩) (c20 : PySem.W.codeIn K cd20 "cost" = true) (k20 : PySem.W.keepIn K (.ref f20) = true)
    {f21 : Addr} {od21 an21 : Option Addr} {sl21 : Array (Option Value)} {oc21 kV21 dc21 pm21 cd21 ct21 : Value}
    (a21 : PySem.W.nsIn K mainGlobals "_law_least" = some (some (.ref f21))) (l21 : K.lookup f21 = some ⟨oc21, od21, .func (PySem.W.fnOf "_law_least" "_law_least" (defArgs s__law_least) (defBody s__law_least) (defScope s__law_least) .none kV21 dc21 pm21 an21 cd21 ct21), sl21⟩) (c21 : PySem.W.codeIn K cd21 "_law_least" = true) (k21 : PySem.W.keepIn K (.ref f21) = true)
    {f22 : Addr} {od22 an22 : Option Addr} {sl22 : Array (Option Value)} {oc22 kV22 dc22 pm22 cd22 ct22 : Value}
    (a22 : PySem.W.nsIn K mainGlobals "_law_all" = some (some (.ref f22))) (l22 : K.lookup f22 = some ⟨oc22, od22, .func (PySem.W.fnOf "_law_all" "_law_all" (defArgs s__law_all) (defBody s__law_all) (defScope s__law_all) .none kV22 dc22 pm22 an22 cd22 ct22), sl22⟩) (c22 : PySem.W.codeIn K cd22 "_law_all" = true) (k22 : PySem.W.keepIn K (.ref f22) = true)
    {f23 : Addr} {od23 an23 : Option Addr} {sl23 : Array (Option Value)} {oc23 kV23 dc23 pm23 cd23 ct23 : Value}
    (a23 : PySem.W.nsIn K mainGlobals "law" = some (some (.ref f23))) (l23 : K.lookup f23 = some ⟨oc23, od23, .func (PySem.W.fnOf "law" "law" (defArgs s_law) (defBody s_law) (defScope s_law) .none kV23 dc23 pm23 an23 cd23 ct23), sl23⟩) (c23 : PySem.W.codeIn K cd23 "law" = true) (k23 : PySem.W.keepIn K (.ref f23) = true)
    {tk0 : Tok} (n0 : PySem.W.nsIn K mainGlobals "MOST_PARTS" = some (some (.int 30 tk0)))
    {tk1 : Tok} (n1 : PySem.W.nsIn K mainGlobals "MOST_COUNT" = some (some (.int 40 tk1)))
    {tk2 : Tok} (n2 : PySem.W.nsIn K mainGlobals "MOST_LIMIT" = some (some (.int 12 tk2)))
    {tk3 : Tok} (n3 : PySem.W.nsIn K mainGlobals "MOST_LENGTH" = some (some (.int 60 tk3)))
    (z_isinstance : PySem.W.nsIn K mainGlobals "isinstance" = some none)
    (z_int : PySem.W.nsIn K mainGlobals "int" = some none)
    (z_bool : PySem.W.nsIn K mainGlobals "bool" = some none)
    (z_str : PySem.W.nsIn K mainGlobals "str" = some none)
    (z_tuple : PySem.W.nsIn K mainGlobals "tuple" = some none)
    (z_list : PySem.W.nsIn K mainGlobals "list" = some none)
    (z_len : PySem.W.nsIn K mainGlobals "len" = some none)
    (z_range : PySem.W.nsIn K mainGlobals "range" = some none)
    (z_abs : PySem.W.nsIn K mainGlobals "abs" = some none)
    (z_min : PySem.W.nsIn K mainGlobals "min" = some none)
    (z_max : PySem.W.nsIn K mainGlobals "max" = some none)
    (z_sum : PySem.W.nsIn K mainGlobals "sum" = some none)
    (z_sorted : PySem.W.nsIn K mainGlobals "sorted" = some none)
    (z_enumerate : PySem.W.nsIn K mainGlobals "enumerate" = some none)
    (z_zip : PySem.W.nsIn K mainGlobals "zip" = some none)
    (z_set : PySem.W.nsIn K mainGlobals "set" = some none)
    (z_any : PySem.W.nsIn K mainGlobals "any" = some none)
    (z_all : PySem.W.nsIn K mainGlobals "all" = some none)
    : ∃ fd : FuncData, (∀ (s : Shared) (v : Value), BindsTo s fd ⟨[v], []⟩ [("_law_script", v)]) ∧ ∀ base : Heap, K.In base → base.Ns mainGlobals mg → FnOk l.prog w K mg base CX0 6 fa fd ["_law_script"] (sp_law K) := by
  have e := hfa.symm.trans (PySem.W.mg_of X G a23)
  cases e
  have F0 := fun_mk (st := s__law_mix) l0 c0 k0
  have b0 := F0.binds (ps := ["_law_script", "_law_seed"]) fun _ _ _ _ _ _ us hl => match us, hl with | [_, _], _ => rfl
  have A0 : At K mg "_law_mix" s__law_mix ["_law_script", "_law_seed"] := ⟨_, _, F0, PySem.W.mg_of X G a0, b0⟩
  have F1 := fun_mk (st := s__law_weights) l1 c1 k1
  have b1 := F1.binds (ps := ["_law_ratio_here", "_law_count"]) fun _ _ _ _ _ _ us hl => match us, hl with | [_, _], _ => rfl
  have A1 : At K mg "_law_weights" s__law_weights ["_law_ratio_here", "_law_count"] := ⟨_, _, F1, PySem.W.mg_of X G a1, b1⟩
  have F2 := fun_mk (st := s__law_next) l2 c2 k2
  have b2 := F2.binds (ps := ["_law_h", "_law_cap"]) fun _ _ _ _ _ _ us hl => match us, hl with | [_, _], _ => rfl
  have A2 : At K mg "_law_next" s__law_next ["_law_h", "_law_cap"] := ⟨_, _, F2, PySem.W.mg_of X G a2, b2⟩
  have F3 := fun_mk (st := s__law_pick) l3 c3 k3
  have b3 := F3.binds (ps := ["_law_h", "_law_things"]) fun _ _ _ _ _ _ us hl => match us, hl with | [_, _], _ => rfl
  have A3 : At K mg "_law_pick" s__law_pick ["_law_h", "_law_things"] := ⟨_, _, F3, PySem.W.mg_of X G a3, b3⟩
  have F4 := fun_mk (st := s__law_ratio) l4 c4 k4
  have b4 := F4.binds (ps := ["_law_h"]) fun _ _ _ _ _ _ us hl => match us, hl with | [_], _ => rfl
  have A4 : At K mg "_law_ratio" s__law_ratio ["_law_h"] := ⟨_, _, F4, PySem.W.mg_of X G a4, b4⟩
  have F5 := fun_mk (st := s_is_integer) l5 c5 k5
  have b5 := F5.binds (ps := ["thing", "low", "high"]) fun _ _ _ _ _ _ us hl => match us, hl with | [_, _, _], _ => rfl
  have A5 : At K mg "is_integer" s_is_integer ["thing", "low", "high"] := ⟨_, _, F5, PySem.W.mg_of X G a5, b5⟩
  have F6 := fun_mk (st := s_is_ratio) l6 c6 k6
  have b6 := F6.binds (ps := ["thing"]) fun _ _ _ _ _ _ us hl => match us, hl with | [_], _ => rfl
  have A6 : At K mg "is_ratio" s_is_ratio ["thing"] := ⟨_, _, F6, PySem.W.mg_of X G a6, b6⟩
  have F7 := fun_mk (st := s_check_ratio) l7 c7 k7
  have b7 := F7.binds (ps := ["thing"]) fun _ _ _ _ _ _ us hl => match us, hl with | [_], _ => rfl
  have A7 : At K mg "check_ratio" s_check_ratio ["thing"] := ⟨_, _, F7, PySem.W.mg_of X G a7, b7⟩
  have F8 := fun_mk (st := s_check_count) l8 c8 k8
  have b8 := F8.binds (ps := ["thing"]) fun _ _ _ _ _ _ us hl => match us, hl with | [_], _ => rfl
  have A8 : At K mg "check_count" s_check_count ["thing"] := ⟨_, _, F8, PySem.W.mg_of X G a8, b8⟩
  have F9 := fun_mk (st := s_power_of_two) l9 c9 k9
  have b9 := F9.binds (ps := ["times"]) fun _ _ _ _ _ _ us hl => match us, hl with | [_], _ => rfl
  have A9 : At K mg "power_of_two" s_power_of_two ["times"] := ⟨_, _, F9, PySem.W.mg_of X G a9, b9⟩
  have F10 := fun_mk (st := s_chance_weights) l10 c10 k10
  have b10 := F10.binds (ps := ["ratio", "count"]) fun _ _ _ _ _ _ us hl => match us, hl with | [_, _], _ => rfl
  have A10 : At K mg "chance_weights" s_chance_weights ["ratio", "count"] := ⟨_, _, F10, PySem.W.mg_of X G a10, b10⟩
  have F11 := fun_mk (st := s_limited_lengths) l11 c11 k11
  have b11 := F11.binds (ps := ["ratio", "count", "most"]) fun _ _ _ _ _ _ us hl => match us, hl with | [_, _, _], _ => rfl
  have A11 : At K mg "limited_lengths" s_limited_lengths ["ratio", "count", "most"] := ⟨_, _, F11, PySem.W.mg_of X G a11, b11⟩
  have F12 := fun_mk (st := s_best_lengths) l12 c12 k12
  have b12 := F12.binds (ps := ["ratio", "count"]) fun _ _ _ _ _ _ us hl => match us, hl with | [_, _], _ => rfl
  have A12 : At K mg "best_lengths" s_best_lengths ["ratio", "count"] := ⟨_, _, F12, PySem.W.mg_of X G a12, b12⟩
  have F13 := fun_mk (st := s__law_double) l13 c13 k13
  have b13 := F13.binds (ps := ["_law_times"]) fun _ _ _ _ _ _ us hl => match us, hl with | [_], _ => rfl
  have A13 : At K mg "_law_double" s__law_double ["_law_times"] := ⟨_, _, F13, PySem.W.mg_of X G a13, b13⟩
  have F14 := fun_mk (st := s__law_alike) l14 c14 k14
  have b14 := F14.binds (ps := ["_law_found", "_law_due"]) fun _ _ _ _ _ _ us hl => match us, hl with | [_, _], _ => rfl
  have A14 : At K mg "_law_alike" s__law_alike ["_law_found", "_law_due"] := ⟨_, _, F14, PySem.W.mg_of X G a14, b14⟩
  have F15 := fun_mk (st := s_check_lengths) l15 c15 k15
  have b15 := F15.binds (ps := ["thing"]) fun _ _ _ _ _ _ us hl => match us, hl with | [_], _ => rfl
  have A15 : At K mg "check_lengths" s_check_lengths ["thing"] := ⟨_, _, F15, PySem.W.mg_of X G a15, b15⟩
  have F16 := fun_mk (st := s_room_left) l16 c16 k16
  have b16 := F16.binds (ps := ["lengths"]) fun _ _ _ _ _ _ us hl => match us, hl with | [_], _ => rfl
  have A16 : At K mg "room_left" s_room_left ["lengths"] := ⟨_, _, F16, PySem.W.mg_of X G a16, b16⟩
  have F17 := fun_mk (st := s_is_whole) l17 c17 k17
  have b17 := F17.binds (ps := ["lengths"]) fun _ _ _ _ _ _ us hl => match us, hl with | [_], _ => rfl
  have A17 : At K mg "is_whole" s_is_whole ["lengths"] := ⟨_, _, F17, PySem.W.mg_of X G a17, b17⟩
  have F18 := fun_mk (st := s_divisor) l18 c18 k18
  have b18 := F18.binds (ps := ["one", "two"]) fun _ _ _ _ _ _ us hl => match us, hl with | [_, _], _ => rfl
  have A18 : At K mg "divisor" s_divisor ["one", "two"] := ⟨_, _, F18, PySem.W.mg_of X G a18, b18⟩
  have F19 := fun_mk (st := s_fraction) l19 c19 k19
  have b19 := F19.binds (ps := ["number", "parts"]) fun _ _ _ _ _ _ us hl => match us, hl with | [_, _], _ => rfl
  have A19 : At K mg "fraction" s_fraction ["number", "parts"] := ⟨_, _, F19, PySem.W.mg_of X G a19, b19⟩
  have F20 := fun_mk (st := s_cost) l20 c20 k20
  have b20 := F20.binds (ps := ["lengths", "ratio"]) fun _ _ _ _ _ _ us hl => match us, hl with | [_, _], _ => rfl
  have A20 : At K mg "cost" s_cost ["lengths", "ratio"] := ⟨_, _, F20, PySem.W.mg_of X G a20, b20⟩
  have F21 := fun_mk (st := s__law_least) l21 c21 k21
  have b21 := F21.binds (ps := ["_law_weights_here", "_law_most"]) fun _ _ _ _ _ _ us hl => match us, hl with | [_, _], _ => rfl
  have A21 : At K mg "_law_least" s__law_least ["_law_weights_here", "_law_most"] := ⟨_, _, F21, PySem.W.mg_of X G a21, b21⟩
  have F22 := fun_mk (st := s__law_all) l22 c22 k22
  have b22 := F22.binds (ps := ["_law_count", "_law_most"]) fun _ _ _ _ _ _ us hl => match us, hl with | [_, _], _ => rfl
  have A22 : At K mg "_law_all" s__law_all ["_law_count", "_law_most"] := ⟨_, _, F22, PySem.W.mg_of X G a22, b22⟩
  have F23 := fun_mk (st := s_law) l23 c23 k23
  have b23 := F23.binds (ps := ["_law_script"]) fun _ _ _ _ _ _ us hl => match us, hl with | [_], _ => rfl
  have A23 : At K mg "law" s_law ["_law_script"] := ⟨_, _, F23, PySem.W.mg_of X G a23, b23⟩
  have B : Bn mg := ⟨PySem.W.mg_none_of X G z_isinstance, PySem.W.mg_none_of X G z_int, PySem.W.mg_none_of X G z_bool, PySem.W.mg_none_of X G z_str, PySem.W.mg_none_of X G z_tuple, PySem.W.mg_none_of X G z_list, PySem.W.mg_none_of X G z_len, PySem.W.mg_none_of X G z_range, PySem.W.mg_none_of X G z_abs, PySem.W.mg_none_of X G z_min, PySem.W.mg_none_of X G z_max, PySem.W.mg_none_of X G z_sum, PySem.W.mg_none_of X G z_sorted, PySem.W.mg_none_of X G z_enumerate, PySem.W.mg_none_of X G z_zip, PySem.W.mg_none_of X G z_set, PySem.W.mg_none_of X G z_any, PySem.W.mg_none_of X G z_all⟩
  have N0 := PySem.W.mg_of X G n0
  have N1 := PySem.W.mg_of X G n1
  have N2 := PySem.W.mg_of X G n2
  have N3 := PySem.W.mg_of X G n3
  refine ⟨PySem.W.fnOf "law" "law" (defArgs s_law) (defBody s_law) (defScope s_law) .none kV23 dc23 pm23 an23 cd23 ct23, fun s v => .of_eq rfl, fun base _ _ => ?_⟩
  have C0 : CalE l.prog w K mg base "_law_mix" ["_law_script", "_law_seed"] 1 (sp__law_mix K) := ok__law_mix A0 B
  have C1 : CalE l.prog w K mg base "_law_weights" ["_law_ratio_here", "_law_count"] 1 (sp__law_weights K) := ok__law_weights A1 B
  have C2 : CalE l.prog w K mg base "_law_next" ["_law_h", "_law_cap"] 1 (sp__law_next K) := ok__law_next A2 B
  have C3 : CalE l.prog w K mg base "_law_pick" ["_law_h", "_law_things"] 2 (sp__law_pick K) := ok__law_pick A3 B C2
  have C4 : CalE l.prog w K mg base "_law_ratio" ["_law_h"] 3 (sp__law_ratio K) := ok__law_ratio A4 B C2 C3
  have C5 : CalE l.prog w K mg base "is_integer" ["thing", "low", "high"] 1 (sp_is_integer K) := ok_is_integer A5 B
  have C6 : CalE l.prog w K mg base "is_ratio" ["thing"] 2 (sp_is_ratio K) := ok_is_ratio A6 B C5 ⟨_, N0, _, rfl⟩
  have C7 : CalE l.prog w K mg base "check_ratio" ["thing"] 3 (sp_check_ratio K) := ok_check_ratio A7 B C6
  have C8 : CalE l.prog w K mg base "check_count" ["thing"] 2 (sp_check_count K) := ok_check_count A8 B C5 ⟨_, N1, _, rfl⟩
  have C9 : CalE l.prog w K mg base "power_of_two" ["times"] 1 (sp_power_of_two K) := ok_power_of_two A9 B
  have C10 : CalE l.prog w K mg base "chance_weights" ["ratio", "count"] 1 (sp_chance_weights K) := ok_chance_weights A10 B
  have C11 : CalE l.prog w K mg base "limited_lengths" ["ratio", "count", "most"] 4 (sp_limited_lengths K) := ok_limited_lengths A11 B C7 C8 C5 C9 C10 ⟨_, N2, _, rfl⟩
  have C12 : CalE l.prog w K mg base "best_lengths" ["ratio", "count"] 4 (sp_best_lengths K) := ok_best_lengths A12 B C7 C8 C10
  have C13 : CalE l.prog w K mg base "_law_double" ["_law_times"] 1 (sp__law_double K) := ok__law_double A13 B
  have C14 : CalE l.prog w K mg base "_law_alike" ["_law_found", "_law_due"] 5 (sp__law_alike K) := ok__law_alike A14 B
  have C15 : CalE l.prog w K mg base "check_lengths" ["thing"] 2 (sp_check_lengths K) := ok_check_lengths A15 B C5 ⟨_, N1, _, rfl⟩ ⟨_, N3, _, rfl⟩
  have C16 : CalE l.prog w K mg base "room_left" ["lengths"] 2 (sp_room_left K) := ok_room_left A16 B C9 ⟨_, N3, _, rfl⟩
  have C17 : CalE l.prog w K mg base "is_whole" ["lengths"] 3 (sp_is_whole K) := ok_is_whole A17 B C15 C16
  have C18 : CalE l.prog w K mg base "divisor" ["one", "two"] 1 (sp_divisor K) := ok_divisor A18 B
  have C19 : CalE l.prog w K mg base "fraction" ["number", "parts"] 2 (sp_fraction K) := ok_fraction A19 B C18
  have C20 : CalE l.prog w K mg base "cost" ["lengths", "ratio"] 4 (sp_cost K) := ok_cost A20 B C15 C7 C10 C19
  have C21 : CalE l.prog w K mg base "_law_least" ["_law_weights_here", "_law_most"] 1 (sp__law_least K l.prog w) := ok__law_least A21 B
  have C22 : CalE l.prog w K mg base "_law_all" ["_law_count", "_law_most"] 2 (sp__law_all K) := ok__law_all A22 B C13
  exact ok_law F23 B C0 C4 C2 C3 C11 C12 C1 C13 C14 C17 C20 C21 C22
end St
open PySem PySem.W PyProof.Rows
set_option maxRecDepth 100000 in
set_option maxHeartbeats 0 in
theorem PySem.Challenge.cw_stepruns_k08_whole_limited_books_holds : PySem.Challenge.rw_stepruns_k08_whole_limited_books.Holds := by
  w_on; o_law; k_head; (case hw => w_witness2)
  k_fill
  refine L2.walk_of (l := PySem.Challenge.rw_stepruns_k08_whole_limited_books) (n := 63) (k := 6) (x := "_law_script") (CX := fun _ => L2.CX0) (sp := fun w => St.sp_law _) rfl (by decide) rfl ⟨rfl, by decide, by decide⟩ (fun w h Y => PySem.W.kIn_of Y) ?F (fun _ _ a ns hl _ hS => ⟨a, ns, rfl, hS, hl, fun _ => rfl⟩) (fun _ _ _ _ _ h => h)
  case F =>
    intro w mg fa h KX G hmg
    refine' St.all_mk KX G hmg ?a0 ?l0 ?c0 ?k0 ?a1 ?l1 ?c1 ?k1 ?a2 ?l2 ?c2 ?k2 ?a3 ?l3 ?c3 ?k3 ?a4 ?l4 ?c4 ?k4 ?a5 ?l5 ?c5 ?k5 ?a6 ?l6 ?c6 ?k6 ?a7 ?l7 ?c7 ?k7 ?a8 ?l8 ?c8 ?k8 ?a9 ?l9 ?c9 ?k9 ?a10 ?l10 ?c10 ?k10 ?a11 ?l11 ?c11 ?k11 ?a12 ?l12 ?c12 ?k12 ?a13 ?l13 ?c13 ?k13 ?a14 ?l14 ?c14 ?k14 ?a15 ?l15 ?c15 ?k15 ?a16 ?l16 ?c16 ?k16 ?a17 ?l17 ?c17 ?k17 ?a18 ?l18 ?c18 ?k18 ?a19 ?l19 ?c19 ?k19 ?a20 ?l20 ?c20 ?k20 ?a21 ?l21 ?c21 ?k21 ?a22 ?l22 ?c22 ?k22 ?a23 ?l23 ?c23 ?k23 ?n0 ?n1 ?n2 ?n3 ?z_isinstance ?z_int ?z_bool ?z_str ?z_tuple ?z_list ?z_len ?z_range ?z_abs ?z_min ?z_max ?z_sum ?z_sorted ?z_enumerate ?z_zip ?z_set ?z_any ?z_all
    (case a0 => k_is)
    (case l0 => k_is)
    (case c0 => k_is)
    (case k0 => k_is)
    (case a1 => k_is)
    (case l1 => k_is)
    (case c1 => k_is)
    (case k1 => k_is)
    (case a2 => k_is)
    (case l2 => k_is)
    (case c2 => k_is)
    (case k2 => k_is)
    (case a3 => k_is)
    (case l3 => k_is)
    (case c3 => k_is)
    (case k3 => k_is)
    (case a4 => k_is)
    (case l4 => k_is)
    (case c4 => k_is)
    (case k4 => k_is)
    (case a5 => k_is)
    (case l5 => k_is)
    (case c5 => k_is)
    (case k5 => k_is)
    (case a6 => k_is)
    (case l6 => k_is)
    (case c6 => k_is)
    (case k6 => k_is)
    (case a7 => k_is)
    (case l7 => k_is)
    (case c7 => k_is)
    (case k7 => k_is)
    (case a8 => k_is)
    (case l8 => k_is)
    (case c8 => k_is)
    (case k8 => k_is)
    (case a9 => k_is)
    (case l9 => k_is)
    (case c9 => k_is)
    (case k9 => k_is)
    (case a10 => k_is)
    (case l10 => k_is)
    (case c10 => k_is)
    (case k10 => k_is)
    (case a11 => k_is)
    (case l11 => k_is)
    (case c11 => k_is)
    (case k11 => k_is)
    (case a12 => k_is)
    (case l12 => k_is)
    (case c12 => k_is)
    (case k12 => k_is)
    (case a13 => k_is)
    (case l13 => k_is)
    (case c13 => k_is)
    (case k13 => k_is)
    (case a14 => k_is)
    (case l14 => k_is)
    (case c14 => k_is)
    (case k14 => k_is)
    (case a15 => k_is)
    (case l15 => k_is)
    (case c15 => k_is)
    (case k15 => k_is)
    (case a16 => k_is)
    (case l16 => k_is)
    (case c16 => k_is)
    (case k16 => k_is)
    (case a17 => k_is)
    (case l17 => k_is)
    (case c17 => k_is)
    (case k17 => k_is)
    (case a18 => k_is)
    (case l18 => k_is)
    (case c18 => k_is)
    (case k18 => k_is)
    (case a19 => k_is)
    (case l19 => k_is)
    (case c19 => k_is)
    (case k19 => k_is)
    (case a20 => k_is)
    (case l20 => k_is)
    (case c20 => k_is)
    (case k20 => k_is)
    (case a21 => k_is)
    (case l21 => k_is)
    (case c21 => k_is)
    (case k21 => k_is)
    (case a22 => k_is)
    (case l22 => k_is)
    (case c22 => k_is)
    (case k22 => k_is)
    (case a23 => k_is)
    (case l23 => k_is)
    (case c23 => k_is)
    (case k23 => k_is)
    (case n0 => k_is)
    (case n1 => k_is)
    (case n2 => k_is)
    (case n3 => k_is)
    (case z_isinstance => k_is)
    (case z_int => k_is)
    (case z_bool => k_is)
    (case z_str => k_is)
    (case z_tuple => k_is)
    (case z_list => k_is)
    (case z_len => k_is)
    (case z_range => k_is)
    (case z_abs => k_is)
    (case z_min => k_is)
    (case z_max => k_is)
    (case z_sum => k_is)
    (case z_sorted => k_is)
    (case z_enumerate => k_is)
    (case z_zip => k_is)
    (case z_set => k_is)
    (case z_any => k_is)
    (case z_all => k_is)
#print axioms PySem.Challenge.cw_stepruns_k08_whole_limited_books_holds
