import PyProof.Rows.All
import Wide.All
import OpenK.AllK
import Wide.FinOn
import HandS.ForMost
import HandS.ForExc
import HandS.Wide
import HandS.WideBits
import HandS.IsInst
import HandS.Codes
import HandS.TupAny
import HandS.TupLen
import HandS.Style
import HandS.Zip0
import HandS.TupSets
import HandS.Small
import HandS.ExcIs
import HandS.SortRule
import PyProof.Draws
import PyProof.EnumMake
import KE.SortData
import KE.DataMinMax
import KE.GoesMore
import KE.GoesEnum
import HandS.TupMul
import HandS.DictTup
import HandS.DictComp
import KE.KDictKeyed
import KE.KDictDisplayH
import PyProof.DictTable
import HandS.Deep
import HandS.SetFor
import HandS.Set
import HandS.Property
import PySem.Challenge.RW_stepruns_k13_whole_readers
set_option Elab.async false
set_option linter.all false
set_option maxRecDepth 100000
set_option maxHeartbeats 4000000
namespace St
open PySem PySem.Spec PyProof.Rows L2
/-! ### names that are still the built-ins -/
structure Bn (mg : Str → Option Value) : Prop where
  isinstance_ : mg "isinstance" = none
  int_ : mg "int" = none
  bool_ : mg "bool" = none
  str_ : mg "str" = none
  tuple_ : mg "tuple" = none
  list_ : mg "list" = none
  len_ : mg "len" = none
  range_ : mg "range" = none
  abs_ : mg "abs" = none
  min_ : mg "min" = none
  max_ : mg "max" = none
  sum_ : mg "sum" = none
  sorted_ : mg "sorted" = none
  enumerate_ : mg "enumerate" = none
  zip_ : mg "zip" = none
  set_ : mg "set" = none
  any_ : mg "any" = none
  all_ : mg "all" = none
/-- the def st stands as x -/
def At (K : PySem.W.Frag) (mg : Str → Option Value) (x : Str) (st : Stmt) (ps : List Str) : Prop :=
  ∃ f fd, Fun K x x st f fd ∧ mg x = some (.ref f) ∧ Binds K fd ps []
/-- a def that keeps its promise, ready to be called by its name -/
structure Cal (P : Program) (w : World) (K : PySem.W.Frag) (mg : Str → Option Value) (base : Heap) (x : Str) (ps : List Str) (k : Nat) (sp : Sp) (f : Addr) (fd : FuncData) : Prop where
  ok : FnOk P w K mg base CX0 k f fd ps sp
  g : mg x = some (.ref f)
  kp : PySem.W.keepIn K (.ref f) = true
  b : Binds K fd ps []
def CalE (P : Program) (w : World) (K : PySem.W.Frag) (mg : Str → Option Value) (base : Heap) (x : Str) (ps : List Str) (k : Nat) (sp : Sp) : Prop := ∃ f fd, Cal P w K mg base x ps k sp f fd
/-! ### heaps -/
theorem same_new {H : Hp} {p : Addr} (h : H p = none) (o : HO) : Same H (upd H p o) := fun b u q => by rw [upd_ne (ne_of_none q h)]; exact q
theorem Same.seqT {K : PySem.W.Frag} {H H' : Hp} {a : Addr} {xs : List V} (e : Same H H') (h : SqT K H a xs) : SqT K H' a xs := by
  rcases h with (h | ⟨o, h⟩) | h
  · exact .inl (.inl (e _ _ h))
  · exact .inl (.inr ⟨o, e _ _ h⟩)
  · exact .inr h
theorem tyL {K : PySem.W.Frag} {H : Hp} {a : Addr} {xs : List V} (h : SqL K H a xs) : TyX K H (.ref a) (.type "list") := by
  rcases h with (h | ⟨o, h⟩) | ⟨o, its, n, h, c, _⟩
  · exact .base (.lst h)
  · exact .base (.frz h)
  · exact .kList h c
theorem tyT {K : PySem.W.Frag} {H : Hp} {a : Addr} {xs : List V} (h : SqT K H a xs) : TyX K H (.ref a) (.type "tuple") := by
  rcases h with (h | ⟨o, h⟩) | ⟨o, its, n, h, c, _⟩
  · exact .base (.tup h)
  · exact .fTuple h
  · exact .kTuple h c
theorem SqL.new {K : PySem.W.Frag} {H : Hp} {p : Addr} {xs : List V} : SqL K (upd H p (.lst xs)) p xs := .inl (.inl upd_same)
theorem SqT.new {K : PySem.W.Frag} {H : Hp} {p : Addr} {xs : List V} : SqT K (upd H p (.tup xs)) p xs := .inl (.inl upd_same)
theorem ne_new {H : Hp} {a p : Addr} {o : HO} (h : H a = some o) (hp : H p = none) : p ≠ a := fun e => by rw [e, h] at hp; cases hp
theorem iteDT {p : Prop} [Decidable p] {A B : Prop} (h : p) (a : A) : if decide p = true then A else B := by
  rw [decide_eq_true h]
  exact iteT a
theorem iteDF {p : Prop} [Decidable p] {A B : Prop} (h : ¬ p) (b : B) : if decide p = true then A else B := by
  rw [decide_eq_false h]
  exact iteF b
theorem iteND {p : Prop} [Decidable p] {A B : Prop} (h : ¬ p) (a : A) : if (!decide p) = true then A else B := by
  rw [decide_eq_false h]
  exact iteT a
theorem iteNF {p : Prop} [Decidable p] {A B : Prop} (h : p) (b : B) : if (!decide p) = true then A else B := by
  rw [decide_eq_true h]
  exact iteF b
/-! ### ways that meet: what is left is shown once, for all that the ways may bring (G is read off the first way) -/
theorem joinT {R G : Prop} (main : G → R) (k : G) : R := main k
theorem joinG1 {α : Type} {R : Prop} {G : α → Prop} (C : α → Prop) (main : (∀ x, C x → G x) → R) (k : ∀ x, C x → G x) : R := main k
theorem joinG2 {α β : Type} {R : Prop} {G : α → β → Prop} (C : α → β → Prop) (main : (∀ x y, C x y → G x y) → R) (k : ∀ x y, C x y → G x y) : R := main k
theorem joinG3 {α β γ : Type} {R : Prop} {G : α → β → γ → Prop} (C : α → β → γ → Prop) (main : (∀ x y z, C x y z → G x y z) → R) (k : ∀ x y z, C x y z → G x y z) : R := main k
theorem joinG4 {α β γ δ : Type} {R : Prop} {G : α → β → γ → δ → Prop} (C : α → β → γ → δ → Prop) (main : (∀ x y z u, C x y z u → G x y z u) → R) (k : ∀ x y z u, C x y z u → G x y z u) : R := main k
theorem to_nx {i : Nat} {v : V} {σ σ' : List (Option V)} {H : Hp} {Q : List (Option V) → Hp → Prop} (e : σ.set i (some v) = σ') (h : Q σ' H) : gName i v σ H Q := by
  show Q (σ.set i (some v)) H
  rw [e]
  exact h
/-- the value written otherwise -/
theorem to_v {Q : VK} {v v' : V} {H : Hp} (e : v = v') (h : Q v' H) : Q v H := e ▸ h
/-- the heap written otherwise -/
theorem to_H {Q : VK} {v : V} {H H' : Hp} (e : H = H') (h : Q v H') : Q v H := e ▸ h
theorem to_next {D : Ends} {σ σ' : List (Option V)} {H : Hp} (e : σ = σ') (h : D.nx σ' H) : tNext D σ H := by
  show D.nx σ H
  rw [e]
  exact h
/-! ### data of lists, tuples, numbers, texts -/
/-- data no deeper than n, no list of it too long -/
def OkD : Nat → PyData → Prop
  | _, .none => True | _, .bool _ => True | _, .int _ => True | _, .str _ => True
  | n + 1, .list ds => ds.length ≤ 1000000 ∧ ∀ d ∈ ds, OkD n d
  | n + 1, .tuple ds => ds.length ≤ 1000000 ∧ ∀ d ∈ ds, OkD n d
  | _, _ => False
theorem okA_nil {n : Nat} : ∀ d ∈ ([] : List PyData), OkD n d := fun d h => by cases h
theorem okA_cons {n : Nat} {a : PyData} {l : List PyData} (h : OkD n a) (t : ∀ d ∈ l, OkD n d) : ∀ d ∈ a :: l, OkD n d := fun d hd => by
  rcases List.mem_cons.mp hd with e | hd
  · exact e ▸ h
  · exact t d hd
theorem okd_list {n : Nat} {ds : List PyData} (h : ds.length ≤ 1000000) (t : ∀ d ∈ ds, OkD n d) : OkD (n + 1) (.list ds) := ⟨h, t⟩
theorem okd_tuple {n : Nat} {ds : List PyData} (h : ds.length ≤ 1000000) (t : ∀ d ∈ ds, OkD n d) : OkD (n + 1) (.tuple ds) := ⟨h, t⟩
theorem okA_strs {n : Nat} (ws : List Str) : ∀ d ∈ ws.map PyData.str, OkD n d := fun d hd => by
  obtain ⟨x, _, rfl⟩ := List.mem_map.mp hd
  cases n <;> trivial
theorem okA_ints {n : Nat} (ws : List Int) : ∀ d ∈ ws.map PyData.int, OkD n d := fun d hd => by
  obtain ⟨x, _, rfl⟩ := List.mem_map.mp hd
  cases n <;> trivial
theorem DpAll.length {K : PySem.W.Frag} {H : Hp} : ∀ {xs : List V} {ds : List PyData}, DpAll K H xs ds → xs.length = ds.length
  | _, _, .nil => rfl
  | _, _, .cons _ t => congrArg (· + 1) (DpAll.length t)
theorem DpAll.of {K : PySem.W.Frag} {H : Hp} : ∀ {xs : List V} {ds : List PyData}, xs.length = ds.length → (∀ (i : Nat) x d, xs[i]? = some x → ds[i]? = some d → Dp K H x d) → DpAll K H xs ds
  | [], [], _, _ => .nil
  | [], _ :: _, h, _ => by cases h
  | _ :: _, [], h, _ => by cases h
  | x :: xs, d :: ds, h, k => .cons (k 0 x d rfl rfl) (DpAll.of (by simpa using h) fun i y e h1 h2 => k (i + 1) y e (by simpa using h1) (by simpa using h2))
theorem DpAll.get {K : PySem.W.Frag} {H : Hp} : ∀ {xs : List V} {ds : List PyData} {i : Nat} {d : PyData}, DpAll K H xs ds → ds[i]? = some d → ∃ x, xs[i]? = some x ∧ Dp K H x d
  | _, _, _, _, .nil, e => by simp at e
  | _, _, 0, _, .cons h _, e => by
    cases Option.some.inj (by simpa using e)
    exact ⟨_, rfl, h⟩
  | _, _, i + 1, _, .cons _ t, e => by
    obtain ⟨x, h1, h2⟩ := DpAll.get (i := i) t (by simpa using e)
    exact ⟨x, by simpa using h1, h2⟩
mutual
theorem Dp.same {K : PySem.W.Frag} {H H' : Hp} (s : Same H H') : ∀ {v : V} {d : PyData}, Dp K H v d → Dp K H' v d
  | _, _, .non => .non
  | _, _, .bl b => .bl b
  | _, _, .int i => .int i
  | _, _, .str x => .str x
  | _, _, .lst h t => .lst (s.seq h) (DpAll.same s t)
  | _, _, .tup h t => .tup (St.Same.seqT s h) (DpAll.same s t)
theorem DpAll.same {K : PySem.W.Frag} {H H' : Hp} (s : Same H H') : ∀ {v : List V} {d : List PyData}, DpAll K H v d → DpAll K H' v d
  | _, _, .nil => .nil
  | _, _, .cons h t => .cons (Dp.same s h) (DpAll.same s t)
end
def isTL : PyData → Bool
  | .list _ => true | .tuple _ => true | _ => false
/-- a list or tuple of data, opened -/
theorem Dp.seq {K : PySem.W.Frag} {H : Hp} {v : V} {d : PyData} (h : Dp K H v d) (hd : isTL d = true) : ∃ (a : Addr) (xs : List V) (ds : List PyData), v = .ref a ∧ (d = .list ds ∧ SqL K H a xs ∨ d = .tuple ds ∧ SqT K H a xs) ∧ DpAll K H xs ds := by
  cases h with
  | lst h t => exact ⟨_, _, _, rfl, .inl ⟨rfl, h⟩, t⟩
  | tup h t => exact ⟨_, _, _, rfl, .inr ⟨rfl, h⟩, t⟩
  | non => cases hd
  | bl => cases hd
  | int => cases hd
  | str => cases hd
theorem canAll {n : Nat} : ∀ ds : List PyData, (∀ d ∈ ds, d.canLay0 = true ∧ d.depth ≤ n) → PyData.canLayAll0 ds = true ∧ PyData.depthAll ds ≤ n
  | [], _ => ⟨by simp only [PyData.canLayAll0], by simp only [PyData.depthAll]; omega⟩
  | d :: ds, h => by
    obtain ⟨a, b⟩ := h d List.mem_cons_self
    obtain ⟨c, e⟩ := canAll ds fun x hx => h x (List.mem_cons_of_mem _ hx)
    refine ⟨?_, ?_⟩
    · simp only [PyData.canLayAll0]
      rw [a, c]
      rfl
    · simp only [PyData.depthAll]
      omega
/-- as OkD, the texts of plain signs -/
def OkN : Nat → PyData → Prop
  | _, .none => True | _, .bool _ => True | _, .int _ => True | _, .str x => PyData.strOk x = true
  | n + 1, .list ds => ∀ d ∈ ds, OkN n d
  | n + 1, .tuple ds => ∀ d ∈ ds, OkN n d
  | _, _ => False
theorem ok_can : ∀ (n : Nat) (d : PyData), OkN n d → d.canLay0 = true ∧ d.depth ≤ n
  | _, .none, _ => ⟨by simp only [PyData.canLay0], by simp only [PyData.depth]; omega⟩
  | _, .bool _, _ => ⟨by simp only [PyData.canLay0], by simp only [PyData.depth]; omega⟩
  | _, .int _, _ => ⟨by simp only [PyData.canLay0], by simp only [PyData.depth]; omega⟩
  | n, .str x, h => by
    have h' : PyData.strOk x = true := by cases n <;> exact h
    exact ⟨by simp only [PyData.canLay0]; exact h', by simp only [PyData.depth]; omega⟩
  | n + 1, .list ds, h => by
    obtain ⟨a, b⟩ := canAll ds fun d hd => ok_can n d (h d hd)
    exact ⟨by simp only [PyData.canLay0]; exact a, by simp only [PyData.depth]; omega⟩
  | n + 1, .tuple ds, h => by
    obtain ⟨a, b⟩ := canAll ds fun d hd => ok_can n d (h d hd)
    exact ⟨by simp only [PyData.canLay0]; exact a, by simp only [PyData.depth]; omega⟩
  | 0, .list _, h => h.elim
  | 0, .tuple _, h => h.elim
  | 0, .dict _, h => h.elim
  | _ + 1, .dict _, h => h.elim
theorem ok_shaped {n : Nat} {d : PyData} (h : OkN n d) (hn : n ≤ 60) : SeqAt.shaped d = true := by
  obtain ⟨a, b⟩ := ok_can n d h
  unfold SeqAt.shaped
  rw [a, decide_eq_true (by omega)]
  rfl
theorem eqv_nil (ds : List PyData) : PyData.eqv (.list ds) (.list []) = ds.isEmpty := by
  cases ds <;> rfl
/-! ### a text times a number -/
def repS (x : Str) (n : Nat) : Str := ⟨((List.replicate n x.cps.toList).flatten).toArray⟩
theorem repS_one (x : Str) : repS x 1 = x := by
  unfold repS
  simp
theorem fold_app (l : List (Array Nat)) (a : Array Nat) : (l.foldl (· ++ ·) a).toList = a.toList ++ (l.map Array.toList).flatten := by
  induction l generalizing a with
  | nil => simp
  | cons x r ih => simp [List.foldl_cons, ih, List.append_assoc]
section
variable {X : Cx}
theorem op_mul_str : OpR X (binaryOp .Mult) (fun x y H Q => ∃ z n, x = .str z ∧ y = .int n ∧ n < 2 ^ 62 ∧ -(2 ^ 62) < n ∧ z.length * n.toNat ≤ 1000000 ∧ Q (.str (repS z n.toNat)) H) := by
  intro pins s σ H x y v u Q I rx ry h
  obtain ⟨z, n, rfl, rfl, h1, h2, h3, q⟩ := h
  obtain ⟨t, rfl⟩ := rx
  obtain ⟨t', rfl⟩ := ry
  refine P.mul_str (by
    have a : ¬ n < -(2 ^ 63) := by omega
    have b : ¬ n ≥ 2 ^ 63 := by omega
    rw [decide_eq_false a, decide_eq_false b]; rfl) (fun hn _ hb => ?_) (fun hn _ => ?_) ?_
  · have hp : 0 < n := by omega
    have e1 : (z.length : Int) * n ≤ 1000000 := by
      have e0 : ((n.toNat : Nat) : Int) = n := Int.toNat_of_nonneg (by omega)
      have e4 : ((z.length * n.toNat : Nat) : Int) ≤ 1000000 := Int.ofNat_le.mpr h3
      rw [Int.natCast_mul, e0] at e4
      exact e4
    have e2 : (2 ^ 63 - 1) / n < (z.length : Int) := hb
    have e3 : (2 ^ 63 - 1 : Int) < z.length * n := (Int.ediv_lt_iff_lt_mul hp).mp e2
    generalize (z.length : Int) * n = w at e1 e3
    omega
  · refine decide_eq_false ?_
    have z : sizeLine = 16777216 := sizeLine_eq
    omega
  · by_cases hn : n < 1
    · rw [if_pos hn]
      refine ⟨by decide, ?_⟩
      have e : n.toNat = 0 := by omega
      rw [e] at q
      exact ⟨.str _, H, I.tok _, ⟨_, rfl⟩, q⟩
    · rw [if_neg hn]
      by_cases hm : (n == 1 || z.length == 0) = true
      · rw [if_pos hm]
        have e : repS z n.toNat = z := by
          rw [Bool.or_eq_true] at hm
          rcases hm with hm | hm
          · have : n = 1 := by simpa using hm
            subst this
            exact repS_one z
          · have hz : z.cps.size = 0 := by simpa [Str.length] using hm
            obtain ⟨c⟩ := z
            have : c = #[] := Array.eq_empty_of_size_eq_zero hz
            subst this
            unfold repS
            simp
        rw [e] at q
        exact ⟨.str _, H, I, ⟨_, rfl⟩, q⟩
      · rw [if_neg hm]
        have e : (⟨(List.replicate n.toNat z.cps).foldl (· ++ ·) #[]⟩ : Str) = repS z n.toNat := by
          unfold repS
          congr 1
          apply Array.toList_inj.mp
          rw [fold_app]
          simp [List.map_replicate]
        rw [e]
        refine ⟨?_, ⟨.str _, H, I.tok _, ⟨_, rfl⟩, q⟩⟩
        rw [← e]
        refine fits_reps (decide_eq_false ?_)
        have z : sizeLine = 16777216 := sizeLine_eq
        omega
theorem ip_add_str : PIp X .Add (fun x y H Q => ∃ i j, x = .str i ∧ y = .str j ∧ i.length + j.length ≤ sizeLine ∧ Q (.str (i ++ j)) H) := iop_add_str
end
/-! ### walks over a text -/
theorem lc_str {x : Str} {g : TG} {tt : TT} {te : TE} {vs : List Nat} {σ : List (Option V)} {H1 : Hp} {D : Addr} {Qd : Hp → Prop} (Pv : Nat → Hp → Prop) (h0 : Pv 0 (upd H1 D (.lst [])))
    (hs : ∀ i c H, x.cps.toList[i]? = some c → Pv i H → g (.str ⟨#[c]⟩) (wipe σ vs) H fun σ2 H2 => wipe σ2 vs = wipe σ vs ∧ tt σ2 H2 fun b H3 =>
      if b = true then te σ2 H3 fun y H4 => ∃ acc, H4 D = some (.lst acc) ∧ acc.length < sizeLine ∧ Pv (i + 1) (upd H4 D (.lst (acc ++ [y]))) else Pv (i + 1) H3) (hd : ∀ H, Pv x.cps.size H → Qd H) :
    ∃ W : Nat → Nat → Hp → Prop, (∃ m, W 0 m (upd H1 D (.lst []))) ∧ ∀ i m H, W i m H →
      ((Its x).stop i H ∧ Qd H) ∨ ((Its x).go i H ∧ ∃ Nx : Hp → Prop, (∀ H', Nx H' → ∃ m', m' < m ∧ W (i + 1) m' H') ∧ ∀ v H', (Its x).yld i H v H' → g v (wipe σ vs) H' fun σ2 H2 => wipe σ2 vs = wipe σ vs ∧ tt σ2 H2 fun b H3 =>
        if b = true then te σ2 H3 fun y H4 => ∃ acc, H4 D = some (.lst acc) ∧ acc.length < sizeLine ∧ Nx (upd H4 D (.lst (acc ++ [y]))) else Nx H3) := by
  refine ⟨fun i m H => m = x.cps.size - i ∧ i ≤ x.cps.size ∧ Pv i H, ⟨x.cps.size, by simp, Nat.zero_le _, h0⟩, ?_⟩
  rintro i m H ⟨rfl, hi, p⟩
  by_cases hlt : i < x.cps.size
  · refine .inr ⟨hlt, Pv (i + 1), fun H' p' => ⟨x.cps.size - (i + 1), by omega, rfl, hlt, p'⟩, fun v H' y => ?_⟩
    obtain ⟨e, c, ec, ev⟩ := y
    subst e ev
    exact hs i c _ (by rw [Array.getElem?_toList]; exact ec) p
  · have e : i = x.cps.size := by omega
    subst e
    exact .inl ⟨Nat.le_refl _, hd H p⟩
theorem for_str {x : Str} {g : TG} {tb : TS} {D : Ends} {σ : List (Option V)} {H : Hp} (Pv : Nat → List (Option V) → Hp → Prop) (h0 : Pv 0 σ H)
    (hs : ∀ i c σ H, x.cps.toList[i]? = some c → Pv i σ H → g (.str ⟨#[c]⟩) σ H fun σ2 H2 => tb { D with nx := Pv (i + 1), ct := Pv (i + 1), bk := D.nx } σ2 H2) (hd : ∀ σ H, Pv x.cps.size σ H → D.nx σ H) :
    ∃ W : Nat → Nat → List (Option V) → Hp → Prop, (∃ m, W 0 m σ H) ∧ ∀ i m σ H, W i m σ H →
      ((Its x).stop i H ∧ D.nx σ H) ∨ ((Its x).go i H ∧ ∃ N : List (Option V) → Hp → Prop, (∀ σ' H', N σ' H' → ∃ m', m' < m ∧ W (i + 1) m' σ' H') ∧ ∀ v H', (Its x).yld i H v H' → g v σ H' fun σ2 H2 => tb { D with nx := N, ct := N, bk := D.nx } σ2 H2) := by
  refine ⟨fun i m σ H => m = x.cps.size - i ∧ i ≤ x.cps.size ∧ Pv i σ H, ⟨x.cps.size, by simp, Nat.zero_le _, h0⟩, ?_⟩
  rintro i m σ H ⟨rfl, hi, p⟩
  by_cases hlt : i < x.cps.size
  · refine .inr ⟨hlt, Pv (i + 1), fun σ' H' p' => ⟨x.cps.size - (i + 1), by omega, rfl, hlt, p'⟩, fun v H' y => ?_⟩
    obtain ⟨e, c, ec, ev⟩ := y
    subst e ev
    exact hs i c σ _ (by rw [Array.getElem?_toList]; exact ec) p
  · have e : i = x.cps.size := by omega
    subst e
    exact .inl ⟨Nat.le_refl _, hd σ H p⟩
theorem cutV_from (xs : List V) (k : Nat) : cutV xs (some (k : Int)) none = xs.drop k := by
  unfold cutV
  rw [HT.sIx_nat, HT.sIx_none]
  by_cases h : k ≤ xs.length
  · rw [Nat.min_eq_left h, List.take_of_length_le (by rw [List.length_drop]; exact Nat.le_refl _)]
  · rw [Nat.min_eq_right (by omega), List.drop_eq_nil_of_le (Nat.le_refl _), List.drop_eq_nil_of_le (by omega), List.take_nil]
/-! ### the rules with the written part K by name (within a comprehension X.K is not read off) -/
section
variable {X : Cx} (K : PySem.W.Frag)
theorem ix_list_ (h : X.K = K := by rfl) : IxR X (rIxL K) := h ▸ ix_list
theorem ix_tup_ (h : X.K = K := by rfl) : IxR X (rIxT K) := h ▸ ix_tup
theorem ix_seq_ (h : X.K = K := by rfl) : IxR X (rIx K) := h ▸ ix_seq
theorem sl_list_ (h : X.K = K := by rfl) : SlR X (rSlL K) := h ▸ sl_list
theorem sl_tupA_ (h : X.K = K := by rfl) : SlR X (rSlA K) := h ▸ sl_tupA
def rLenV (K : PySem.W.Frag) : List V → Hp → VK → Prop := fun xs H Q => ∃ x n, xs = [x] ∧ LenV K x H n ∧ Q (.int (n : Nat)) H
theorem call_len_ (h : X.K = K := by rfl) : CallR X (.builtin "len") (rLenV K) := h ▸ call_len
def rLenQ (K : PySem.W.Frag) : List V → Hp → VK → Prop := fun xs H Q => ∃ p ys, xs = [.ref p] ∧ (SqL K H p ys ∨ SqT K H p ys) ∧ Q (.int ys.length) H
theorem call_len_seq_ (h : X.K = K := by rfl) : CallR X (.builtin "len") (rLenQ K) := h ▸ call_len_seq
def rLenS : List V → Hp → VK → Prop := fun xs H Q => ∃ z, xs = [.str z] ∧ z.length ≤ sizeLine ∧ Q (.int z.length) H
theorem call_len_str_ : CallR X (.builtin "len") rLenS := call_len_str
theorem call_isi_ (h : X.K = K := by rfl) : CallR X (.builtin "isinstance") (rIsi K) := h ▸ call_isi
theorem call_isiT_ (h : X.K = K := by rfl) : CallR X (.builtin "isinstance") (rIsiT K) := h ▸ call_isiT
theorem cr_sum_ (hc : X.calm = true) (h : X.K = K := by rfl) : CallR X (.builtin "sum") (rSum K) := h ▸ cr_sum hc
theorem cr_max_ (hc : X.calm = true) (h : X.K = K := by rfl) : CallR X (.builtin "max") (rMax K) := h ▸ cr_max hc
theorem cr_min_ (hc : X.calm = true) (h : X.K = K := by rfl) : CallR X (.builtin "min") (rMin K) := h ▸ cr_min hc
theorem cr_all_ (hc : X.calm = true) (h : X.K = K := by rfl) : CallR X (.builtin "all") (rAll K) := h ▸ cr_all hc
theorem cr_any_ (hc : X.calm = true) (h : X.K = K := by rfl) : CallR X (.builtin "any") (rAny K) := h ▸ cr_any hc
def rTupOf (K : PySem.W.Frag) : List V → Hp → VK → Prop := fun xs H Q => ∃ p ys, xs = [.ref p] ∧ ((SqL K H p ys ∧ ∀ l, H l = none → Q (.ref l) (upd H l (.tup ys))) ∨ (SqT K H p ys ∧ Q (.ref p) H))
theorem call_tuple_of_ (h : X.K = K := by rfl) : CallR X (.type "tuple") (rTupOf K) := h ▸ call_tuple_of
def rListOf (K : PySem.W.Frag) : List V → Hp → VK → Prop := fun xs H Q => ∃ p ys, xs = [.ref p] ∧ (SqL K H p ys ∨ SqT K H p ys) ∧ ∀ l, H l = none → Q (.ref l) (upd H l (.lst ys))
theorem call_list_of_ (h : X.K = K := by rfl) : CallR X (.type "list") (rListOf K) := h ▸ call_list_of
theorem op_eqD_ (hu : X.A.units + 64 < cLine) (h : X.K = K := by rfl) : OpR X (compareOp .Eq) (rEqD K) := h ▸ op_eqD hu
theorem op_neD_ (hu : X.A.units + 64 < cLine) (h : X.K = K := by rfl) : OpR X (compareOp .NotEq) (rNeD K) := h ▸ op_neD hu
theorem op_in_seq_ (h : X.K = K := by rfl) : OpR X (compareOp .In) (rIn K false) := h ▸ op_in_seq
theorem op_notIn_seq_ (h : X.K = K := by rfl) : OpR X (compareOp .NotIn) (rIn K true) := h ▸ op_notIn_seq
def rJoinK (K : PySem.W.Frag) : V → List V → Hp → VK → Prop := fun x xs H Q => ∃ a p, ∃ ys : List Str, x = .str a ∧ xs = [.ref p] ∧ (SqL K H p (ys.map V.str) ∨ SqT K H p (ys.map V.str)) ∧ (ys.map (·.length)).sum + ys.length * a.length ≤ 16777216 ∧ Q (.str (Txt.join a ys)) H
theorem pe_join_ {o e : Expr} {to te : TE} {apos pos : Pos} (ho : PE X o to) (he : PE X e te) (hK : X.K = K := by rfl) (hs : starEach [e] X.env = [(false, eval e X.env)] := by rfl) (hbase : attributeBase o "join" X.env (eval o X.env) = eval o X.env := by rfl) (hline : (apos.endLine == pos.line) = true := by rfl) :
    PE X (.Call (.Attribute o "join" apos) [e] [] pos) (tM1 (rJoinK K) to te) := hK ▸ pe_join ho he hs hbase hline
theorem pi_tup_ {tg l : Expr} {tl : TE} (hl : PE X l tl) (h : X.K = K := by rfl) : PI X tg l (iTup K tl) := h ▸ pi_tup hl
theorem pi_list_ {tg l : Expr} {tl : TE} (hl : PE X l tl) (h : X.K = K := by rfl) : PI X tg l (iList K tl) := h ▸ pi_list hl
theorem op_catA_ (h : X.K = K := by rfl) : OpR X (binaryOp .Add) (rCatA K) := h ▸ op_catA
end
/-! ### what the law's own draws keep -/
/-- a source of draws: at h a list of a number, a list of numbers at q, a number -/
structure LawH (H : Hp) (h q : Addr) : Prop where
  ne : h ≠ q
  src : ∃ (st ix : Int) (cells : List Int), H h = some (.lst [.int st, .ref q, .int ix]) ∧ H q = some (.lst (cells.map V.int)) ∧ cells.length ≤ 1000
/-- all but the source stands as it was -/
def Sm (h q : Addr) (H H' : Hp) : Prop := ∀ b o, H b = some o → b ≠ h → b ≠ q → H' b = some o
theorem Sm.refl (h q : Addr) (H : Hp) : Sm h q H H := fun _ _ e _ _ => e
theorem Sm.trans {h q : Addr} {H H1 H2 : Hp} (a : Sm h q H H1) (b : Sm h q H1 H2) : Sm h q H H2 := fun c o e n m => b c o (a c o e n m) n m
theorem Sm.of {h q : Addr} {H H' : Hp} (a : Same H H') : Sm h q H H' := fun c o e _ _ => a c o e
theorem Sm.seq {K : PySem.W.Frag} {h q : Addr} {H H' : Hp} {a : Addr} {xs : List V} (e : Sm h q H H') (n1 : a ≠ h) (n2 : a ≠ q) (z : SqL K H a xs) : SqL K H' a xs := by
  rcases z with (z | ⟨o, z⟩) | z
  · exact .inl (.inl (e _ _ z n1 n2))
  · exact .inl (.inr ⟨o, e _ _ z n1 n2⟩)
  · exact .inr z
theorem Sm.seqT {K : PySem.W.Frag} {h q : Addr} {H H' : Hp} {a : Addr} {xs : List V} (e : Sm h q H H') (n1 : a ≠ h) (n2 : a ≠ q) (z : SqT K H a xs) : SqT K H' a xs := by
  rcases z with (z | ⟨o, z⟩) | z
  · exact .inl (.inl (e _ _ z n1 n2))
  · exact .inl (.inr ⟨o, e _ _ z n1 n2⟩)
  · exact .inr z
theorem LawH.same {H H' : Hp} {h q : Addr} (L : LawH H h q) (a : Same H H') : LawH H' h q := by
  obtain ⟨n, st, ix, cells, e1, e2, e3⟩ := L
  exact ⟨n, st, ix, cells, a _ _ e1, a _ _ e2, e3⟩
theorem LawH.nn {H : Hp} {h q : Addr} (L : LawH H h q) : H h ≠ Option.none ∧ H q ≠ Option.none := by
  obtain ⟨n, st, ix, cells, e1, e2, e3⟩ := L
  exact ⟨fun z => by (rw [e1] at z; cases z), fun z => by (rw [e2] at z; cases z)⟩
theorem LawH.tup_ne {H : Hp} {h q t : Addr} {xs : List V} (L : LawH H h q) (e : H t = some (.tup xs)) : t ≠ h ∧ t ≠ q := by
  obtain ⟨n, st, ix, cells, e1, e2, e3⟩ := L
  exact ⟨fun z => by (rw [z, e1] at e; cases e), fun z => by (rw [z, e2] at e; cases e)⟩
theorem LawH.updL {H : Hp} {h q D : Addr} {l : List V} (L : LawH H h q) (n1 : D ≠ h) (n2 : D ≠ q) : LawH (upd H D (.lst l)) h q := by
  obtain ⟨ne, st, ix, cells, a, b, d⟩ := L
  exact ⟨ne, st, ix, cells, by rw [upd_ne (Ne.symm n1)]; exact a, by rw [upd_ne (Ne.symm n2)]; exact b, d⟩
theorem SqT.updL {K : PySem.W.Frag} {H : Hp} {a D : Addr} {xs l l' : List V} (e : H D = some (.lst l)) (z : SqT K H a xs) : SqT K (upd H D (.lst l')) a xs := by
  rcases z with (z | ⟨o, z⟩) | z
  · exact .inl (.inl (by rw [upd_ne (fun y => by rw [y, e] at z; cases z)]; exact z))
  · exact .inl (.inr ⟨o, by rw [upd_ne (fun y => by rw [y, e] at z; cases z)]; exact z⟩)
  · exact .inr z
end St
namespace St
open PySem PySem.Spec PyProof.Rows L2
/-! ### own errors -/
/-- the class at x -/
def ClsAt (K : PySem.W.Frag) (x : Str) (C : Addr) : Prop := PySem.W.nsIn K mainGlobals x = some (some (.ref C))
theorem ClsAt.one {K : PySem.W.Frag} {x : Str} {C D : Addr} (h : ClsAt K x C) (h' : ClsAt K x D) : C = D := by
  have := h.symm.trans h'
  cases this
  rfl
/-- what the top has written of an own error class without own __init__ -/
structure ExT (K : PySem.W.Frag) (mg : Str → Option Value) (x : Str) (C : Addr) : Prop where
  n : ClsAt K x C
  g : mg x = some (.ref C)
  q : PySem.W.excIn K C [.type "ValueError", .type "Exception", .type "BaseException", .type "object"] "ValueError.__new__" = true
  k : PySem.W.keepIn K (.ref C) = true
  b : PySem.W.subIn K (.ref C) (.type "BaseException") = some true
  t : PySem.W.typeIn K (.ref C) = some (.type "type")
  d : PySem.W.hasDictIn K C = true
  s : PySem.W.subIn K (.ref C) (.ref C) = some true
theorem ExT.te {K : PySem.W.Frag} {mg : Str → Option Value} {x : Str} {C : Addr} (T : ExT K mg x C) : PySem.W.exmOne K (.ref C) (.ref C) = some true :=
  PySem.W.exm_ref T.b T.d T.t T.s
/-- as Cal, of a def that may raise -/
structure CalR (P : Program) (w : World) (K : PySem.W.Frag) (mg : Str → Option Value) (base : Heap) (x : Str) (ps : List Str) (k : Nat) (sp : Sp) (f : Addr) (fd : FuncData) : Prop where
  ok : FnOk P w K mg base (L2.CX P w) k f fd ps sp
  g : mg x = some (.ref f)
  kp : PySem.W.keepIn K (.ref f) = true
  b : Binds K fd ps []
def CalX (P : Program) (w : World) (K : PySem.W.Frag) (mg : Str → Option Value) (base : Heap) (x : Str) (ps : List Str) (k : Nat) (sp : Sp) : Prop := ∃ f fd, CalR P w K mg base x ps k sp f fd
section
variable {X : Cx} {C : Addr} {bmB : List Value} {B newId initId : String}
/-- X() -/
theorem pmk_own0 {x : Str} {p pos : Pos} (F : ExcBaseFacts B newId initId bmB) (q : PySem.W.excIn X.K C bmB newId = true) (gC : X.mg x = some (.ref C)) (kC : PySem.W.keepIn X.K (.ref C) = true) (r : Raises X (.ref C)) (hg : Gl X x)
    (hdb : (x == ("__debug__" : Str)) = false := by decide) : PMk X (.Call (.Name x p) [] [] pos) (fun _ H Q => Q (.ref C) none H) := by
  intro pins s σ H Q I h
  refine wpAny_Call_Name_kw (ld_glob I hg gC ?_ hdb)
  refine PySem.W.callWith_K0 I.kIn kC ?_
  show wpAny _ _ (call (.ref C) []) _ _ _
  obtain ⟨bm, N, nm, qn, bs, hdct, sn, sub, ab, col, dd, k0, k1, k2, k3, k5, mN, hC, hN, hni, T⟩ := exc_obj I.kIn q
  refine wpAny_call_exc_subT F T hC hN hni (fun h' e hm => ?_) (Nat.zero_le _)
  exact mk_of I hm r h (I.hok.gone hm.new)
theorem ps_raise0 {x : Str} {p pos pos2 : Pos} {W : WX} (tk : Takes X W) (T : ExT X.K X.mg x C) (hg : Gl X x) (hdb : (x == ("__debug__" : Str)) = false := by decide) (hc : X.calm = true := by rfl) :
    PS X (.Raise (some (.Call (.Name x p) [] [] pos)) none pos2) (fun _ σ H => W (.ref C) none σ H) :=
  ps_raise hc tk (pmk_own0 PySem.F.excBase_ValueError T.q T.g T.k (raises_own T.b T.t) hg hdb)
/-- isinstance(e, c), e the error that the suite holds -/
theorem call_isX {a D : Addr} {oe : Obj} {cls : Value} {d : Option Addr} {pn : List (Addr × Obj)} (E : ExcC X.K D) (hz : Zc cls d oe) (hf : ∃ vs, oe.data = .fields vs) :
    CallR (X.suite a ((a, oe) :: pn)) (.builtin "isinstance") (fun xs H Q => cls = .ref D ∧ d = none ∧ rIsE X.K D a xs H Q) := by
  intro pins s σ H xs us Q I r h
  obtain ⟨rfl, rfl, h⟩ := h
  exact call_isE E hz hf pins s σ H xs us Q I r h
end
theorem kit_sub {K : PySem.W.Frag} {C S : Addr} (hd : PySem.W.hasDictIn K S = true) (ht : PySem.W.typeIn K (.ref S) = some (.type "type")) (h : PySem.W.subIn K (.ref C) (.ref S) = some true) : PySem.W.kitOne K (.ref C) (.ref S) = some true := by
  obtain ⟨cd, hc, _⟩ := PySem.W.any_some hd
  have e : ((PySem.W.clsIn K S).isSome && PySem.W.typeIn K (.ref S) == some (.type "type")) = true := by rw [hc, ht] <;> rfl
  show (if (Value.ref C == Value.ref S) = true then some true else (if ((PySem.W.clsIn K S).isSome && PySem.W.typeIn K (.ref S) == some (.type "type")) = true then PySem.W.subIn K (.ref C) (.ref S) else none)) = some true
  rw [if_pos e, h]
  split <;> rfl
end St
namespace St
open PySem PySem.Spec PyProof.Rows L2
/-! ### an instance of an own class beside other values -/
namespace InstCmp
open PySem PySem.Spec PyProof.Rows PySem.SeqAt
open MeetsSeq MeetsSeq2 MeetsSeq3 SeqRoads2
theorem int_declines_inst (b : Int) (u : Tok) (l C dx : Addr) :
    Meets (Builtin.«int.__eq__» ⟨[.int b u, .ref l], []⟩) (fun _ R s => s.heap.get? l = some (PySem.W.instObj C dx) ∧ R (.ok (.ret .notImplemented)) s) :=
  .of_wp fun prog w A R s h => by
    obtain ⟨hp, g, d, tk, os⟩ := s
    obtain ⟨hl, h⟩ := h
    unfold PySem.W.instObj at hl
    wp_walk using PySem.AutoSeq1.wpAny_loadPart' hl, wpAny_load hl
    exact ⟨_, rfl, h⟩
theorem str_declines_inst (b : Str) (u : Tok) (l C dx : Addr) :
    Meets (Builtin.«str.__eq__» ⟨[.str b u, .ref l], []⟩) (fun _ R s => s.heap.get? l = some (PySem.W.instObj C dx) ∧ R (.ok (.ret .notImplemented)) s) :=
  .of_wp fun prog w A R s h => by
    obtain ⟨hp, g, d, tk, os⟩ := s
    obtain ⟨hl, h⟩ := h
    unfold PySem.W.instObj at hl
    wp_walk using PySem.AutoSeq1.wpAny_loadPart' hl, wpAny_load hl
    exact ⟨_, rfl, h⟩
section
variable {prog : Program} {w : World} {A : Around} {E : Value → Shared → Prop} {s : Shared} {K : PySem.W.Frag} {x C : Addr} {ox : Obj} {od : Option Obj} {v : Value} {T : String}
theorem entry_v (same : ∀ (R : Bool → Shared → Prop) (A : Around) (E : Value → Shared → Prop), R false s → wpAny (model prog w) A (isSame (.ref x) v) R E s) {Q : Fin → Shared → Prop} (hq : Q (.done (.ret .notImplemented)) s) :
    wpAny (model prog w) A (Builtin.«object.__eq__» ⟨[.ref x, v], []⟩) Q E s := by
  unfold Builtin.«object.__eq__»
  repeat (first | with_reducible refine same _ _ _ ?_ | wp_step)
  exact hq
theorem call_v (X : K.In s.heap) (I : PySem.W.InstAt s.heap x ox C od) (hm : PySem.W.mroIn K C (.type "object") = some true) (same : ∀ (R : Bool → Shared → Prop) (A : Around) (E : Value → Shared → Prop), R false s → wpAny (model prog w) A (isSame (.ref x) v) R E s) {Q : Value → Shared → Prop} (hq : Q .notImplemented s) :
    wpAny (model prog w) A (call (.builtin "object.__eq__") [.ref x, v]) Q E s :=
  wpAny_call (codeAny_call_builtin F.cmp_object.eq.plain F.cmpEntry_eq (PySem.W.check_slot F.cmpKind_eq F.cmpSplit_eq (I.type.andThen (PySem.W.looks_mroIn X hm)) (F.cmpArgs_eq _ _) (entry_v same hq)))
theorem sub_cls {c : String} (hT : fastBuiltinMro c = some l) (hl : l.contains (.ref C) = false) : PySem.W.subIn K (.type c) (.ref C) = some false := by
  show (fastBuiltinMro c).map (·.contains (.ref C)) = some false
  rw [hT]
  show some (l.contains (.ref C)) = some false
  rw [hl]
theorem rc_v {Q : Value → Shared → Prop} (hu : A.units < cLine) (X : K.In s.heap) (I : PySem.W.InstAt s.heap x ox C od) (hm : PySem.W.mroIn K C (.type "object") = some true) (hs : PySem.W.findIn K (.ref C) "__eq__" = some (some (.builtin "object.__eq__")))
    (hv : s.TypeIs v T) (hsub : PySem.W.subIn K (.type T) (.ref C) = some false) (same : ∀ (R : Bool → Shared → Prop) (A : Around) (E : Value → Shared → Prop), R false s → wpAny (model prog w) A (isSame (.ref x) v) R E s)
    (two : wpAny (model prog w) A (tryCompare v "__eq__" (.ref x)) (fun r s' => r = none ∧ s' = s) E s) (h : Q (.bool false) s) :
    wpAny (model prog w) A (richCompare .Eq (.ref x) v) Q E s := by
  have one : wpAny (model prog w) A (tryCompare (.ref x) "__eq__" v) (fun r s' => r = none ∧ s' = s) E s := by
    unfold tryCompare
    exact wpAny_bind (HN.ifBound_objEq X I hs (call_v X I hm same (wpAny_pure ⟨rfl, rfl⟩)))
  simp only [richCompare, cmpInfo_Eq, oneThing_ref]
  refine wpAny_holding (wpAny_bind (wpAny_cRoomFor hu ?_))
  refine wpAny_bind (I.type.here ?_)
  refine wpAny_bind (wpAny_typeOf hv ?_)
  split
  · refine wpAny_bind ((PySem.W.looks_subIn X hsub).here ?_)
    simp only [Bool.false_eq_true, if_false, Bool.not_false, if_true]
    refine wpAny_bind (m := tryCompare (.ref x) _ v) (wpAny_mono one (fun r s1 z => ?_) fun _ _ e => e)
    obtain ⟨z1, z2⟩ := z
    subst z1
    subst z2
    refine wpAny_bind (m := tryCompare v _ (.ref x)) (wpAny_mono two (fun r s2 z => ?_) fun _ _ e => e)
    obtain ⟨z1, z2⟩ := z
    subst z1
    subst z2
    exact wpAny_bind (wpAny_rule (wpAny_bind (same _ _ _ (wpAny_pure h))))
  · rename_i q
    exact absurd (by simp) q
theorem tuple_declines_inst {t dx : Addr} {items : Array Value} {n : Nat} {dd : Option Addr} {sl : Array (Option Value)} {Q : Value → Shared → Prop} (X : K.In s.heap) (ht : s.heap.get? t = some { cls := .type "tuple", dict := dd, data := .seq items n, slots := sl }) (I : PySem.W.InstAt s.heap x ox C od) (hx : s.heap.get? x = some (PySem.W.instObj C dx))
    (hsub : PySem.W.subIn K (.ref C) (.type "tuple") = some false) (hq : Q .notImplemented s) :
    wpAny (model prog w) A (call (.builtin "tuple.__eq__") [.ref t, .ref x]) Q E s := by
  have body : ∀ {A : Around} {E : Value → Shared → Prop} {R : Fin → Shared → Prop}, R (.done (.ret .notImplemented)) s → wpAny (model prog w) A (Builtin.«tuple.__eq__» ⟨[.ref t, .ref x], []⟩) R E s := fun {A E R} hr => by
    obtain ⟨hp, g, d, tk, os⟩ := s
    unfold PySem.W.instObj at hx
    wp_walk using PySem.AutoSeq1.wpAny_loadPart' ht, PySem.AutoSeq1.wpAny_loadPart' hx, wpAny_load hx
    refine (PySem.W.looks_subIn X hsub).here ?_
    wp_walk
    exact hr
  have LT : PySem.W.Looks (model prog w) s.heap (typeOf (.ref t)) (.type "tuple") := (PySem.W.Looks.ld ht).andThen .now
  have LS : PySem.W.Looks (model prog w) s.heap (isSubtype (.type "tuple") (.type "tuple")) true := PySem.W.looks_subIn X (by
    show (fastBuiltinMro "tuple").map (·.contains (.type "tuple")) = some true
    decide +kernel)
  exact wpAny_call (codeAny_call_builtin F.slot_tuple_eq.plain F.entry_tuple_eq (PySem.W.check_slot (show builtinKind "tuple.__eq__" = some .slot by decide +kernel) (show splitId "tuple.__eq__" = some ("tuple", "__eq__") by decide +kernel) (LT.andThen LS) (F.args_tuple_eq_2 _ _) (body hq)))
end
end InstCmp
/-- what of the text an own class without own == has -/
structure EqC (K : PySem.W.Frag) (C : Addr) : Prop where
  mro : PySem.W.mroIn K C (.type "object") = some true
  eq : PySem.W.findIn K (.ref C) "__eq__" = some (some (.builtin "object.__eq__"))
  tup : PySem.W.subIn K (.ref C) (.type "tuple") = some false
section
variable {X : Cx}
/-- o == y: never, where y is a number, a text or a tuple -/
def rEqI (K : PySem.W.Frag) : R2 := fun x y H Q => ∃ a C dx fs, x = .ref a ∧ H a = some (.ins C dx fs) ∧ EqC K C ∧ ((∃ i, y = .int i) ∨ (∃ z, y = .str z) ∨ ∃ t ys, y = .ref t ∧ SqT K H t ys) ∧ Q (.bl false) H
theorem op_eqI (hu : X.A.units + 64 < cLine) : OpR X (compareOp .Eq) (rEqI X.K) := by
  intro pins s σ H x y v u Q I rx ry h
  obtain ⟨a, C, dx, fs, rfl, ha, c, hy, q⟩ := h
  cases rx
  obtain ⟨mA, O, _⟩ := ins_get I.hok ha
  obtain ⟨od, J, _⟩ := O.look
  have hu1 : X.A.units < cLine := by omega
  have fin : EP X pins σ Q (.bool false) s := ⟨.bl false, H, I, rfl, q⟩
  rcases hy with ⟨i, rfl⟩ | ⟨z, rfl⟩ | ⟨t, ys, rfl, hs⟩
  · obtain ⟨tk, rfl⟩ := ry
    refine InstCmp.rc_v (v := .int i tk) (T := "int") hu1 I.kIn J c.mro c.eq (typeIs_int s i tk) (InstCmp.sub_cls (l := [.type "int", .type "object"]) (by decide +kernel) rfl) (fun R A E h => wpAny_of_eq (rfl : isSame (.ref a) (.int i tk) = pure false) h) ?_ fin
    exact wpAny_tryCompare_declines (typeIs_int s i tk) F.slot_int_eq_refl (PySem.call_meets F.slot_int_eq_refl (typeIs_int s i tk) F.entry_int_eq (F.args_int_eq_2 _ _) (InstCmp.int_declines_inst i tk a C dx) ⟨O.obj, ⟨rfl, rfl, rfl⟩⟩)
  · obtain ⟨tk, rfl⟩ := ry
    refine InstCmp.rc_v (v := .str z tk) (T := "str") hu1 I.kIn J c.mro c.eq (typeIs_str s z tk) (InstCmp.sub_cls (l := [.type "str", .type "object"]) (by decide +kernel) rfl) (fun R A E h => wpAny_of_eq (rfl : isSame (.ref a) (.str z tk) = pure false) h) ?_ fin
    exact wpAny_tryCompare_declines (typeIs_str s z tk) F.slot_str_eq_refl (PySem.call_meets F.slot_str_eq_refl (typeIs_str s z tk) F.entry_str_eq (F.args_str_eq_2 _ _) (InstCmp.str_declines_inst z tk a C dx) ⟨O.obj, ⟨rfl, rfl, rfl⟩⟩)
  · cases ry
    obtain ⟨its, rv, hl, hz⟩ := I.tuple hs
    obtain ⟨⟨cls, dd, data, sl⟩, ho, hc, n, hd⟩ := id hl
    simp only at hc hd
    subst hc hd
    have hne : a ≠ t := fun z => by
      have h1 := O.obj
      rw [z, ho] at h1
      cases h1
    refine InstCmp.rc_v (v := .ref t) (T := "tuple") hu1 I.kIn J c.mro c.eq ⟨_, ho, rfl⟩ (InstCmp.sub_cls (l := [.type "tuple", .type "object"]) (by decide +kernel) rfl) (fun R A E h => ?_) ?_ fin
    · show wpAny _ A (if (a == t) = true then pure true else _) R E s
      rw [if_neg (by simpa using hne)]
      refine wpAny_bind (wpAny_load O.obj (wpAny_bind (wpAny_load ho ?_)))
      exact wpAny_pure h
    · exact wpAny_tryCompare_declines ⟨_, ho, rfl⟩ F.slot_tuple_eq_refl (InstCmp.tuple_declines_inst I.kIn ho J O.obj c.tup ⟨rfl, rfl, rfl⟩)
theorem op_eqI_ (K : PySem.W.Frag) (hu : X.A.units + 64 < cLine) (h : X.K = K := by rfl) : OpR X (compareOp .Eq) (rEqI K) := h ▸ op_eqI hu
end
section
variable {X : Cx} {k : Nat} {C f : Addr} {fd : FuncData} {ps : List Str} {sp : Sp}
/-- len(o), o an instance of an own class with an own __len__ -/
def rLenO (C : Addr) (sp : Sp) : List V → Hp → VK → Prop := fun xs H Q => ∃ a dx fs, xs = [.ref a] ∧ H a = some (.ins C dx fs) ∧ sp [.ref a] H (fun v H' => ∃ n : Nat, v = .int (n : Int) ∧ n < 2 ^ 62 ∧ Q v H') E0
theorem cr_lenO (m : Meth X.K C "__len__" f) (F : FnOk X.prog X.w X.K X.mg X.base CX0 k f fd ps sp) (hr : Room (k + 1) X.A) (hb : Binds X.K fd ps []) : CallR X (.builtin "len") (rLenO C sp) := by
  intro pins s σ H xs us Q I r h
  obtain ⟨a, dx, fs, rfl, ha, hsp⟩ := h
  rw [Vals.ref1 r]
  obtain ⟨mA, O, _⟩ := ins_get I.hok ha
  obtain ⟨od, J, _⟩ := O.look
  refine Calls.call_function_entry kind_len plain_len entry_len (args_len1 _) ?_
  unfold Builtin.«len»
  refine wpAny_bind (m := oneArg "len" _) (wpAny_pure ?_)
  refine wpAny_bind (m := callSpecial? (.ref a) (Str.ofString "__len__")) ?_
  unfold callSpecial? specialOf
  refine wpAny_bind (wpAny_bind (J.type.here ((PySem.W.looks_findIn I.kIn m.at_).here ?_)))
  refine wpAny_holding ?_
  refine wpAny_bind ((PySem.W.bind_fn I.kIn _ (eq_of_beq m.fn)).here ?_)
  refine wpAny_bind ?_
  show wpAny _ _ (call (.ref f) [.ref a]) _ _ s
  have hl : ([Value.ref a] ++ []).length = ps.length := F.len _ _ _ _ hsp
  refine wpAny_call (codeAny_mono (F.run X.A.in1 X.stack s H ⟨[.ref a], []⟩ [.ref a] [.ref a] _ E0 hr.in1 I.env0.in1 (hb s [.ref a] I.kIn hl) (.cons rfl .nil) hsp) fun r s' hq => ?_)
  cases r with
  | error er => exact pass0 pins σ H s er s' I hq
  | ok fl =>
    cases fl with
    | ret u =>
      obtain ⟨v, H', I3, rv, n, rfl, hn, q3⟩ := I.after hq
      obtain ⟨tk, rfl⟩ := rv
      refine wpAny_pure ?_
      refine wpAny_bind (wpAny_holding (wpAny_pure ?_))
      refine wpAny_bind (wpAny_letGo ?_)
      show wpAny _ _ (if ((n : Nat) : Int) < 0 then _ else _) _ _ _
      rw [if_neg (by omega)]
      show wpAny _ _ (if ((n : Nat) : Int) ≥ 2 ^ 63 then _ else _) _ _ _
      rw [if_neg (by omega)]
      exact wpAny_bind (wpAny_mkInt (wpAny_pure ⟨_, rfl, .int _, H', I3.tok _, ⟨_, rfl⟩, q3⟩))
    | next => exact False.elim hq
    | brk => exact False.elim hq
    | cont => exact False.elim hq
end
section
variable {X : Cx} {CX : CXT} {k : Nat} {f C : Addr} {fd : FuncData} {ps : List Str} {sp : Sp} {E : L2.St → XK} {x m : Str} {p pos apos : Pos} {e o : Expr} {es : List Expr} {ta : TE} {t : TA}
/-- o.m(e, ..), a method that may raise -/
def tMethR (C : Addr) (m : Str) (sp : Sp) (E : L2.St → XK) (ta : TE) (t : TA) : TE := fun σ H Q => ta σ H fun x H1 => ∃ a dx fs, x = .ref a ∧ H1 a = some (.ins C dx fs) ∧ fs.lookup m = none ∧ t σ H1 fun vs H2 => sp (x :: vs) H2 Q (E σ)
theorem pe_methR {pl : Sem Bool} (he : PE X o ta) (c : Cls X.K C) (hm : Meth X.K C m f) (F : FnOk X.prog X.w X.K X.mg X.base CX k f fd ps sp) (hr : Room k X.A) (hb : Binds X.K fd ps []) (hx : ∀ σ, PassesAt CX X σ (E σ)) (ha : PA X (e :: es) t)
    (hst : starEach (e :: es) X.env = (false, eval e X.env) :: starEach es X.env := by rfl) (hpl : (backTo pos (starEach es X.env)).any (·.1) = false := by rfl)
    (ht : eval (.Call (.Attribute o m apos) (e :: es) [] pos) X.env = (do
      let ov ← eval o X.env
      standAt apos.atName
      let (f, first) ← holding [ov] (getMethod ov m pl)
      callWith pos f first (backTo pos (starEach (e :: es) X.env)) (backToKw pos (keywordEach [] X.env))) := by rfl) :
    PE X (.Call (.Attribute o m apos) (e :: es) [] pos) (tMethR C m sp E ta t) := by
  refine ⟨fun pins s σ H Q I h => ?_⟩
  refine PySem.W.methodCall_KW (pl := pl) (thn (he.run pins s σ H _ I h) fun u s1 ⟨x, H1, I1, rx, a, dx, fs, ex, ea, l, q⟩ => ?_) ht
  subst ex
  obtain rfl : u = Value.ref a := rx
  refine getmeth_ok I1 ea c hm l ?_
  refine PySem.W.callWith_K (first := [.ref a]) (h₀ := X.base) I.ok.mod.kin hm.kp (thn (ha.run pos pins s1 σ H1 _ I1 q) fun us s2 ⟨vs, H2, I2, r, q2⟩ => ⟨I2.kIn, ?_⟩) hst hpl
  exact run_fnS (us := .ref a :: us) (vs := .ref a :: vs) F hr hb (hx σ) I2 (.cons rfl r) q2
/-- C(e, ..), an __init__ that may raise -/
def tMakeR (C : Addr) (sp : Sp) (E : L2.St → XK) (t : TA) : TE := fun σ H Q => t σ H fun vs H1 => ∀ x dx, H1 x = none → H1 dx = none → dx ≠ x → sp (.ref x :: vs) (upd (upd H1 dx (.own x)) x (.ins C dx [])) (fun v H2 => v = .non ∧ Q (.ref x) H2) (E σ)
theorem run_makeR {pins : List (Addr × Obj)} {σ : L2.St} {H : Hp} {s : Shared} {Q : VK} {us : List Value} {vs : List V} (M : Mk X.K C f) (F : FnOk X.prog X.w X.K X.mg X.base CX k f fd ps sp) (hr : Room (k + 1) X.A) (hb : Binds X.K fd ps [])
    (hx : PassesAt CX X σ (E σ)) (I : Inv X pins σ H s) (r : Vals vs us)
    (h : ∀ x dx, H x = none → H dx = none → dx ≠ x → sp (.ref x :: vs) (upd (upd H dx (.own x)) x (.ins C dx [])) (fun v H2 => v = .non ∧ Q (.ref x) H2) (E σ)) :
    wpAny (model X.prog X.w) X.A (call (.ref C) us) (EP X pins σ Q) X.xe s := by
  have hq := h (s.heap.objs.size + 1) s.heap.objs.size (I.hok.fresh (Nat.le_succ _)) (I.hok.fresh (Nat.le_refl _)) (Nat.ne_of_lt (Nat.lt_succ_self _))
  have I2 := Inv.made (C := C) I
  have r2 : Vals (V.ref (s.heap.objs.size + 1) :: vs) (Value.ref (s.heap.objs.size + 1) :: us) := .cons rfl r
  have hl : (Value.ref (s.heap.objs.size + 1) :: us ++ []).length = ps.length := by
    have e := r2.length
    rw [F.len _ _ _ _ hq] at e
    rw [List.append_nil]
    exact e.symm
  have hbb := hb _ (Value.ref (s.heap.objs.size + 1) :: us) I2.kIn hl
  rw [List.append_nil] at hbb
  refine wpAny_call (make_map (f := f) I.kIn M.makes M.init (beq_iff_eq.mp M.fn) (codeAny_mono (F.run _ X.stack _ _ ⟨Value.ref (s.heap.objs.size + 1) :: us, []⟩ (Value.ref (s.heap.objs.size + 1) :: us) _ _ (E σ) (hr.make C us [])
    (I2.env0.make C us []) hbb r2 hq) fun r s' hq' => ?_))
  cases r with
  | error e => exact hx pins _ _ e s' I2 hq'
  | ok fl =>
    cases fl with
    | ret u =>
      obtain ⟨v, H', I3, rv, ev, q3⟩ := I2.after hq'
      subst ev
      exact ⟨rv, ⟨V.ref (s.heap.objs.size + 1), H', I3, rfl, q3⟩⟩
    | next => exact False.elim hq'
    | brk => exact False.elim hq'
    | cont => exact False.elim hq'
theorem pe_makeR (M : Mk X.K C f) (F : FnOk X.prog X.w X.K X.mg X.base CX k f fd ps sp) (hr : Room (k + 1) X.A) (hg : Gl X x) (hm : X.mg x = some (.ref C)) (hb : Binds X.K fd ps []) (hx : ∀ σ, PassesAt CX X σ (E σ))
    (ha : PA X (e :: es) t) (hdb : (x == ("__debug__" : Str)) = false := by decide) (he : starEach (e :: es) X.env = (false, eval e X.env) :: starEach es X.env := by rfl) (hpl : (backTo pos (starEach es X.env)).any (·.1) = false := by rfl) :
    PE X (.Call (.Name x p) (e :: es) [] pos) (tMakeR C sp E t) := by
  refine ⟨fun pins s σ H Q I h => ?_⟩
  refine wpAny_Call_Name_kw (ld_glob I hg hm ?_ hdb)
  refine PySem.W.callWith_K (h₀ := X.base) I.ok.mod.kin M.kp (thn (ha.run pos pins s σ H _ I h) fun us s1 ⟨vs, H1, I1, r, q⟩ => ⟨I1.kIn, ?_⟩) he hpl
  exact run_makeR M F hr hb (hx σ) I1 r q
end
/-- what the top has written of an own class -/
structure ObC (K : PySem.W.Frag) (mg : Str → Option Value) (x : Str) (C : Addr) : Prop where
  cl : Cls K C
  g : mg x = some (.ref C)
  e : EqC K C
/-- where a method, a getter, an __init__ stands (A), and that it keeps its promise -/
def AtM (K : PySem.W.Frag) (A : Addr → Prop) (m q : Str) (st : Stmt) (ps : List Str) : Prop := ∃ f fd, Fun K m q st f fd ∧ A f ∧ Binds K fd ps []
def CalM (P : Program) (w : World) (K : PySem.W.Frag) (mg : Str → Option Value) (base : Heap) (CX : CXT) (A : Addr → Prop) (ps : List Str) (k : Nat) (sp : Sp) : Prop := ∃ f fd, FnOk P w K mg base CX k f fd ps sp ∧ A f ∧ Binds K fd ps []
/-- o.f += s on texts -/
theorem in_addSS {X : Cx} : InOp X .Add (fun x y H Q => ∃ i j, x = .str i ∧ y = .str j ∧ i.length + j.length ≤ sizeLine ∧ Q (.str (i ++ j)) H) := fun pins s σ H x y u v Q I rx ry h => iop_add_str pins s σ H x y u v Q I rx ry h
end St
namespace St
open PySem PySem.Spec PyProof.Rows L2
/-! ### texts of the signs 0 and 1, words by a step -/
def sg (b : Bool) : Nat := if b then 49 else 48
theorem sg_inj {a b : Bool} (h : sg a = sg b) : a = b := by
  cases a <;> cases b <;> first | rfl | (exact absurd h (by decide))
/-- the text of some signs -/
def tx (l : List Bool) : Str := ⟨(l.map sg).toArray⟩
theorem tx_list (l : List Bool) : (tx l).cps.toList = l.map sg := by simp [tx]
theorem tx_len (l : List Bool) : (tx l).length = l.length := by simp [tx, Str.length]
theorem str_ext {a b : Str} (h : a.cps.toList = b.cps.toList) : a = b := by
  obtain ⟨a⟩ := a
  obtain ⟨b⟩ := b
  exact congrArg Str.mk (Array.toList_inj.mp h)
theorem app_list (a b : Str) : (a ++ b).cps.toList = a.cps.toList ++ b.cps.toList := by
  show (Str.append a b).cps.toList = _
  unfold Str.append
  simp
theorem tx_app (a b : List Bool) : tx a ++ tx b = tx (a ++ b) := by
  apply str_ext
  rw [app_list, tx_list, tx_list, tx_list, List.map_append]
theorem tx_inj {a b : List Bool} (h : tx a = tx b) : a = b := by
  have e : a.map sg = b.map sg := by rw [← tx_list, ← tx_list, h]
  exact (List.map_inj_right (fun _ _ h => sg_inj h)).mp e
theorem tx_one : ("1" : Str) = tx [true] := by decide +kernel
theorem tx_zero : ("0" : Str) = tx [false] := by decide +kernel
theorem tx_nil : ("" : Str) = tx [] := by decide +kernel
theorem tx_rep (b : Bool) (n : Nat) : repS (tx [b]) n = tx (List.replicate n b) := by
  apply str_ext
  unfold repS
  rw [tx_list]
  simp only [tx_list, List.map_replicate]
  induction n with
  | zero => rfl
  | succ n ih =>
    rw [List.replicate_succ, List.flatten_cons, ih, List.replicate_succ]
    rfl
/-- so many figures of a number by twos, the highest first -/
def fig (n : Nat) : Nat → List Bool
  | 0 => []
  | k + 1 => (n / 2 ^ k % 2 == 1) :: fig n k
theorem fig_len (n k : Nat) : (fig n k).length = k := by
  induction k with
  | zero => rfl
  | succ k ih => rw [fig, List.length_cons, ih]
/-- what figures are worth -/
def worth : List Bool → Nat
  | [] => 0
  | b :: r => (if b then 2 ^ r.length else 0) + worth r
theorem worth_fig (n k : Nat) : worth (fig n k) = n % 2 ^ k := by
  induction k with
  | zero => simp [fig, worth, Nat.mod_one]
  | succ k ih =>
    rw [fig, worth, ih, fig_len, Nat.pow_succ, Nat.mod_mul]
    have := Nat.mod_two_eq_zero_or_one (n / 2 ^ k)
    rcases this with h | h <;> rw [h] <;> simp <;> omega
theorem worth_lt (l : List Bool) : worth l < 2 ^ l.length := by
  induction l with
  | nil => simp [worth]
  | cons b r ih =>
    rw [worth, List.length_cons, Nat.pow_succ]
    split <;> omega
/-- the least number of figures for all rests -/
def wideN (m : Nat) : Nat := if m ≤ 1 then 0 else Nat.log2 (m - 1) + 1
theorem wide_le (m : Nat) : m ≤ 2 ^ wideN m := by
  unfold wideN
  split
  · omega
  · have := Nat.lt_log2_self (n := m - 1)
    omega
theorem wideN_lt (m d : Nat) (h : d < wideN m) : 2 ^ d < m := by
  unfold wideN at h
  split at h
  · omega
  · have h1 := Nat.log2_self_le (n := m - 1) (by omega)
    have h2 : 2 ^ d ≤ 2 ^ (m - 1).log2 := Nat.pow_le_pow_right (by decide) (by omega)
    omega
theorem wide_eq {m c : Nat} (h1 : m ≤ 2 ^ c) (h2 : ∀ d, d < c → 2 ^ d < m) : wideN m = c := by
  rcases Nat.lt_trichotomy (wideN m) c with h | h | h
  · have a := h2 _ h
    have b := wide_le m
    omega
  · exact h
  · have a := wideN_lt m c h
    omega
theorem wide_64 {m : Nat} (h : m ≤ 64) : wideN m ≤ 6 := by
  refine Nat.not_lt.mp fun c => ?_
  have := wideN_lt m 6 c
  omega
def shortN (m : Nat) : Nat := 2 ^ wideN m - m
theorem short_lt {m : Nat} (h : 1 ≤ m) : shortN m < m := by
  unfold shortN
  have h1 := wide_le m
  cases e : wideN m with
  | zero =>
    rw [e] at h1
    simp at h1
    simp
    omega
  | succ c =>
    have h2 := wideN_lt m c (by omega)
    rw [Nat.pow_succ]
    omega
theorem short_zero {m : Nat} (h : wideN m = 0) (h1 : 1 ≤ m) : m = 1 := by
  have := wide_le m
  rw [h] at this
  simp at this
  omega
/-- the word for a rest -/
def restB (m r : Nat) : List Bool := if r < shortN m then fig r (wideN m - 1) else fig (r + shortN m) (wideN m)
/-- the word for a number -/
def wordB (m n : Nat) : List Bool := List.replicate (n / m) true ++ false :: restB m (n % m)
theorem rest_len (m r : Nat) : (restB m r).length = if r < shortN m then wideN m - 1 else wideN m := by
  unfold restB
  split <;> rw [fig_len]
theorem rest_len_le (m r : Nat) : (restB m r).length ≤ wideN m := by
  rw [rest_len]
  split <;> omega
theorem word_len (m n : Nat) : (wordB m n).length = n / m + 1 + (restB m (n % m)).length := by
  unfold wordB
  simp
  omega
/-- a place of a text -/
theorem cut_tx (l : List Bool) (i j : Nat) : cutS (tx l) (some (i : Int)) (some (j : Int)) = tx ((l.drop i).take (j - i)) := by
  apply str_ext
  unfold cutS
  rw [tx_list, tx_len, HT.sIx_nat, HT.sIx_nat, tx_list]
  simp only [List.map_take, List.map_drop]
  by_cases h : i ≤ l.length
  · rw [Nat.min_eq_left h]
    by_cases h2 : j ≤ l.length
    · rw [Nat.min_eq_left h2]
    · rw [Nat.min_eq_right (show l.length ≤ j by omega)]
      rw [List.take_of_length_le (by simp), List.take_of_length_le (by simp; omega)]
  · rw [Nat.min_eq_right (show l.length ≤ i by omega)]
    have e1 : List.drop l.length (l.map sg) = [] := List.drop_eq_nil_of_le (by simp)
    have e2 : List.drop i (l.map sg) = [] := List.drop_eq_nil_of_le (by simp; omega)
    rw [e1, e2]
    simp
theorem cut_to (l : List Bool) (j : Nat) : cutS (tx l) none (some (j : Int)) = tx (l.take j) := by
  have := cut_tx l 0 j
  have e : cutS (tx l) none (some (j : Int)) = cutS (tx l) (some ((0 : Nat) : Int)) (some (j : Int)) := by
    unfold cutS
    have e0 : HT.sIx (tx l).length 0 (some ((0 : Nat) : Int)) = 0 := by rw [HT.sIx_nat, Nat.min_eq_left (Nat.zero_le _)]
    rw [e0, HT.sIx_none]
  rw [e, this, List.drop_zero, Nat.sub_zero]
theorem cut_from (l : List Bool) (i : Nat) : cutS (tx l) (some (i : Int)) none = tx (l.drop i) := by
  apply str_ext
  unfold cutS
  rw [tx_list, tx_len, HT.sIx_nat, HT.sIx_none, tx_list]
  simp only [List.map_drop]
  by_cases h : i ≤ l.length
  · rw [Nat.min_eq_left h, List.take_of_length_le (by simp)]
  · rw [Nat.min_eq_right (show l.length ≤ i by omega)]
    have e1 : List.drop l.length (l.map sg) = [] := List.drop_eq_nil_of_le (by simp)
    have e2 : List.drop i (l.map sg) = [] := List.drop_eq_nil_of_le (by simp; omega)
    rw [e1, e2]
    simp
/-- the sign at a place, as it is asked: text[at:at + 1] == "1" -/
theorem cut_at (l : List Bool) (i : Nat) : cutS (tx l) (some (i : Int)) (some ((i : Int) + 1)) = tx (l[i]?.toList) := by
  have := cut_tx l i (i + 1)
  rw [show ((i + 1 : Nat) : Int) = (i : Int) + 1 by omega] at this
  rw [this, Nat.add_sub_cancel_left]
  congr 1
  cases h : l[i]? with
  | none =>
    rw [List.drop_eq_nil_of_le (List.getElem?_eq_none_iff.mp h)]
    rfl
  | some b =>
    obtain ⟨hi, e⟩ := List.getElem?_eq_some_iff.mp h
    rw [List.drop_eq_getElem_cons hi, e]
    rfl
theorem at_is (o : Option Bool) : (tx o.toList = tx [true]) ↔ o = some true := by
  constructor
  · intro h
    have := tx_inj h
    cases o with
    | none => cases this
    | some b => exact congrArg some (List.cons.inj this).1
  · rintro rfl
    rfl
theorem fig_get (n k i : Nat) (h : i < k) : (fig n k)[i]? = some (n / 2 ^ (k - 1 - i) % 2 == 1) := by
  induction k generalizing i with
  | zero => omega
  | succ k ih =>
    cases i with
    | zero => simp [fig]
    | succ i =>
      rw [fig, List.getElem?_cons_succ, ih i (by omega)]
      rw [show k + 1 - 1 - (i + 1) = k - 1 - i by omega]
theorem take_more {α : Type} {l : List α} {i : Nat} {x : α} (h : l[i]? = some x) : l.take (i + 1) = l.take i ++ [x] := by
  rw [List.take_add_one, h]
  rfl
theorem fig_take (n k i : Nat) (h : i < k) : (fig n k).take (i + 1) = (fig n k).take i ++ [n / 2 ^ (k - 1 - i) % 2 == 1] := take_more (fig_get n k i h)
theorem bit_int (n d : Nat) : (((n : Int) / ((2 ^ d : Nat) : Int) % 2 = 1)) ↔ (n / 2 ^ d % 2 == 1) = true := by
  rw [beq_iff_eq, ← Int.natCast_ediv]
  omega
end St
namespace St
open PySem PySem.Spec PyProof.Rows L2
/-! ### reading words -/
def onesN : List Bool → Nat
  | true :: r => onesN r + 1
  | _ => 0
/-- the number whose word begins a row of signs, and how long it is -/
def rd (m : Nat) (l : List Bool) : Option (Nat × Nat) :=
  let k := onesN l
  let t := l.drop (k + 1)
  let c := wideN m
  let r := worth (t.take (c - 1))
  if l.length ≤ k then none else if t.length < c - 1 then none else
    if 0 < c ∧ shortN m ≤ r then (if t.length < c then none else some (k * m + (2 * r + (if t[c - 1]? = some true then 1 else 0) - shortN m), k + 1 + c))
    else some (k * m + r, k + 1 + (c - 1))
theorem ones_rep (k : Nat) (t : List Bool) : onesN (List.replicate k true ++ false :: t) = k := by
  induction k with
  | zero => rfl
  | succ k ih =>
    rw [List.replicate_succ, List.cons_append, onesN, ih]
theorem ones_split : ∀ (l : List Bool), onesN l < l.length → l = List.replicate (onesN l) true ++ false :: l.drop (onesN l + 1)
  | [], h => by cases h
  | false :: r, _ => rfl
  | true :: r, h => by
    have e : onesN (true :: r) = onesN r + 1 := rfl
    rw [e] at h ⊢
    have ih := ones_split r (by rw [List.length_cons] at h; omega)
    rw [List.replicate_succ, List.cons_append, List.drop_succ_cons]
    rw [← ih]
theorem fig_snoc (n k : Nat) : fig n (k + 1) = fig (n / 2) k ++ [n % 2 == 1] := by
  induction k with
  | zero => simp [fig]
  | succ k ih =>
    rw [fig, ih, fig, List.cons_append]
    rw [Nat.div_div_eq_div_mul, Nat.pow_succ, Nat.mul_comm 2]
theorem fig_worth (l : List Bool) : fig (worth l) l.length = l := by
  have low : ∀ (l : List Bool) (a : Nat), fig (a * 2 ^ l.length + worth l) l.length = l := by
    intro l
    induction l with
    | nil => intro a; rfl
    | cons b r ih =>
      intro a
      have hw := worth_lt r
      rw [List.length_cons, fig, worth]
      have e1 : a * 2 ^ (r.length + 1) + ((if b then 2 ^ r.length else 0) + worth r) = (2 * a + (if b then 1 else 0)) * 2 ^ r.length + worth r := by
        rw [Nat.pow_succ]
        cases b <;> simp <;> grind
      rw [e1, ih]
      congr 1
      rw [Nat.add_comm, Nat.add_mul_div_right _ _ (Nat.pow_pos (by decide)), Nat.div_eq_of_lt hw]
      cases b <;> simp <;> omega
  have := low l 0
  rw [Nat.zero_mul, Nat.zero_add] at this
  exact this
theorem worth_snoc (l : List Bool) (b : Bool) : worth (l ++ [b]) = 2 * worth l + (if b then 1 else 0) := by
  induction l with
  | nil => cases b <;> rfl
  | cons a r ih =>
    rw [List.cons_append, worth, ih, worth, List.length_append, List.length_singleton, Nat.pow_succ]
    cases a <;> simp <;> omega
theorem pow_half {c : Nat} (h : 1 ≤ c) : 2 ^ c = 2 * 2 ^ (c - 1) := by
  obtain ⟨d, rfl⟩ : ∃ d, c = d + 1 := ⟨c - 1, by omega⟩
  rw [Nat.add_sub_cancel, Nat.pow_succ']
theorem short_half {m : Nat} (h : 1 ≤ wideN m) : shortN m < 2 ^ (wideN m - 1) := by
  have := wideN_lt m (wideN m - 1) (by omega)
  have e := pow_half h
  have hp : 0 < 2 ^ (wideN m - 1) := Nat.pow_pos (by decide)
  unfold shortN
  omega
theorem short_add {m : Nat} : shortN m + m = 2 ^ wideN m := by
  have := wide_le m
  unfold shortN
  omega
theorem rd_word (m : Nat) (hm : 1 ≤ m) (n : Nat) (post : List Bool) : rd m (wordB m n ++ post) = some (n, (wordB m n).length) := by
  have hk : onesN (wordB m n ++ post) = n / m := by
    unfold wordB
    rw [List.append_assoc, List.cons_append, ones_rep]
  have ht : (wordB m n ++ post).drop (n / m + 1) = restB m (n % m) ++ post := by
    have e : wordB m n ++ post = (List.replicate (n / m) true ++ [false]) ++ (restB m (n % m) ++ post) := by
      unfold wordB
      simp [List.append_assoc]
    rw [e]
    exact List.drop_left' (by simp)
  have hr : n % m < m := Nat.mod_lt _ hm
  have hsa := @short_add m
  have hlen : (wordB m n).length = n / m + 1 + (restB m (n % m)).length := word_len m n
  have hn : n / m * m + n % m = n := Nat.div_add_mod' n m
  unfold rd
  simp only [hk, ht]
  rw [if_neg (by rw [List.length_append, hlen]; omega)]
  by_cases c : n % m < shortN m
  · have w1 : 1 ≤ wideN m := by
      refine Nat.not_lt.mp fun z => ?_
      have e := short_zero (show wideN m = 0 by omega) hm
      subst e
      have : shortN 1 = 0 := by decide
      omega
    have hh := short_half w1
    have er : restB m (n % m) = fig (n % m) (wideN m - 1) := if_pos c
    have el : (restB m (n % m)).length = wideN m - 1 := by rw [er, fig_len]
    have et : (restB m (n % m) ++ post).take (wideN m - 1) = fig (n % m) (wideN m - 1) := by
      rw [List.take_append_of_le_length (by omega), ← el, List.take_length, er, fig_len]
    rw [if_neg (by rw [List.length_append]; omega), et, worth_fig, Nat.mod_eq_of_lt (by omega), if_neg (by omega), hlen, el, hn]
  · have er : restB m (n % m) = fig (n % m + shortN m) (wideN m) := if_neg c
    have el : (restB m (n % m)).length = wideN m := by rw [er, fig_len]
    by_cases w0 : wideN m = 0
    · have e := short_zero w0 hm
      subst e
      rw [if_neg (by rw [List.length_append, w0]; omega), if_neg (by omega), hlen, el, w0]
      simp [worth] at hn ⊢
    · obtain ⟨d, hd⟩ : ∃ d, wideN m = d + 1 := ⟨wideN m - 1, by omega⟩
      have ef : fig (n % m + shortN m) (wideN m) = fig ((n % m + shortN m) / 2) d ++ [(n % m + shortN m) % 2 == 1] := by rw [hd, fig_snoc]
      have et : (restB m (n % m) ++ post).take (wideN m - 1) = fig ((n % m + shortN m) / 2) d := by
        rw [er, ef, hd, List.append_assoc, Nat.add_sub_cancel]
        rw [List.take_append_of_le_length (by rw [fig_len]; exact Nat.le_refl _), List.take_of_length_le (by rw [fig_len]; exact Nat.le_refl _)]
      have eg : (restB m (n % m) ++ post)[wideN m - 1]? = some ((n % m + shortN m) % 2 == 1) := by
        rw [er, ef, hd, List.append_assoc, Nat.add_sub_cancel]
        rw [List.getElem?_append_right (by rw [fig_len]; exact Nat.le_refl _), fig_len, Nat.sub_self]
        rfl
      have hlt : (n % m + shortN m) / 2 < 2 ^ d := by
        have : 2 ^ wideN m = 2 * 2 ^ d := by rw [hd, Nat.pow_succ']
        omega
      rw [if_neg (by rw [List.length_append]; omega), et, worth_fig, Nat.mod_eq_of_lt hlt, if_pos ⟨by omega, by omega⟩, if_neg (by rw [List.length_append]; omega), eg, hlen, el]
      congr 2
      have hb : (if some ((n % m + shortN m) % 2 == 1) = some true then 1 else 0) = (n % m + shortN m) % 2 := by
        rcases Nat.mod_two_eq_zero_or_one (n % m + shortN m) with h | h <;> rw [h] <;> rfl
      rw [hb]
      omega
theorem rd_some (m : Nat) (hm : 1 ≤ m) (l : List Bool) (n e : Nat) (h : rd m l = some (n, e)) : ∃ post, l = wordB m n ++ post ∧ e = (wordB m n).length := by
  unfold rd at h
  simp only at h
  have hsa := @short_add m
  by_cases h1 : l.length ≤ onesN l
  · rw [if_pos h1] at h
    cases h
  rw [if_neg h1] at h
  have hl := ones_split l (by omega)
  generalize onesN l = k at *
  generalize l.drop (k + 1) = t at *
  subst hl
  by_cases h2 : t.length < wideN m - 1
  · rw [if_pos h2] at h
    cases h
  rw [if_neg h2] at h
  have tl : (t.take (wideN m - 1)).length = wideN m - 1 := by
    rw [List.length_take]
    omega
  have wl := worth_lt (t.take (wideN m - 1))
  rw [tl] at wl
  have fw := fig_worth (t.take (wideN m - 1))
  rw [tl] at fw
  by_cases h3 : 0 < wideN m ∧ shortN m ≤ worth (t.take (wideN m - 1))
  · rw [if_pos h3] at h
    by_cases h4 : t.length < wideN m
    · rw [if_pos h4] at h
      cases h
    rw [if_neg h4] at h
    obtain ⟨b, hb⟩ : ∃ b, t[wideN m - 1]? = some b := ⟨_, List.getElem?_eq_getElem (by omega)⟩
    rw [hb] at h
    have e2 := pow_half (c := wideN m) (by omega)
    generalize hbv : (if some b = some true then 1 else 0) = bv at h
    have hbv2 : bv ≤ 1 := by
      rw [← hbv]
      split <;> omega
    obtain ⟨rfl, rfl⟩ : k * m + (2 * worth (t.take (wideN m - 1)) + bv - shortN m) = n ∧ k + 1 + wideN m = e := by
      have := Option.some.inj h
      exact ⟨congrArg (·.1) this, congrArg (·.2) this⟩
    have r0 : 2 * worth (t.take (wideN m - 1)) + bv - shortN m < m := by omega
    have d1 : (k * m + (2 * worth (t.take (wideN m - 1)) + bv - shortN m)) / m = k := by
      rw [Nat.add_comm, Nat.add_mul_div_right _ _ (by omega), Nat.div_eq_of_lt r0, Nat.zero_add]
    have d2 : (k * m + (2 * worth (t.take (wideN m - 1)) + bv - shortN m)) % m = 2 * worth (t.take (wideN m - 1)) + bv - shortN m := by
      rw [Nat.add_comm, Nat.add_mul_mod_self_right, Nat.mod_eq_of_lt r0]
    have et : t.take (wideN m) = t.take (wideN m - 1) ++ [b] := by
      have := take_more hb
      rw [show wideN m - 1 + 1 = wideN m by omega] at this
      exact this
    have er : restB m (2 * worth (t.take (wideN m - 1)) + bv - shortN m) = t.take (wideN m) := by
      unfold restB
      rw [if_neg (by omega), show 2 * worth (t.take (wideN m - 1)) + bv - shortN m + shortN m = 2 * worth (t.take (wideN m - 1)) + bv by omega]
      have hw := worth_snoc (t.take (wideN m - 1)) b
      have hw2 : worth (t.take (wideN m)) = 2 * worth (t.take (wideN m - 1)) + bv := by
        rw [et, hw, ← hbv]
        cases b <;> rfl
      rw [← hw2]
      have := fig_worth (t.take (wideN m))
      rw [List.length_take, Nat.min_eq_left (by omega)] at this
      exact this
    refine ⟨t.drop (wideN m), ?_, ?_⟩
    · unfold wordB
      rw [d1, d2, er, List.append_assoc, List.cons_append, List.take_append_drop]
    · rw [word_len, d1, d2, er, List.length_take]
      omega
  · rw [if_neg h3] at h
    obtain ⟨rfl, rfl⟩ : k * m + worth (t.take (wideN m - 1)) = n ∧ k + 1 + (wideN m - 1) = e := by
      have := Option.some.inj h
      exact ⟨congrArg (·.1) this, congrArg (·.2) this⟩
    have r0 : worth (t.take (wideN m - 1)) < m := by
      by_cases w0 : wideN m = 0
      · rw [w0] at wl
        simp at wl
        rw [w0]
        simp [worth]
        omega
      · have := short_lt hm
        have : worth (t.take (wideN m - 1)) < shortN m := Nat.not_le.mp fun z => h3 ⟨by omega, z⟩
        omega
    have d1 : (k * m + worth (t.take (wideN m - 1))) / m = k := by
      rw [Nat.add_comm, Nat.add_mul_div_right _ _ (by omega), Nat.div_eq_of_lt r0, Nat.zero_add]
    have d2 : (k * m + worth (t.take (wideN m - 1))) % m = worth (t.take (wideN m - 1)) := by
      rw [Nat.add_comm, Nat.add_mul_mod_self_right, Nat.mod_eq_of_lt r0]
    have er : restB m (worth (t.take (wideN m - 1))) = t.take (wideN m - 1) := by
      unfold restB
      by_cases w0 : wideN m = 0
      · rw [if_neg (by have := short_zero w0 hm; subst this; have : shortN 1 = 0 := by decide
                       omega), w0]
        simp [fig]
      · have : worth (t.take (wideN m - 1)) < shortN m := Nat.not_le.mp fun z => h3 ⟨by omega, z⟩
        rw [if_pos this]
        exact fw
    refine ⟨t.drop (wideN m - 1), ?_, ?_⟩
    · unfold wordB
      rw [d1, d2, er, List.append_assoc, List.cons_append, List.take_append_drop]
    · rw [word_len, d1, d2, er, List.length_take]
      omega
theorem word_pre {m : Nat} (hm : 1 ≤ m) {a b : Nat} {p q : List Bool} (h : wordB m a ++ p = wordB m b ++ q) : a = b ∧ p = q := by
  have e1 := rd_word m hm a p
  have e2 := rd_word m hm b q
  rw [h, e2] at e1
  have e3 : b = a := congrArg (·.1) (Option.some.inj e1)
  subst e3
  exact ⟨rfl, List.append_cancel_left h⟩
theorem word_pos (m n : Nat) : 1 ≤ (wordB m n).length := by
  rw [word_len]
  generalize n / m = k
  omega
theorem ones_at : ∀ (l : List Bool) (i : Nat), i ≤ onesN l → (l[i]? = some true ↔ i < onesN l)
  | [], i, h => by
    have e : onesN [] = 0 := rfl
    rw [e]
    simp
  | false :: r, i, h => by
    have e : onesN (false :: r) = 0 := rfl
    rw [e] at h ⊢
    have : i = 0 := by omega
    subst this
    simp
  | true :: r, 0, h => by
    have e : onesN (true :: r) = onesN r + 1 := rfl
    rw [e]
    simp
  | true :: r, i + 1, h => by
    have e : onesN (true :: r) = onesN r + 1 := rfl
    rw [e] at h ⊢
    have ih := ones_at r i (by omega)
    rw [List.getElem?_cons_succ, ih]
    omega
theorem ones_le (l : List Bool) : onesN l ≤ l.length := by
  induction l with
  | nil => exact Nat.le_refl _
  | cons b r ih =>
    cases b
    · exact Nat.zero_le _
    · show onesN r + 1 ≤ r.length + 1
      omega
def bitN (t : List Bool) (i : Nat) : Nat := if t[i]? = some true then 1 else 0
theorem bitN_le (t : List Bool) (i : Nat) : bitN t i ≤ 1 := by
  unfold bitN
  split <;> omega
/-- what the first figures tell, those that lack being 0 -/
def pvN (t : List Bool) : Nat → Nat
  | 0 => 0
  | i + 1 => 2 * pvN t i + bitN t i
theorem pvN_eq (t : List Bool) : ∀ i, i ≤ t.length → pvN t i = worth (t.take i)
  | 0, _ => by simp [pvN, worth]
  | i + 1, h => by
    have ih := pvN_eq t i (by omega)
    have e : t[i]? = some t[i] := List.getElem?_eq_getElem (by omega)
    rw [pvN, ih, take_more e, worth_snoc]
    unfold bitN
    rw [e]
    cases t[i] <;> rfl
theorem pvN_lt (t : List Bool) : ∀ i, pvN t i < 2 ^ i
  | 0 => Nat.one_pos
  | i + 1 => by
    have ih := pvN_lt t i
    have := bitN_le t i
    rw [pvN, Nat.pow_succ]
    omega
/-- the same with figures that may lack, as the program reckons -/
theorem rd_pv (m : Nat) (l : List Bool) : rd m l =
    (if l.length ≤ onesN l then none else
      if 0 < wideN m ∧ shortN m ≤ pvN (l.drop (onesN l + 1)) (wideN m - 1) then
        (if onesN l + 1 + (wideN m - 1) + 1 ≤ l.length then some (onesN l * m + (2 * pvN (l.drop (onesN l + 1)) (wideN m - 1) + bitN (l.drop (onesN l + 1)) (wideN m - 1) - shortN m), onesN l + 1 + (wideN m - 1) + 1) else none)
      else (if onesN l + 1 + (wideN m - 1) ≤ l.length then some (onesN l * m + pvN (l.drop (onesN l + 1)) (wideN m - 1), onesN l + 1 + (wideN m - 1)) else none)) := by
  unfold rd
  simp only
  by_cases h1 : l.length ≤ onesN l
  · rw [if_pos h1, if_pos h1]
  rw [if_neg h1, if_neg h1]
  have tl : (l.drop (onesN l + 1)).length = l.length - (onesN l + 1) := List.length_drop
  by_cases h2 : (l.drop (onesN l + 1)).length < wideN m - 1
  · rw [if_pos h2]
    split
    · rw [if_neg (by omega)]
    · rw [if_neg (by omega)]
  rw [if_neg h2, pvN_eq _ _ (by omega)]
  by_cases h3 : 0 < wideN m ∧ shortN m ≤ worth ((l.drop (onesN l + 1)).take (wideN m - 1))
  · rw [if_pos h3, if_pos h3]
    by_cases h4 : (l.drop (onesN l + 1)).length < wideN m
    · rw [if_pos h4, if_neg (by omega)]
    · rw [if_neg h4]
      unfold bitN
      rw [if_pos (show onesN l + 1 + (wideN m - 1) + 1 ≤ l.length by omega)]
      rw [show onesN l + 1 + wideN m = onesN l + 1 + (wideN m - 1) + 1 by omega]
  · rw [if_neg h3, if_neg h3, if_pos (by omega)]
/-- the number whose word begins at a place, and where it ends -/
def feN (m : Nat) (l : List Bool) (b : Nat) : Option (Nat × Nat) := (rd m (l.drop b)).map fun p => (p.1, b + p.2)
theorem rd_le {m : Nat} {l : List Bool} {n e : Nat} (hm : 1 ≤ m) (h : rd m l = some (n, e)) : 1 ≤ e ∧ e ≤ l.length := by
  obtain ⟨post, rfl, rfl⟩ := rd_some m hm l n e h
  exact ⟨word_pos m n, by rw [List.length_append]; omega⟩
/-- all words that stand one behind the other, and where each ends -/
def cutsF (m : Nat) : Nat → List Bool → Nat → List (Nat × Nat)
  | 0, _, _ => []
  | f + 1, l, b => match rd m l with
    | none => []
    | some (n, e) => (n, b + e) :: cutsF m f (l.drop e) (b + e)
def cuts (m : Nat) (l : List Bool) : List (Nat × Nat) := cutsF m (l.length + 1) l 0
theorem cutsF_none {m : Nat} {l : List Bool} (h : rd m l = none) (f b : Nat) : cutsF m f l b = [] := by
  cases f with
  | zero => rfl
  | succ f => rw [cutsF, h]
theorem cutsF_some {m : Nat} {l : List Bool} {n e : Nat} (h : rd m l = some (n, e)) (f b : Nat) : cutsF m (f + 1) l b = (n, b + e) :: cutsF m f (l.drop e) (b + e) := by
  rw [cutsF, h]
theorem cutsF_fuel {m : Nat} (hm : 1 ≤ m) : ∀ (f g : Nat) (l : List Bool) (b : Nat), l.length < f → l.length < g → cutsF m f l b = cutsF m g l b
  | 0, _, _, _, h, _ => by omega
  | _ + 1, 0, _, _, _, h => by omega
  | f + 1, g + 1, l, b, h1, h2 => by
    cases h : rd m l with
    | none => rw [cutsF_none h, cutsF_none h]
    | some p =>
      obtain ⟨n, e⟩ := p
      obtain ⟨e1, e2⟩ := rd_le hm h
      rw [cutsF_some h, cutsF_some h]
      rw [cutsF_fuel hm f g (l.drop e) (b + e) (by rw [List.length_drop]; omega) (by rw [List.length_drop]; omega)]
theorem rd_nil (m : Nat) : rd m [] = none := by
  unfold rd
  simp
theorem cuts_word {m : Nat} (hm : 1 ≤ m) (n : Nat) : cuts m (wordB m n) = [(n, (wordB m n).length)] := by
  have h := rd_word m hm n []
  rw [List.append_nil] at h
  unfold cuts
  rw [cutsF_some h, List.drop_length, cutsF_none (rd_nil m), Nat.zero_add]
/-! ### words of greater numbers are greater -/
def ltB (a b : List Bool) : Prop := ∃ c p q, a = c ++ false :: p ∧ b = c ++ true :: q
theorem worth_ltB : ∀ (a b : List Bool) (p q : List Bool), a.length = b.length → worth a < worth b → ltB (a ++ p) (b ++ q)
  | [], b, p, q, hl, h => by
    cases b with
    | nil => exact absurd h (by decide)
    | cons => cases hl
  | x :: a, [], p, q, hl, h => by cases hl
  | x :: a, y :: b, p, q, hl, h => by
    have hl' : a.length = b.length := by simpa using hl
    rw [worth, worth, hl'] at h
    have h1 := worth_lt a
    have h2 := worth_lt b
    rw [hl'] at h1
    cases x <;> cases y
    · obtain ⟨c, p', q', e1, e2⟩ := worth_ltB a b p q hl' (by simpa using h)
      exact ⟨false :: c, p', q', by rw [List.cons_append, e1]; rfl, by rw [List.cons_append, e2]; rfl⟩
    · exact ⟨[], a ++ p, b ++ q, rfl, rfl⟩
    · simp at h
      omega
    · obtain ⟨c, p', q', e1, e2⟩ := worth_ltB a b p q hl' (by simpa using h)
      exact ⟨true :: c, p', q', by rw [List.cons_append, e1]; rfl, by rw [List.cons_append, e2]; rfl⟩
theorem ltB_pre (c : List Bool) {a b : List Bool} (h : ltB a b) : ltB (c ++ a) (c ++ b) := by
  obtain ⟨d, p, q, rfl, rfl⟩ := h
  exact ⟨c ++ d, p, q, by rw [List.append_assoc], by rw [List.append_assoc]⟩
theorem rest_ltB {m r s : Nat} (hm : 1 ≤ m) (hs : s < m) (h : r < s) : ltB (restB m r) (restB m s) := by
  have hsa := @short_add m
  unfold restB
  by_cases c1 : s < shortN m
  · have w1 : 1 ≤ wideN m := by
      refine Nat.not_lt.mp fun z => ?_
      have e := short_zero (show wideN m = 0 by omega) hm
      subst e
      have : shortN 1 = 0 := by decide
      omega
    have hh := short_half w1
    rw [if_pos (by omega), if_pos c1]
    have := worth_ltB (fig r (wideN m - 1)) (fig s (wideN m - 1)) [] [] (by rw [fig_len, fig_len]) (by rw [worth_fig, worth_fig, Nat.mod_eq_of_lt (by omega), Nat.mod_eq_of_lt (by omega)]; exact h)
    simpa using this
  · rw [if_neg c1]
    by_cases c2 : r < shortN m
    · rw [if_pos c2]
      have w1 : 1 ≤ wideN m := by
        refine Nat.not_lt.mp fun z => ?_
        have e := short_zero (show wideN m = 0 by omega) hm
        subst e
        have : shortN 1 = 0 := by decide
        omega
      have hh := short_half w1
      have ph := pow_half w1
      obtain ⟨d, hd⟩ : ∃ d, wideN m = d + 1 := ⟨wideN m - 1, by omega⟩
      rw [hd, fig_snoc, Nat.add_sub_cancel]
      rw [hd, Nat.add_sub_cancel] at hh ph
      have := worth_ltB (fig r d) (fig ((s + shortN m) / 2) d) [] [(s + shortN m) % 2 == 1] (by rw [fig_len, fig_len]) (by
        rw [worth_fig, worth_fig, Nat.mod_eq_of_lt (by omega), Nat.mod_eq_of_lt (by rw [hd] at hsa; omega)]
        omega)
      simpa using this
    · rw [if_neg c2]
      have := worth_ltB (fig (r + shortN m) (wideN m)) (fig (s + shortN m) (wideN m)) [] [] (by rw [fig_len, fig_len]) (by rw [worth_fig, worth_fig, Nat.mod_eq_of_lt (by omega), Nat.mod_eq_of_lt (by omega)]; omega)
      simpa using this
theorem word_ltB {m a b : Nat} (hm : 1 ≤ m) (h : a < b) : ltB (wordB m a) (wordB m b) := by
  have ha := Nat.div_add_mod' a m
  have hb := Nat.div_add_mod' b m
  have ra := Nat.mod_lt a (show m > 0 by omega)
  have rb := Nat.mod_lt b (show m > 0 by omega)
  have hle : a / m ≤ b / m := Nat.div_le_div_right (by omega)
  unfold wordB
  by_cases c : a / m = b / m
  · rw [c]
    refine ltB_pre _ ?_
    have := ltB_pre [false] (rest_ltB (m := m) (r := a % m) (s := b % m) hm rb (by rw [c] at ha; omega))
    simpa using this
  · obtain ⟨d, hd⟩ : ∃ d, b / m = a / m + (d + 1) := ⟨b / m - a / m - 1, by omega⟩
    rw [hd, ← List.replicate_append_replicate, List.append_assoc]
    refine ltB_pre _ ⟨[], restB m (a % m), List.replicate d true ++ false :: restB m (b % m), rfl, ?_⟩
    rw [List.replicate_succ]
    rfl
theorem ltB_codes {a b : List Bool} (h : ltB a b) : a.map sg < b.map sg := by
  obtain ⟨c, p, q, rfl, rfl⟩ := h
  rw [List.map_append, List.map_append]
  induction c with
  | nil =>
    show (48 :: p.map sg : List Nat) < 49 :: q.map sg
    exact List.Lex.rel (by decide)
  | cons x c ih => exact List.Lex.cons ih
theorem codes_irrefl (a : List Nat) : ¬ a < a := List.lt_irrefl a
theorem ltB_not {a b : List Bool} (h : ltB a b) : ¬ b.map sg < a.map sg := fun z => List.lt_irrefl _ (List.lt_trans (ltB_codes h) z)
/-- where the last word ends -/
def endOf (r : List (Nat × Nat)) : Nat := (r.getLast?.map (·.2)).getD 0
theorem endOf_snoc (r : List (Nat × Nat)) (x : Nat × Nat) : endOf (r ++ [x]) = x.2 := by
  unfold endOf
  rw [List.getLast?_concat]
  rfl
/-- vs are tuples of these pairs -/
structure PrAt (H : Hp) (vs : List V) (r : List (Nat × Nat)) : Prop where
  len : vs.length = r.length
  at_ : ∀ (i : Nat) (x : Nat × Nat), r[i]? = some x → ∃ t, vs[i]? = some (.ref t) ∧ H t = some (.tup [.int (x.1 : Nat), .int (x.2 : Nat)])
theorem PrAt.same {H H' : Hp} {vs : List V} {r : List (Nat × Nat)} (h : PrAt H vs r) (s : Same H H') : PrAt H' vs r := ⟨h.len, fun i x e => by
  obtain ⟨t, a, b⟩ := h.at_ i x e
  exact ⟨t, a, s _ _ b⟩⟩
theorem PrAt.snoc {H : Hp} {vs : List V} {r : List (Nat × Nat)} {t : Addr} {n e : Nat} (h : PrAt H vs r) (ht : H t = some (.tup [.int (n : Nat), .int (e : Nat)])) : PrAt H (vs ++ [.ref t]) (r ++ [(n, e)]) := by
  refine ⟨by rw [List.length_append, List.length_append, h.len]; rfl, fun i x hx => ?_⟩
  by_cases hi : i < r.length
  · rw [List.getElem?_append_left hi] at hx
    obtain ⟨t', a, b⟩ := h.at_ i x hx
    exact ⟨t', by rw [List.getElem?_append_left (by rw [h.len]; exact hi)]; exact a, b⟩
  · have hi2 : i < (r ++ [(n, e)]).length := (List.getElem?_eq_some_iff.mp hx).1
    rw [List.length_append, List.length_singleton] at hi2
    have : i = r.length := by omega
    subst this
    rw [List.getElem?_append_right (Nat.le_refl _), Nat.sub_self] at hx
    cases Option.some.inj hx
    exact ⟨t, by rw [← h.len, List.getElem?_append_right (Nat.le_refl _), Nat.sub_self]; rfl, ht⟩
def prD (r : List (Nat × Nat)) : List PyData := r.map fun p => .tuple [.int (p.1 : Nat), .int (p.2 : Nat)]
theorem PrAt.dpAll {K : PySem.W.Frag} {H : Hp} : ∀ {vs : List V} {r : List (Nat × Nat)}, PrAt H vs r → DpAll K H vs (prD r)
  | [], [], _ => .nil
  | [], _ :: _, h => by have := h.len; cases this
  | _ :: _, [], h => by have := h.len; cases this
  | v :: vs, x :: r, h => by
    obtain ⟨t, a, b⟩ := h.at_ 0 x rfl
    cases Option.some.inj a
    have h' : PrAt H vs r := ⟨by have := h.len; simpa using this, fun i y e => h.at_ (i + 1) y e⟩
    exact .cons (.tup (.inl (.inl b)) (.cons (.int _) (.cons (.int _) .nil))) (PrAt.dpAll h')
theorem prD_ok (r : List (Nat × Nat)) : OkN 2 (.list (prD r)) := by
  intro d hd
  obtain ⟨p, _, rfl⟩ := List.mem_map.mp hd
  intro d hd
  simp only [List.mem_cons, List.not_mem_nil, or_false] at hd
  rcases hd with rfl | rfl <;> trivial
theorem rd_bound {m : Nat} (hm : 1 ≤ m) {l : List Bool} {b n e : Nat} (hb : b ≤ l.length) (h : feN m l b = some (n, e)) : b < e ∧ e ≤ l.length ∧ ∃ d, rd m (l.drop b) = some (n, d) ∧ e = b + d := by
  unfold feN at h
  cases h2 : rd m (l.drop b) with
  | none => rw [h2] at h; cases h
  | some p =>
    obtain ⟨n', d⟩ := p
    rw [h2] at h
    obtain ⟨rfl, rfl⟩ : n' = n ∧ b + d = e := by
      have := Option.some.inj h
      exact ⟨congrArg (·.1) this, congrArg (·.2) this⟩
    have := rd_le hm h2
    rw [List.length_drop] at this
    exact ⟨by omega, by omega, d, rfl, rfl⟩
theorem fe_none {m : Nat} {l : List Bool} {b : Nat} (h : feN m l b = none) : rd m (l.drop b) = none := by
  unfold feN at h
  cases h2 : rd m (l.drop b) with
  | none => rfl
  | some p => rw [h2] at h; cases h
theorem cuts_step {m : Nat} (hm : 1 ≤ m) {l : List Bool} {b n e : Nat} (hb : b ≤ l.length) (h : feN m l b = some (n, e)) :
    cutsF m ((l.drop b).length + 1) (l.drop b) b = (n, e) :: cutsF m ((l.drop e).length + 1) (l.drop e) e := by
  obtain ⟨h1, h2, d, h3, rfl⟩ := rd_bound hm hb h
  rw [cutsF_some h3, List.drop_drop]
  rw [cutsF_fuel hm (l.drop b).length ((l.drop (b + d)).length + 1) (l.drop (b + d)) (b + d) (by rw [List.length_drop, List.length_drop]; omega) (by omega)]
theorem cutsF_len {m : Nat} (hm : 1 ≤ m) : ∀ (f : Nat) (l : List Bool) (b : Nat), (cutsF m f l b).length ≤ l.length
  | 0, _, _ => Nat.zero_le _
  | f + 1, l, b => by
    cases h : rd m l with
    | none => rw [cutsF_none h]; exact Nat.zero_le _
    | some p =>
      obtain ⟨n, e⟩ := p
      obtain ⟨e1, e2⟩ := rd_le hm h
      have := cutsF_len hm f (l.drop e) (b + e)
      rw [cutsF_some h, List.length_cons]
      rw [List.length_drop] at this
      omega
theorem cuts_len {m : Nat} (hm : 1 ≤ m) (l : List Bool) : (cuts m l).length ≤ l.length := cutsF_len hm _ l 0
end St
namespace St
open PySem PySem.Spec PyProof.Rows L2
/-! ### fractions: a tuple (number, parts) in lowest terms stands for a Rat -/
def RatAt (K : PySem.W.Frag) (H : Hp) (a : Addr) (r : Rat) : Prop := SqT K H a [.int r.num, .int (r.den : Int)]
theorem RatAt.same {K : PySem.W.Frag} {H H' : Hp} {a : Addr} {r : Rat} (s : Same H H') (h : RatAt K H a r) : RatAt K H' a r := Same.seqT s h
theorem frac_num {n d : Int} (hd : 0 < d) : (Rat.divInt n d).num = n / (Int.gcd n d : Int) := by
  rw [Rat.num_divInt, Int.sign_eq_one_of_pos hd, Int.one_mul, Int.gcd_comm]
theorem frac_den {n d : Int} (hd : 0 < d) : ((Rat.divInt n d).den : Int) = d / (Int.gcd n d : Int) := by
  have h0 : d ≠ 0 := Int.ne_of_gt hd
  rw [Rat.den_divInt, if_neg h0, Int.natCast_ediv, Int.gcd_comm]
  congr 1
  omega
theorem rat_eq (r : Rat) : r = (r.num : Rat) / ((r.den : Int) : Rat) := by
  rw [← Rat.divInt_eq_div, Rat.num_divInt_den]
theorem den_pos (r : Rat) : (0 : Int) < (r.den : Int) := Int.ofNat_lt.mpr r.den_pos
theorem den_ne (r : Rat) : (r.den : Int) ≠ 0 := Int.ne_of_gt (den_pos r)
theorem rat_add (r s : Rat) : Rat.divInt (r.num * s.den + s.num * r.den) (r.den * s.den) = r + s := by
  rw [← Rat.divInt_add_divInt _ _ (den_ne r) (den_ne s), Rat.num_divInt_den, Rat.num_divInt_den]
theorem rat_sub (r s : Rat) : Rat.divInt (r.num * s.den - s.num * r.den) (r.den * s.den) = r - s := by
  rw [← Rat.divInt_sub_divInt _ _ (den_ne r) (den_ne s), Rat.num_divInt_den, Rat.num_divInt_den]
theorem rat_mul (r s : Rat) : Rat.divInt (r.num * s.num) (r.den * s.den) = r * s := by
  rw [← Rat.divInt_mul_divInt, Rat.num_divInt_den, Rat.num_divInt_den]
theorem cast_ne {z : Int} (h : z ≠ 0) : (z : Rat) ≠ 0 := fun e => h (Rat.intCast_inj.mp (by rw [e]; rfl))
theorem rat_quot (r s : Rat) (h : s.num ≠ 0) : Rat.divInt (r.num * s.den) (r.den * s.num) = r / s := by
  have h1 := cast_ne (den_ne r)
  have h2 := cast_ne (den_ne s)
  have h3 := cast_ne h
  have e1 := rat_eq r
  have e2 := rat_eq s
  rw [Rat.divInt_eq_div, Rat.intCast_mul, Rat.intCast_mul]
  generalize (r.num : Rat) = a at *
  generalize ((r.den : Int) : Rat) = b at *
  generalize (s.num : Rat) = c at *
  generalize ((s.den : Int) : Rat) = d at *
  rw [e1, e2]
  grind
theorem rat_sum_le (r s : Rat) : (r.num * s.den + s.num * r.den ≤ r.den * s.den) ↔ r + s ≤ 1 := by
  have hp : (0 : Int) < r.den * s.den := Int.mul_pos (den_pos r) (den_pos s)
  have h1 : (0 : Rat) < ((r.den * s.den : Int) : Rat) := by
    have := Rat.intCast_lt_intCast.mpr hp
    simpa using this
  have e : 1 < r + s ↔ r.den * s.den < r.num * s.den + s.num * r.den := by
    rw [← rat_add r s, Rat.divInt_eq_div, Rat.lt_div_iff h1, Rat.one_mul, Rat.intCast_lt_intCast]
  constructor
  · intro h
    refine Rat.not_lt.mp fun z => ?_
    have := e.mp z
    omega
  · intro h
    refine Int.not_lt.mp fun z => ?_
    exact Rat.not_lt.mpr h (e.mpr z)
/-- how many figures of twos a fraction has at most -/
def Bd (r : Rat) (b : Nat) : Prop := r.num.natAbs < 2 ^ b ∧ r.den < 2 ^ b
theorem Bd.mono {r : Rat} {b c : Nat} (h : Bd r b) (hbc : b ≤ c) : Bd r c :=
  ⟨Nat.lt_of_lt_of_le h.1 (Nat.pow_le_pow_right (by decide) hbc), Nat.lt_of_lt_of_le h.2 (Nat.pow_le_pow_right (by decide) hbc)⟩
theorem Bd.frac {n d : Int} {b : Nat} (hd : 0 < d) (hn : n.natAbs < 2 ^ b) (h : d.natAbs < 2 ^ b) : Bd (Rat.divInt n d) b := by
  have e1 := frac_num (n := n) hd
  have e2 := frac_den (n := n) hd
  constructor
  · rw [e1]
    refine Nat.lt_of_le_of_lt ?_ hn
    rw [Int.natAbs_ediv_of_dvd (Int.gcd_dvd_left ..)]
    exact Nat.div_le_self _ _
  · have e3 : (Rat.divInt n d).den = (d / (Int.gcd n d : Int)).natAbs := by
      have := congrArg Int.natAbs e2
      simpa using this
    rw [e3, Int.natAbs_ediv_of_dvd (Int.gcd_dvd_right ..)]
    exact Nat.lt_of_le_of_lt (Nat.div_le_self _ _) h
theorem bd_mul {x y : Int} {b c : Nat} (h : x.natAbs < 2 ^ b) (h' : y.natAbs < 2 ^ c) : (x * y).natAbs < 2 ^ (b + c) := wide_lt h h'
theorem bd_add {x y : Int} {b : Nat} (h : x.natAbs < 2 ^ b) (h' : y.natAbs < 2 ^ b) : (x + y).natAbs < 2 ^ (b + 1) := by
  rw [Nat.pow_succ]
  omega
theorem bd_sub {x y : Int} {b : Nat} (h : x.natAbs < 2 ^ b) (h' : y.natAbs < 2 ^ b) : (x - y).natAbs < 2 ^ (b + 1) := by
  rw [Nat.pow_succ]
  omega
theorem bd_up {x : Int} {b c : Nat} (h : x.natAbs < 2 ^ b) (hbc : b ≤ c) : x.natAbs < 2 ^ c := Nat.lt_of_lt_of_le h (Nat.pow_le_pow_right (by decide) hbc)
theorem bd_den {r : Rat} {b : Nat} (h : Bd r b) : ((r.den : Int)).natAbs < 2 ^ b := by
  rw [Int.natAbs_natCast]
  exact h.2
theorem bd_w {x y : Int} {b c : Nat} (h : x.natAbs < 2 ^ b) (h' : y.natAbs < 2 ^ c) (h2 : b + c ≤ 900000) : CMulW x y :=
  wide_mul (a := b + 1) (b := c + 1) (bd_up h (by omega)) (bd_up h' (by omega)) (by omega) (by omega) (by omega)
theorem Bd.add {r s : Rat} {b c : Nat} (h : Bd r b) (h' : Bd s c) : Bd (r + s) (b + c + 1) := by
  rw [← rat_add r s]
  refine Bd.frac (Int.mul_pos (den_pos r) (den_pos s)) (bd_add (bd_mul h.1 (bd_den h')) (bd_up (bd_mul h'.1 (bd_den h)) (by omega))) (bd_up (bd_mul (bd_den h) (bd_den h')) (by omega))
theorem Bd.sub {r s : Rat} {b c : Nat} (h : Bd r b) (h' : Bd s c) : Bd (r - s) (b + c + 1) := by
  rw [← rat_sub r s]
  refine Bd.frac (Int.mul_pos (den_pos r) (den_pos s)) (bd_sub (bd_mul h.1 (bd_den h')) (bd_up (bd_mul h'.1 (bd_den h)) (by omega))) (bd_up (bd_mul (bd_den h) (bd_den h')) (by omega))
theorem Bd.mul {r s : Rat} {b c : Nat} (h : Bd r b) (h' : Bd s c) : Bd (r * s) (b + c) := by
  rw [← rat_mul r s]
  exact Bd.frac (Int.mul_pos (den_pos r) (den_pos s)) (bd_mul h.1 h'.1) (bd_mul (bd_den h) (bd_den h'))
theorem num_pos {r : Rat} (h : 0 < r) : 0 < r.num := by
  have := (Rat.lt_iff 0 r).mp h
  simpa using this
theorem Bd.quot {r s : Rat} {b c : Nat} (h : Bd r b) (h' : Bd s c) (hs : 0 < s) : Bd (r / s) (b + c) := by
  rw [← rat_quot r s (Int.ne_of_gt (num_pos hs))]
  exact Bd.frac (Int.mul_pos (den_pos r) (num_pos hs)) (bd_mul h.1 (bd_den h')) (bd_mul (bd_den h) h'.1)
/-- a ratio p / q of the document -/
structure IsRat (p q : Nat) : Prop where
  p1 : 1 ≤ p
  pq : p < q
  q30 : q ≤ 30
def rat (p q : Nat) : Rat := (p : Int) / (q : Int)
theorem rat_pow (p q : Nat) (h : 0 < q) (t : Nat) : Rat.divInt ((p : Int) ^ t) ((q : Int) ^ t) = rat p q ^ t := by
  have hq : (0 : Rat) < ((q : Int) : Rat) := Rat.intCast_pos.mpr (by omega)
  rw [Rat.divInt_eq_div, Rat.intCast_pow, Rat.intCast_pow]
  unfold rat
  generalize ((p : Int) : Rat) = a at *
  generalize ((q : Int) : Rat) = b at *
  have hb0 : b ≠ 0 := Rat.ne_of_gt hq
  induction t with
  | zero =>
    simp only [Rat.pow_zero]
    grind
  | succ t ih =>
    have hb : b ^ t ≠ 0 := Rat.ne_of_gt (Rat.pow_pos hq)
    rw [Rat.pow_succ, Rat.pow_succ, Rat.pow_succ, ← ih]
    grind
theorem pow_small {p t : Nat} (h : p ≤ 30) : ((p : Int) ^ t).natAbs < 2 ^ (5 * t + 1) := by
  rw [Int.natAbs_pow, Int.natAbs_natCast]
  refine Nat.lt_of_le_of_lt (Nat.pow_le_pow_left (show p ≤ 2 ^ 5 by omega) t) ?_
  rw [← Nat.pow_mul]
  exact Nat.pow_lt_pow_right (by decide) (by omega)
theorem Bd.pow {p q : Nat} (hp : p ≤ 30) (hq : q ≤ 30) (h : 0 < q) (t : Nat) : Bd (rat p q ^ t) (5 * t + 1) := by
  rw [← rat_pow p q h t]
  exact Bd.frac (Int.pow_pos (by omega)) (pow_small hp) (pow_small hq)
def FitsR (x : Rat) (s : Nat) : Prop := x ^ s + x ^ (s + 1) ≤ 1
instance (x : Rat) (s : Nat) : Decidable (FitsR x s) := by unfold FitsR; infer_instance
end St
namespace St
open PySem PySem.Spec PyProof.Rows L2
/-! ### the mean length of the words by a step -/
def meanR (m : Nat) (x : Rat) : Rat :=
  (((if (wideN m : Int) > 1 then (wideN m : Int) else 1 : Int) : Rat) + x ^ m / (1 - x ^ m)) + (if 0 < wideN m then (x ^ shortN m - x ^ m) / (1 - x ^ m) else 0)
theorem rat_pos {p q : Nat} (h : IsRat p q) : 0 < rat p q := by
  have h1 := h.p1
  have h2 := h.pq
  have a : (0 : Rat) < ((p : Int) : Rat) := Rat.intCast_pos.mpr (by omega)
  have b : (0 : Rat) < ((q : Int) : Rat) := Rat.intCast_pos.mpr (by omega)
  unfold rat
  exact (Rat.lt_div_iff b).mpr (by rw [Rat.zero_mul]; exact a)
theorem rat_lt_one {p q : Nat} (h : IsRat p q) : rat p q < 1 := by
  have h1 := h.p1
  have h2 := h.pq
  have b : (0 : Rat) < ((q : Int) : Rat) := Rat.intCast_pos.mpr (by omega)
  unfold rat
  exact (Rat.div_lt_iff b).mpr (by rw [Rat.one_mul]; exact Rat.intCast_lt_intCast.mpr (by omega))
theorem pow_lt_one {x : Rat} (h0 : 0 < x) (h1 : x < 1) : ∀ {m : Nat}, 1 ≤ m → x ^ m < 1
  | 1, _ => by rw [Rat.pow_one]; exact h1
  | m + 2, _ => by
    have ih := pow_lt_one h0 h1 (m := m + 1) (by omega)
    rw [Rat.pow_succ]
    have a := Rat.pow_pos (n := m + 1) h0
    have b := Rat.mul_lt_mul_of_pos_left h1 a
    rw [Rat.mul_one] at b
    exact Std.lt_trans b ih
theorem left_pos {p q : Nat} (h : IsRat p q) {m : Nat} (hm : 1 ≤ m) : 0 < 1 - rat p q ^ m := by
  have := pow_lt_one (rat_pos h) (rat_lt_one h) hm
  exact (Rat.lt_iff_sub_pos _ _).mp this
/-- what the law adds up -/
def ovI (p q : Int) (len : Nat → Int) : Nat → Int
  | 0 => 0
  | k + 1 => ovI p q len k * q + (q - p) * p ^ k * len k
def lenI (m r : Nat) : Int := (((wordB m r).length : Nat) : Int)
theorem lenI_eq {m r : Nat} (hm : 1 ≤ m) (h : r < m) : lenI m r = if r < shortN m then (wideN m : Int) else (wideN m : Int) + 1 := by
  unfold lenI
  rw [word_len, Nat.div_eq_of_lt h, Nat.mod_eq_of_lt h, rest_len]
  split
  · rename_i c
    have : 1 ≤ wideN m := by
      refine Nat.not_lt.mp fun z => ?_
      have e := short_zero (show wideN m = 0 by omega) hm
      subst e
      unfold shortN at c
      rw [show wideN 1 = 0 from rfl] at c
      omega
    omega
  · omega
theorem ovI_eq (p q : Int) {m : Nat} (hm : 1 ≤ m) : ∀ k, k ≤ m → ovI p q (lenI m) k = ((wideN m : Int) + 1) * (q ^ k - p ^ k) - (q ^ k - p ^ (min k (shortN m)) * q ^ (k - min k (shortN m)))
  | 0, _ => by
    simp [ovI]
  | k + 1, hk => by
    have ih := ovI_eq p q hm k (by omega)
    rw [ovI, ih, lenI_eq hm (by omega)]
    by_cases c : k < shortN m
    · rw [if_pos c, Nat.min_eq_left (by omega), Nat.min_eq_left (show k + 1 ≤ shortN m by omega), Nat.sub_self, Nat.sub_self, Int.pow_zero, Int.pow_succ, Int.pow_succ]
      generalize q ^ k = Q
      generalize p ^ k = P
      generalize (wideN m : Int) = c
      grind
    · rw [if_neg c, Nat.min_eq_right (by omega), Nat.min_eq_right (show shortN m ≤ k + 1 by omega), show k + 1 - shortN m = (k - shortN m) + 1 by omega, Int.pow_succ, Int.pow_succ, Int.pow_succ]
      generalize q ^ k = Q
      generalize p ^ k = P
      generalize p ^ shortN m = R
      generalize q ^ (k - shortN m) = S
      generalize (wideN m : Int) = c
      grind
theorem pow_gt {p q : Nat} (h : p < q) {m : Nat} (hm : 1 ≤ m) : (p : Int) ^ m < (q : Int) ^ m := by
  have := Nat.pow_lt_pow_left h (show m ≠ 0 by omega)
  rw [← Int.natCast_pow, ← Int.natCast_pow]
  exact Int.ofNat_lt.mpr this
theorem law_mean {p q : Nat} (h : IsRat p q) {m : Nat} (hm : 1 ≤ m) :
    Rat.divInt (ovI p q (lenI m) m + (p : Int) ^ m) ((q : Int) ^ m - (p : Int) ^ m) = meanR m (rat p q) := by
  have h1 := h.p1
  have h2 := h.pq
  have hs := short_lt hm
  rw [ovI_eq p q hm m (Nat.le_refl _), Nat.min_eq_right (by omega), Rat.divInt_eq_div]
  have hq : (0 : Rat) < ((q : Int) : Rat) := Rat.intCast_pos.mpr (by omega)
  have ex : ∀ t : Nat, rat p q ^ t = (((p : Int) ^ t : Int) : Rat) / (((q : Int) ^ t : Int) : Rat) := fun t => by
    rw [← rat_pow p q (by omega) t, Rat.divInt_eq_div]
  have eq0 : (((q : Int) ^ m : Int) : Rat) = (((q : Int) ^ shortN m : Int) : Rat) * (((q : Int) ^ (m - shortN m) : Int) : Rat) := by
    rw [← Rat.intCast_mul, ← Int.pow_add, show shortN m + (m - shortN m) = m by omega]
  have n1 : (((q : Int) ^ m : Int) : Rat) ≠ 0 := cast_ne (Int.ne_of_gt (Int.pow_pos (by omega)))
  have n2 : (((q : Int) ^ shortN m : Int) : Rat) ≠ 0 := cast_ne (Int.ne_of_gt (Int.pow_pos (by omega)))
  have n4 : (((q : Int) ^ m : Int) : Rat) - (((p : Int) ^ m : Int) : Rat) ≠ 0 := by
    rw [← Rat.intCast_sub]
    exact cast_ne (by have := pow_gt h2 hm; omega)
  unfold meanR
  rw [ex m, ex (shortN m)]
  simp only [Rat.intCast_sub, Rat.intCast_add, Rat.intCast_mul]
  by_cases c : 0 < wideN m
  · rw [if_pos c]
    have e1 : (((if (wideN m : Int) > 1 then (wideN m : Int) else 1 : Int)) : Rat) = ((wideN m : Int) : Rat) := by
      split
      · rfl
      · rw [show wideN m = 1 by omega]
        rfl
    rw [e1]
    generalize (((q : Int) ^ m : Int) : Rat) = Q at *
    generalize (((p : Int) ^ m : Int) : Rat) = P at *
    generalize (((q : Int) ^ shortN m : Int) : Rat) = T at *
    generalize (((p : Int) ^ shortN m : Int) : Rat) = S at *
    generalize (((q : Int) ^ (m - shortN m) : Int) : Rat) = U at *
    generalize ((wideN m : Int) : Rat) = c at *
    have n5 : 1 - P / Q ≠ 0 := by
      intro e
      apply n4
      grind
    have e1 : ((1 : Int) : Rat) = 1 := rfl
    grind
  · rw [if_neg c]
    have w0 : wideN m = 0 := by omega
    have m1 := short_zero w0 hm
    subst m1
    rw [show wideN 1 = 0 from rfl, show shortN 1 = 0 from rfl, if_neg (by decide)]
    rw [show shortN 1 = 0 from rfl] at eq0 n2
    simp only [Int.pow_zero, Nat.sub_zero] at *
    generalize (((q : Int) ^ 1 : Int) : Rat) = Q at *
    generalize (((p : Int) ^ 1 : Int) : Rat) = P at *
    have n5 : 1 - P / Q ≠ 0 := by
      intro e
      apply n4
      grind
    have e1 : ((1 : Int) : Rat) = 1 := rfl
    have e0 : ((0 : Int) : Rat) = 0 := rfl
    simp only [e1, e0, show (((0 : Nat) : Int) : Rat) = 0 from rfl]
    grind
end St
namespace St
open PySem PySem.Spec PyProof.Rows L2
/-! ### merging the two least, again and again -/
def oins (x : Rat) : List Rat → List Rat
  | [] => [x]
  | y :: r => if x ≤ y then x :: y :: r else y :: oins x r
theorem oins_perm (x : Rat) : ∀ l, (oins x l).Perm (x :: l)
  | [] => .refl _
  | y :: r => by
    rw [oins]
    split
    · exact .refl _
    · exact ((oins_perm x r).cons y).trans (.swap x y r)
theorem oins_srt (x : Rat) : ∀ l : List Rat, l.Pairwise (· ≤ ·) → (oins x l).Pairwise (· ≤ ·)
  | [], _ => List.pairwise_singleton _ _
  | y :: r, h => by
    obtain ⟨h1, h2⟩ := List.pairwise_cons.mp h
    rw [oins]
    split
    · rename_i c
      refine List.pairwise_cons.mpr ⟨fun z hz => ?_, h⟩
      rcases List.mem_cons.mp hz with e | hz
      · rw [e]
        exact c
      · exact Rat.le_trans c (h1 z hz)
    · rename_i c
      refine List.pairwise_cons.mpr ⟨fun z hz => ?_, oins_srt x r h2⟩
      rcases List.mem_cons.mp ((oins_perm x r).mem_iff.mp hz) with e | hz
      · rw [e]
        exact Rat.le_of_lt (Rat.not_le.mp c)
      · exact h1 z hz
def sortR : List Rat → List Rat
  | [] => []
  | x :: r => oins x (sortR r)
theorem sortR_perm : ∀ l, (sortR l).Perm l
  | [] => .refl _
  | x :: r => (oins_perm x (sortR r)).trans ((sortR_perm r).cons x)
theorem sortR_srt : ∀ l, (sortR l).Pairwise (· ≤ ·)
  | [] => List.Pairwise.nil
  | x :: r => oins_srt x _ (sortR_srt r)
theorem srt_uniq : ∀ {a b : List Rat}, a.Pairwise (· ≤ ·) → b.Pairwise (· ≤ ·) → a.Perm b → a = b
  | [], b, _, _, h => (List.Perm.eq_nil h.symm).symm
  | x :: a, [], _, _, h => absurd h.length_eq (by simp)
  | x :: a, y :: b, ha, hb, h => by
    obtain ⟨a1, a2⟩ := List.pairwise_cons.mp ha
    obtain ⟨b1, b2⟩ := List.pairwise_cons.mp hb
    have e : x = y := by
      refine Rat.le_antisymm ?_ ?_
      · rcases List.mem_cons.mp (h.mem_iff.mpr List.mem_cons_self) with e | hy
        · rw [e]
          exact Rat.le_refl
        · exact a1 y hy
      · rcases List.mem_cons.mp (h.mem_iff.mp List.mem_cons_self) with e | hx
        · rw [e]
          exact Rat.le_refl
        · exact b1 x hx
    subst e
    rw [srt_uniq a2 b2 h.cons_inv]
theorem sortR_of {l m : List Rat} (hm : m.Pairwise (· ≤ ·)) (h : m.Perm l) : sortR l = m := srt_uniq (sortR_srt l) hm ((sortR_perm l).trans h.symm)
def mergeR : Nat → List Rat → Rat
  | n + 1, a :: b :: r => (a + b) + mergeR n (oins (a + b) r)
  | _, _ => 0
/-- what merging costs -/
def mgR (l : List Rat) : Rat := mergeR l.length (sortR l)
theorem mg_perm {l m : List Rat} (h : l.Perm m) : mgR l = mgR m := by
  unfold mgR
  rw [h.length_eq, sortR_of (sortR_srt m) ((sortR_perm m).trans h.symm)]
theorem mg_nil : mgR [] = 0 := rfl
theorem mg_one (x : Rat) : mgR [x] = 0 := rfl
theorem mg_step {l : List Rat} {a b : Rat} {r : List Rat} (h : l.Perm (a :: b :: r)) (ha : ∀ y ∈ r, a ≤ y) (hb : ∀ y ∈ r, b ≤ y) : mgR l = (a + b) + mgR ((a + b) :: r) := by
  rw [mg_perm h]
  have key : ∀ a b : Rat, a ≤ b → (∀ y ∈ r, a ≤ y) → (∀ y ∈ r, b ≤ y) → mgR (a :: b :: r) = (a + b) + mgR ((a + b) :: r) := fun a b hab ha hb => by
    have e : sortR (a :: b :: r) = a :: b :: sortR r := by
      refine sortR_of (List.pairwise_cons.mpr ⟨fun z hz => ?_, List.pairwise_cons.mpr ⟨fun z hz => hb z ((sortR_perm r).mem_iff.mp hz), sortR_srt r⟩⟩) (((sortR_perm r).cons b).cons a)
      rcases List.mem_cons.mp hz with e | hz
      · rw [e]
        exact hab
      · exact ha z ((sortR_perm r).mem_iff.mp hz)
    unfold mgR
    rw [e]
    rfl
  rcases Rat.le_total (a := a) (b := b) with c | c
  · exact key a b c ha hb
  · rw [mg_perm (.swap b a r), key b a c hb ha, Rat.add_comm b a]
theorem oins_scale {k : Rat} (hk : 0 < k) (x : Rat) : ∀ l : List Rat, oins (k * x) (l.map (k * ·)) = (oins x l).map (k * ·)
  | [] => rfl
  | y :: r => by
    rw [List.map_cons, oins, oins]
    by_cases c : x ≤ y
    · rw [if_pos c, if_pos (Rat.mul_le_mul_of_nonneg_left c (Rat.le_of_lt hk))]
      rfl
    · rw [if_neg c, if_neg (fun z => c (Rat.le_of_mul_le_mul_left z hk)), oins_scale hk x r]
      rfl
theorem sortR_scale {k : Rat} (hk : 0 < k) : ∀ l : List Rat, sortR (l.map (k * ·)) = (sortR l).map (k * ·)
  | [] => rfl
  | x :: r => by
    rw [List.map_cons, sortR, sortR, sortR_scale hk r, oins_scale hk]
theorem mergeR_scale {k : Rat} (hk : 0 < k) : ∀ (n : Nat) (l : List Rat), mergeR n (l.map (k * ·)) = k * mergeR n l
  | 0, l => by
    rw [show mergeR 0 (l.map (k * ·)) = 0 from rfl, show mergeR 0 l = 0 from rfl, Rat.mul_zero]
  | n + 1, [] => (Rat.mul_zero k).symm
  | n + 1, [x] => (Rat.mul_zero k).symm
  | n + 1, a :: b :: r => by
    show (k * a + k * b) + mergeR n (oins (k * a + k * b) (r.map (k * ·))) = k * ((a + b) + mergeR n (oins (a + b) r))
    rw [← Rat.mul_add, oins_scale hk, mergeR_scale hk n, ← Rat.mul_add]
theorem mg_scale {k : Rat} (hk : 0 < k) (l : List Rat) : mgR (l.map (k * ·)) = k * mgR l := by
  unfold mgR
  rw [sortR_scale hk, List.length_map, mergeR_scale hk]
/-! almost equal weights -/
def lenB (n i : Nat) : Nat := if i < 2 * n - 2 ^ wideN n then wideN n else wideN n - 1
theorem lenB_step {m : Nat} (hm : 1 ≤ m) : lenB (m + 1) 0 = lenB m (m - 1) + 1 ∧ lenB (m + 1) 1 = lenB m (m - 1) + 1 ∧ ∀ i, i < m - 1 → lenB (m + 1) (i + 2) = lenB m i := by
  have h1 := wide_le m
  have h2 := wideN_lt m
  obtain ⟨k, hk⟩ : ∃ k, wideN m = k := ⟨_, rfl⟩
  rw [hk] at h1 h2
  by_cases c : m = 2 ^ k
  · have e : wideN (m + 1) = k + 1 := wide_eq (by rw [Nat.pow_succ]; omega) (fun d hd => by
      have := Nat.pow_le_pow_right (n := 2) (by decide) (show d ≤ k by omega)
      omega)
    unfold lenB
    rw [e, hk, Nat.pow_succ, ← c]
    refine ⟨?_, ?_, fun i hi => ?_⟩
    · rw [if_pos (by omega), if_pos (by omega)]
    · rw [if_pos (by omega), if_pos (by omega)]
    · rw [if_neg (by omega), if_pos (by omega)]
      omega
  · have k1 : 1 ≤ k := by
      refine Nat.not_lt.mp fun z => ?_
      have : k = 0 := by omega
      subst this
      rw [Nat.pow_zero] at h1 c
      omega
    have e : wideN (m + 1) = k := wide_eq (by omega) (fun d hd => by have := h2 d hd; omega)
    have h3 := h2 (k - 1) (by omega)
    have h4 : 2 ^ k = 2 * 2 ^ (k - 1) := by
      conv => lhs; rw [show k = (k - 1) + 1 by omega, Nat.pow_succ']
    unfold lenB
    rw [e, hk]
    refine ⟨?_, ?_, fun i hi => ?_⟩
    · rw [if_pos (by omega), if_neg (by omega)]
      omega
    · rw [if_pos (by omega), if_neg (by omega)]
      omega
    · by_cases d : i < 2 * m - 2 ^ k
      · rw [if_pos d, if_pos (by omega)]
      · rw [if_neg d, if_neg (by omega)]
def wsumR (f : Nat → Nat) : Nat → List Rat → Rat
  | _, [] => 0
  | j, x :: r => x * (f j : Nat) + wsumR f (j + 1) r
theorem wsumR_app (f : Nat → Nat) : ∀ (l m : List Rat) (j : Nat), wsumR f j (l ++ m) = wsumR f j l + wsumR f (j + l.length) m
  | [], m, j => by
    rw [List.nil_append, wsumR, Rat.zero_add, List.length_nil, Nat.add_zero]
  | x :: r, m, j => by
    rw [List.cons_append, wsumR, wsumR_app f r m, wsumR, List.length_cons, Rat.add_assoc, show j + 1 + r.length = j + (r.length + 1) by omega]
theorem wsumR_congr {f g : Nat → Nat} : ∀ (l : List Rat) (i j : Nat), (∀ t, t < l.length → f (i + t) = g (j + t)) → wsumR f i l = wsumR g j l
  | [], _, _, _ => rfl
  | x :: r, i, j, h => by
    have h0 := h 0 (by simp)
    rw [Nat.add_zero, Nat.add_zero] at h0
    rw [wsumR, wsumR, h0, wsumR_congr r (i + 1) (j + 1) fun t ht => ?_]
    have := h (t + 1) (by rw [List.length_cons]; omega)
    rw [show i + 1 + t = i + (t + 1) by omega, show j + 1 + t = j + (t + 1) by omega]
    exact this
theorem mg_even : ∀ (n : Nat) (l : List Rat), l.length = n → 1 ≤ n → l.Pairwise (· ≤ ·) → (∀ y ∈ l, 0 < y) → (∀ a b r, l = a :: b :: r → ∀ y ∈ r, y ≤ a + b) → mgR l = wsumR (lenB n) 0 l := by
  intro n
  induction n with
  | zero => intro l _ h; omega
  | succ m ih =>
    intro l hl _ hs hp hm
    match l, hl, hs, hp, hm with
    | [], hl, _, _, _ => cases hl
    | [x], hl, _, _, _ =>
      have : m = 0 := by simpa using hl.symm
      subst this
      rw [mg_one]
      show (0 : Rat) = x * ((lenB 1 0 : Nat) : Rat) + 0
      rw [show lenB 1 0 = 0 by decide, show ((0 : Nat) : Rat) = 0 from rfl, Rat.mul_zero, Rat.add_zero]
    | a :: b :: r, hl, hs, hp, hm =>
      obtain ⟨h1, h2⟩ := List.pairwise_cons.mp hs
      obtain ⟨h3, h4⟩ := List.pairwise_cons.mp h2
      have hm := hm a b r rfl
      have hr : r.length + 1 = m := by simpa using hl
      have ha : 0 < a := hp a List.mem_cons_self
      have hb : 0 < b := hp b (List.mem_cons_of_mem _ List.mem_cons_self)
      rw [mg_step (.refl _) (fun y hy => h1 y (List.mem_cons_of_mem _ hy)) h3]
      have e : mgR ((a + b) :: r) = mgR (r ++ [a + b]) := mg_perm (by
        have := (List.perm_append_comm (l₁ := [a + b]) (l₂ := r))
        exact this)
      rw [e, ih (r ++ [a + b]) (by rw [List.length_append]; exact hr) (by omega) ?_ ?_ ?_]
      · obtain ⟨l0, l1, l2⟩ := lenB_step (m := m) (by omega)
        rw [wsumR_app, wsumR, wsumR, wsumR, wsumR, Nat.zero_add, Nat.zero_add, show r.length = m - 1 by omega, l0, l1]
        rw [wsumR_congr (f := lenB (m + 1)) (g := lenB m) r (1 + 1) 0 fun t ht => by rw [Nat.zero_add, show 1 + 1 + t = t + 2 by omega]; exact l2 t (by omega)]
        have e1 : ((lenB m (m - 1) + 1 : Nat) : Rat) = ((lenB m (m - 1) : Nat) : Rat) + 1 := Rat.natCast_add _ _
        rw [e1]
        grind
      · refine List.pairwise_append.mpr ⟨h4, List.pairwise_singleton _ _, fun y hy z hz => ?_⟩
        rw [List.mem_singleton.mp hz]
        exact hm y hy
      · intro y hy
        rcases List.mem_append.mp hy with hy | hy
        · exact hp y (List.mem_cons_of_mem _ (List.mem_cons_of_mem _ hy))
        · rw [List.mem_singleton.mp hy]
          grind
      · intro c d s hcd y hy
        match r, hcd with
        | [], hcd => cases hcd
        | [c'], hcd =>
          cases hcd
          cases hy
        | c' :: d' :: s', hcd =>
          cases hcd
          have g1 : a ≤ c := h1 c (by simp)
          have g2 : b ≤ d := h3 d (by simp)
          rcases List.mem_append.mp hy with hy | hy
          · have := hm y (List.mem_cons_of_mem _ (List.mem_cons_of_mem _ hy))
            grind
          · rw [List.mem_singleton.mp hy]
            grind
end St
namespace St
open PySem PySem.Spec PyProof.Rows L2
/-! ### the cut source -/
structure BestC (x : Rat) (s : Nat) : Prop where
  x0 : 0 < x
  x1 : x < 1
  s1 : 1 ≤ s
  fits : x ^ s + x ^ (s + 1) ≤ 1
  low : s = 1 ∨ 1 < x ^ (s - 1) + x ^ s
def ringR (x : Rat) (s i : Nat) : Rat := x ^ i / (1 - x ^ s)
def redL (x : Rat) (s c : Nat) : List Rat := (List.range c).map (fun i => x ^ i) ++ (List.range' c s).map (fun i => ringR x s i)
theorem pow_anti {x : Rat} (h0 : 0 < x) (h1 : x < 1) {i j : Nat} (h : i ≤ j) : x ^ j ≤ x ^ i := by
  obtain ⟨d, rfl⟩ : ∃ d, j = i + d := ⟨j - i, by omega⟩
  clear h
  induction d with
  | zero => exact Rat.le_refl
  | succ d ih =>
    refine Rat.le_trans ?_ ih
    rw [← Nat.add_assoc, Rat.pow_succ]
    have hp : 0 < x ^ (i + d) := Rat.pow_pos h0
    have := Rat.mul_le_mul_of_nonneg_left (Rat.le_of_lt h1) (Rat.le_of_lt hp)
    rw [Rat.mul_one] at this
    exact this
theorem pow_plus (x : Rat) (i j : Nat) : x ^ (i + j) = x ^ i * x ^ j := by
  induction j with
  | zero => rw [Nat.add_zero, Rat.pow_zero, Rat.mul_one]
  | succ j ih => rw [← Nat.add_assoc, Rat.pow_succ, ih, Rat.pow_succ, Rat.mul_assoc]
section
variable {x : Rat} {s : Nat}
theorem BestC.left (B : BestC x s) : 0 < 1 - x ^ s := (Rat.lt_iff_sub_pos _ _).mp (pow_lt_one B.x0 B.x1 B.s1)
theorem ring_pos (B : BestC x s) (i : Nat) : 0 < ringR x s i := by
  unfold ringR
  exact (Rat.lt_div_iff B.left).mpr (by rw [Rat.zero_mul]; exact Rat.pow_pos B.x0)
theorem ring_anti (B : BestC x s) {i j : Nat} (h : i ≤ j) : ringR x s j ≤ ringR x s i := by
  unfold ringR
  refine Rat.not_lt.mp fun c => ?_
  have h1 := (Rat.lt_div_iff B.left).mp c
  have e : x ^ i / (1 - x ^ s) * (1 - x ^ s) = x ^ i := Rat.div_mul_cancel (Rat.ne_of_gt B.left)
  rw [e] at h1
  exact Rat.not_lt.mpr (pow_anti B.x0 B.x1 h) h1
theorem le_ring (B : BestC x s) {y : Rat} {i : Nat} (h : y * (1 - x ^ s) ≤ x ^ i) : y ≤ ringR x s i := by
  unfold ringR
  refine Rat.not_lt.mp fun c => ?_
  have := (Rat.div_lt_iff B.left).mp c
  exact Rat.not_lt.mpr h this
theorem ring_le (B : BestC x s) {y : Rat} {i : Nat} (h : x ^ i ≤ y * (1 - x ^ s)) : ringR x s i ≤ y := by
  unfold ringR
  refine Rat.not_lt.mp fun c => ?_
  have := (Rat.lt_div_iff B.left).mp c
  exact Rat.not_lt.mpr h this
theorem red_step (B : BestC x s) (c : Nat) : mgR (redL x s (c + 1)) = ringR x s c + mgR (redL x s c) := by
  obtain ⟨t, rfl⟩ : ∃ t, s = t + 1 := ⟨s - 1, by have := B.s1; omega⟩
  have L := B.left
  have hx0 := B.x0
  have hx1 := B.x1
  have e1 : redL x (t + 1) (c + 1) = ((List.range c).map (fun i => x ^ i) ++ [x ^ c]) ++ ((List.range' (c + 1) t).map (fun i => ringR x (t + 1) i) ++ [ringR x (t + 1) (c + 1 + t)]) := by
    unfold redL
    rw [List.range_succ, List.map_append, List.range'_1_concat, List.map_append]
    rfl
  have e2 : redL x (t + 1) c = (List.range c).map (fun i => x ^ i) ++ (ringR x (t + 1) c :: (List.range' (c + 1) t).map (fun i => ringR x (t + 1) i)) := by
    unfold redL
    rw [List.range'_succ]
    rfl
  rw [e1, e2]
  generalize hA : (List.range c).map (fun i => x ^ i) = A
  generalize hR : (List.range' (c + 1) t).map (fun i => ringR x (t + 1) i) = R
  have memA : ∀ y ∈ A, ∃ i, i < c ∧ y = x ^ i := fun y hy => by
    rw [← hA] at hy
    obtain ⟨i, hi, rfl⟩ := List.mem_map.mp hy
    exact ⟨i, List.mem_range.mp hi, rfl⟩
  have memR : ∀ y ∈ R, ∃ i, c + 1 ≤ i ∧ i < c + 1 + t ∧ y = ringR x (t + 1) i := fun y hy => by
    rw [← hR] at hy
    obtain ⟨i, hi, rfl⟩ := List.mem_map.mp hy
    obtain ⟨h1, h2⟩ := List.mem_range'_1.mp hi
    exact ⟨i, h1, h2, rfl⟩
  have p1 : ((A ++ [x ^ c]) ++ (R ++ [ringR x (t + 1) (c + 1 + t)])).Perm (x ^ c :: ringR x (t + 1) (c + 1 + t) :: (A ++ R)) := by
    have q1 : (A ++ [x ^ c]).Perm (x ^ c :: A) := List.perm_append_singleton _ _
    have q2 : (R ++ [ringR x (t + 1) (c + 1 + t)]).Perm (ringR x (t + 1) (c + 1 + t) :: R) := List.perm_append_singleton _ _
    refine (q1.append q2).trans ?_
    rw [List.cons_append]
    exact (List.perm_middle).cons _
  have p2 : (A ++ (ringR x (t + 1) c :: R)).Perm (ringR x (t + 1) c :: (A ++ R)) := List.perm_middle
  have hsum : x ^ c + ringR x (t + 1) (c + 1 + t) = ringR x (t + 1) c := by
    unfold ringR
    have e3 : x ^ (c + 1 + t) = x ^ c * x ^ (t + 1) := by rw [show c + 1 + t = c + (t + 1) by omega, pow_plus]
    have hne := Rat.ne_of_gt L
    rw [e3]
    generalize x ^ c = u at *
    generalize x ^ (t + 1) = v at *
    grind
  rw [mg_step p1 ?_ ?_, hsum, mg_perm p2]
  · intro y hy
    rcases List.mem_append.mp hy with hy | hy
    · obtain ⟨i, hi, rfl⟩ := memA y hy
      exact pow_anti hx0 hx1 (by omega)
    · obtain ⟨i, h1, h2, rfl⟩ := memR y hy
      refine Rat.le_trans (le_ring B (i := c + t) ?_) (ring_anti B (by omega))
      have lo : 1 < x ^ t + x ^ (t + 1) := by
        rcases B.low with h | h
        · omega
        · exact h
      rw [pow_plus x c t]
      refine Rat.mul_le_mul_of_nonneg_left ?_ (Rat.le_of_lt (Rat.pow_pos hx0))
      grind
  · intro y hy
    rcases List.mem_append.mp hy with hy | hy
    · obtain ⟨i, hi, rfl⟩ := memA y hy
      refine Rat.le_trans (ring_le B (y := x ^ (c - 1)) ?_) (pow_anti hx0 hx1 (by omega))
      rw [show c + 1 + t = (c - 1) + (t + 1 + 1) by omega, pow_plus]
      refine Rat.mul_le_mul_of_nonneg_left ?_ (Rat.le_of_lt (Rat.pow_pos hx0))
      have := B.fits
      grind
    · obtain ⟨i, h1, h2, rfl⟩ := memR y hy
      exact ring_anti B (by omega)
/-! sums -/
def sumN (F : Nat → Rat) : Nat → Rat
  | 0 => 0
  | n + 1 => sumN F n + F n
theorem sumN_front (F : Nat → Rat) : ∀ n, sumN F (n + 1) = F 0 + sumN (fun i => F (i + 1)) n
  | 0 => by simp only [sumN]; grind
  | n + 1 => by
    rw [sumN, sumN_front F n, sumN, Rat.add_assoc]
theorem sumN_congr {F G : Nat → Rat} : ∀ {n : Nat}, (∀ i, i < n → F i = G i) → sumN F n = sumN G n
  | 0, _ => rfl
  | n + 1, h => by rw [sumN, sumN, sumN_congr fun i hi => h i (by omega), h n (by omega)]
theorem sumN_rev (F : Nat → Rat) : ∀ n, sumN (fun i => F (n - 1 - i)) n = sumN F n
  | 0 => rfl
  | n + 1 => by
    rw [sumN_front, sumN]
    have e : sumN (fun i => F (n + 1 - 1 - (i + 1))) n = sumN (fun i => F (n - 1 - i)) n := sumN_congr fun i hi => by rw [show n + 1 - 1 - (i + 1) = n - 1 - i by omega]
    rw [e, sumN_rev F n, Rat.add_comm]
    rfl
theorem wsum_range (f : Nat → Nat) (g : Nat → Rat) : ∀ (n j : Nat), wsumR f j ((List.range n).map g) = sumN (fun i => g i * (f (j + i) : Nat)) n
  | 0, _ => rfl
  | n + 1, j => by
    rw [List.range_succ, List.map_append, wsumR_app, wsum_range f g n j, sumN, List.length_map, List.length_range]
    show _ + (g n * _ + 0) = _
    rw [Rat.add_zero]
def rlN (s j : Nat) : Nat := if j < shortN s then wideN s - 1 else wideN s
theorem lenB_rl {i : Nat} (hs : 1 ≤ s) (hi : i < s) : lenB s i = rlN s (s - 1 - i) := by
  have h1 := wide_le s
  have h2 : 2 ^ wideN s < 2 * s := by
    cases e : wideN s with
    | zero => rw [Nat.pow_zero]; omega
    | succ k =>
      have := wideN_lt s k (by omega)
      rw [Nat.pow_succ]
      omega
  unfold lenB rlN shortN
  by_cases c : i < 2 * s - 2 ^ wideN s
  · rw [if_pos c, if_neg (by omega)]
  · rw [if_neg c, if_pos (by omega)]
theorem mg_ring (B : BestC x s) : mgR (redL x s 0) = sumN (fun j => ringR x s j * (rlN s j : Nat)) s := by
  have hs1 := B.s1
  have hx0 := B.x0
  have hx1 := B.x1
  have p : (redL x s 0).Perm ((List.range s).map fun i => ringR x s (s - 1 - i)) := by
    unfold redL
    rw [List.range_zero, List.map_nil, List.nil_append, ← List.range_eq_range']
    have e : (List.range s).map (fun i => ringR x s (s - 1 - i)) = ((List.range s).reverse).map (fun i => ringR x s i) := by
      apply List.ext_getElem?
      intro i
      by_cases c : i < s
      · rw [List.getElem?_map, List.getElem?_map, List.getElem?_range c, List.getElem?_reverse (by rw [List.length_range]; exact c), List.length_range, List.getElem?_range (by omega)]
        rfl
      · rw [List.getElem?_eq_none (by rw [List.length_map, List.length_range]; omega), List.getElem?_eq_none (by rw [List.length_map, List.length_reverse, List.length_range]; omega)]
    rw [e]
    exact (List.reverse_perm _).symm.map _
  rw [mg_perm p, mg_even s _ (by rw [List.length_map, List.length_range]) hs1 ?_ ?_ ?_, wsum_range]
  · rw [← sumN_rev (fun j => ringR x s j * (rlN s j : Nat))]
    exact sumN_congr fun i hi => by rw [Nat.zero_add, lenB_rl hs1 hi]
  · refine List.pairwise_map.mpr (List.pairwise_iff_getElem.mpr fun i j hi hj hij => ?_)
    rw [List.length_range] at hi hj
    rw [List.getElem_range, List.getElem_range]
    exact ring_anti B (by omega)
  · intro y hy
    obtain ⟨i, _, rfl⟩ := List.mem_map.mp hy
    exact ring_pos B _
  · intro a b r hl y hy
    have hlen := congrArg List.length hl
    rw [List.length_map, List.length_range, List.length_cons, List.length_cons] at hlen
    have ha : a = ringR x s (s - 1) := by
      have := congrArg (fun l : List Rat => l[0]?) hl
      simp only [List.getElem?_map, List.getElem?_range (show 0 < s by omega)] at this
      exact (Option.some.inj this).symm
    have hb : b = ringR x s (s - 2) := by
      have := congrArg (fun l : List Rat => l[1]?) hl
      simp only [List.getElem?_map, List.getElem?_range (show 1 < s by omega)] at this
      exact (Option.some.inj this).symm
    have hy2 : y ∈ (List.range s).map fun i => ringR x s (s - 1 - i) := by
      rw [hl]
      exact List.mem_cons_of_mem _ (List.mem_cons_of_mem _ hy)
    obtain ⟨i, _, rfl⟩ := List.mem_map.mp hy2
    refine Rat.le_trans (ring_anti B (i := 0) (Nat.zero_le _)) ?_
    have lo : 1 < x ^ (s - 1) + x ^ s := by
      rcases B.low with h | h
      · omega
      · exact h
    have h3 : x ^ s ≤ x ^ (s - 1) := pow_anti hx0 hx1 (by omega)
    have h4 : x ^ (s - 1) ≤ x ^ (s - 2) := pow_anti hx0 hx1 (by omega)
    have h5 : x ^ 0 ≤ x ^ (s - 1) + x ^ (s - 2) := by
      rw [Rat.pow_zero]
      grind
    rw [ha, hb]
    have e : ringR x s (s - 1) + ringR x s (s - 2) = (x ^ (s - 1) + x ^ (s - 2)) / (1 - x ^ s) := by
      unfold ringR
      have hne := Rat.ne_of_gt B.left
      generalize x ^ (s - 1) = u
      generalize x ^ (s - 2) = v
      generalize 1 - x ^ s = w at *
      grind
    rw [e]
    refine ring_le B ?_
    rw [Rat.div_mul_cancel (Rat.ne_of_gt B.left)]
    exact h5
theorem geo (x : Rat) : ∀ n, (1 - x) * sumN (fun j => x ^ j) n = 1 - x ^ n
  | 0 => by
    show (1 - x) * 0 = 1 - x ^ 0
    rw [Rat.pow_zero]
    grind
  | n + 1 => by
    rw [sumN, Rat.mul_add, geo x n, Rat.pow_succ]
    grind
theorem rl_sum (x : Rat) (hk : 1 ≤ wideN s) : ∀ n, (1 - x) * sumN (fun j => x ^ j * (rlN s j : Nat)) n = (wideN s : Nat) * (1 - x ^ n) - (1 - x ^ (min n (shortN s)))
  | 0 => by
    show (1 - x) * 0 = _
    rw [Nat.zero_min, Rat.pow_zero]
    grind
  | n + 1 => by
    rw [sumN, Rat.mul_add, rl_sum x hk n]
    unfold rlN
    have ek : ((wideN s - 1 : Nat) : Rat) = ((wideN s : Nat) : Rat) - 1 := by
      have : ((wideN s - 1 + 1 : Nat) : Rat) = ((wideN s - 1 : Nat) : Rat) + 1 := Rat.natCast_add _ _
      rw [show wideN s - 1 + 1 = wideN s by omega] at this
      rw [this]
      grind
    by_cases c : n < shortN s
    · rw [if_pos c, Nat.min_eq_left (by omega), Nat.min_eq_left (show n + 1 ≤ shortN s by omega), ek, Rat.pow_succ]
      grind
    · rw [if_neg c, Nat.min_eq_right (by omega), Nat.min_eq_right (show shortN s ≤ n + 1 by omega), Rat.pow_succ]
      grind
theorem sumN_scale (k : Rat) (F : Nat → Rat) : ∀ n, sumN (fun i => k * F i) n = k * sumN F n
  | 0 => (Rat.mul_zero k).symm
  | n + 1 => by rw [sumN, sumN, sumN_scale k F n, Rat.mul_add]
theorem mg_zero (B : BestC x s) : (1 - x) * mgR (redL x s 0) + 1 / (1 - x ^ s) = meanR s x := by
  have hne := Rat.ne_of_gt B.left
  have hs1 := B.s1
  rw [mg_ring B]
  have e : sumN (fun j => ringR x s j * (rlN s j : Nat)) s = (1 / (1 - x ^ s)) * sumN (fun j => x ^ j * (rlN s j : Nat)) s := by
    rw [← sumN_scale]
    refine sumN_congr fun i hi => ?_
    unfold ringR
    generalize x ^ i = u
    generalize 1 - x ^ s = w at *
    grind
  have e2 : (1 - x) * ((1 / (1 - x ^ s)) * sumN (fun j => x ^ j * (rlN s j : Nat)) s) = (1 / (1 - x ^ s)) * ((1 - x) * sumN (fun j => x ^ j * (rlN s j : Nat)) s) := by
    rw [← Rat.mul_assoc, Rat.mul_comm (1 - x), Rat.mul_assoc]
  rw [e, e2]
  unfold meanR
  by_cases c : 0 < wideN s
  · have hsh := short_lt hs1
    rw [rl_sum x c, Nat.min_eq_right (by omega), if_pos c]
    have e1 : (((if (wideN s : Int) > 1 then (wideN s : Int) else 1 : Int)) : Rat) = ((wideN s : Nat) : Rat) := by
      split
      · rfl
      · rw [show wideN s = 1 by omega]
        rfl
    rw [e1]
    generalize ((wideN s : Nat) : Rat) = k
    generalize x ^ shortN s = u
    generalize x ^ s = v at *
    grind
  · have w0 : wideN s = 0 := by omega
    have m1 := short_zero w0 hs1
    subst m1
    rw [if_neg c, w0]
    have e3 : sumN (fun j => x ^ j * (rlN 1 j : Nat)) 1 = 0 := by
      show (0 : Rat) + x ^ 0 * ((rlN 1 0 : Nat) : Rat) = 0
      rw [show rlN 1 0 = 0 by decide, show ((0 : Nat) : Rat) = 0 from rfl]
      grind
    rw [e3]
    have e1 : (((if ((0 : Nat) : Int) > 1 then ((0 : Nat) : Int) else 1 : Int)) : Rat) = 1 := rfl
    rw [e1]
    generalize x ^ 1 = v at *
    grind
/-- for every count the same -/
theorem mg_count (B : BestC x s) : ∀ c, (1 - x) * mgR (redL x s c) + x ^ c / (1 - x ^ s) = meanR s x
  | 0 => by
    rw [Rat.pow_zero]
    exact mg_zero B
  | c + 1 => by
    rw [← mg_count B c, red_step B, Rat.pow_succ]
    unfold ringR
    have hne := Rat.ne_of_gt B.left
    generalize mgR (redL x s c) = m
    generalize x ^ c = u
    generalize 1 - x ^ s = v at *
    grind
end
end St
namespace St
open PySem PySem.Spec PyProof.Rows L2
/-! ### a reader of texts as it stands -/
structure RdC (K : PySem.W.Frag) (mg : Str → Option Value) (C : Addr) : Prop extends ObC K mg "Reader" C where
  nS : NoAttr K C "size"
  nT : NoAttr K C "text"
  nP : NoAttr K C "past"
def rdF (m : Nat) (x : Str) (p : Addr) : List (Str × V) := [("size", .int (m : Nat)), ("text", .str x), ("past", .ref p)]
theorem st_ : ¬ (("size" : Str) = "text") := by decide +kernel
theorem sp_ : ¬ (("size" : Str) = "past") := by decide +kernel
theorem tp_ : ¬ (("text" : Str) = "past") := by decide +kernel
theorem rd_put (m : Nat) (x : Str) (p : Addr) : putF "past" (.ref p) (putF "text" (.str x) (putF "size" (.int (m : Nat)) [])) = rdF m x p := by
  show putF "past" (.ref p) (if ("size" : Str) = "text" then _ else (("size" : Str), V.int (m : Nat)) :: putF "text" (.str x) []) = _
  rw [if_neg st_]
  show (if ("size" : Str) = "past" then _ else (("size" : Str), V.int (m : Nat)) :: (if ("text" : Str) = "past" then _ else (("text" : Str), V.str x) :: putF "past" (.ref p) [])) = _
  rw [if_neg sp_, if_neg tp_]
  rfl
theorem rd_text (m : Nat) (x y : Str) (p : Addr) : putF "text" (.str y) (rdF m x p) = rdF m y p := by
  show (if ("size" : Str) = "text" then _ else (("size" : Str), V.int (m : Nat)) :: (if ("text" : Str) = "text" then (("text" : Str), V.str y) :: [(("past" : Str), V.ref p)] else _)) = _
  rw [if_neg st_, if_pos rfl]
  rfl
theorem rd_past (m : Nat) (x : Str) (p q : Addr) : putF "past" (.ref q) (rdF m x p) = rdF m x q := by
  show (if ("size" : Str) = "past" then _ else (("size" : Str), V.int (m : Nat)) :: (if ("text" : Str) = "past" then _ else (("text" : Str), V.str x) :: (if ("past" : Str) = "past" then [(("past" : Str), V.ref q)] else _))) = _
  rw [if_neg sp_, if_neg tp_, if_pos rfl]
  rfl
theorem rd_gs (m : Nat) (x : Str) (p : Addr) : (rdF m x p).lookup ("size" : Str) = some (.int (m : Nat)) := by
  rw [← rd_put, lookup_putF, if_neg sp_, lookup_putF, if_neg st_, lookup_putF, if_pos rfl]
theorem rd_gt (m : Nat) (x : Str) (p : Addr) : (rdF m x p).lookup ("text" : Str) = some (.str x) := by
  rw [← rd_put, lookup_putF, if_neg tp_, lookup_putF, if_pos rfl]
theorem rd_gp (m : Nat) (x : Str) (p : Addr) : (rdF m x p).lookup ("past" : Str) = some (.ref p) := by
  rw [← rd_put, lookup_putF, if_pos rfl]
theorem rd_no (m : Nat) (x : Str) (p : Addr) {f : Str} (h1 : ¬ f = "size") (h2 : ¬ f = "text") (h3 : ¬ f = "past") : (rdF m x p).lookup f = none := by
  rw [← rd_put, lookup_putF, if_neg h3, lookup_putF, if_neg h2, lookup_putF, if_neg h1]
  rfl
/-- a reader at r: its step, its text, what it has been told -/
structure RdAt (C : Addr) (H : Hp) (r p : Addr) (m : Nat) (l : List Bool) (past : List Nat) : Prop where
  o : ∃ dx, H r = some (.ins C dx (rdF m (tx l) p))
  p : H p = some (.lst (past.map fun n => V.int (n : Nat)))
  m1 : 1 ≤ m
  m64 : m ≤ 64
  l4 : l.length ≤ 4000
  p4 : past.length ≤ 100
theorem RdAt.same {C : Addr} {H H' : Hp} {r p : Addr} {m : Nat} {l : List Bool} {past : List Nat} (h : RdAt C H r p m l past) (s : Same H H') : RdAt C H' r p m l past := by
  obtain ⟨⟨dx, o⟩, hp, a, b, c, d⟩ := h
  exact ⟨⟨dx, s _ _ o⟩, s _ _ hp, a, b, c, d⟩
/-- all stands but the reader and its past -/
def KeepR (r p : Addr) (H H' : Hp) : Prop := ∀ b o, b ≠ r → b ≠ p → H b = some o → H' b = some o
theorem KeepR.of {r p : Addr} {H H' : Hp} (s : Same H H') : KeepR r p H H' := fun b o _ _ h => s b o h
theorem KeepR.trans {r p : Addr} {H H1 H2 : Hp} (a : KeepR r p H H1) (b : KeepR r p H1 H2) : KeepR r p H H2 := fun c o h1 h2 h => b c o h1 h2 (a c o h1 h2 h)
end St
namespace St
open PySem PySem.Spec PyProof.Rows L2
/-! ### reading by a dict of the ends of words, as the laws do it -/
theorem rest_inj {m r s : Nat} (hm : 1 ≤ m) (hr : r < m) (hs : s < m) (h : restB m r = restB m s) : r = s := by
  have e : wordB m r ++ [] = wordB m s ++ [] := by
    unfold wordB
    rw [Nat.div_eq_of_lt hr, Nat.div_eq_of_lt hs, Nat.mod_eq_of_lt hr, Nat.mod_eq_of_lt hs, h]
  exact (word_pre hm e).1
structure Known (m j : Nat) (kvs : List (Key × V)) : Prop where
  len : kvs.length ≤ j
  has : ∀ r, r < j → valV kvs (.inr (tx (restB m r))) = some (.int (r : Nat))
  no : ∀ w, (∀ r, r < j → restB m r ≠ w) → valV kvs (.inr (tx w)) = none
theorem Known.nil (m : Nat) : Known m 0 [] := ⟨Nat.le_refl _, fun r h => by omega, fun w _ => valV_nil⟩
theorem Known.more {m j : Nat} {kvs : List (Key × V)} (hm : 1 ≤ m) (hj : j < m) (h : Known m j kvs) : Known m (j + 1) (putK kvs (.inr (tx (restB m j))) (.int (j : Nat))) := by
  refine ⟨?_, ?_, ?_⟩
  · have := length_putK kvs (.inr (tx (restB m j))) (.int (j : Nat))
    have := h.len
    omega
  · intro r hr
    rw [valV_put]
    by_cases c : r = j
    · rw [if_pos (by rw [c]), c]
    · rw [if_neg (fun z => c (rest_inj hm (by omega) hj (tx_inj (Sum.inr.inj z)))), h.has r (by omega)]
  · intro w hw
    rw [valV_put, if_neg (fun z => hw j (by omega) (tx_inj (Sum.inr.inj z)).symm), h.no w fun r hr => hw r (by omega)]
theorem word_of {m k r : Nat} (hr : r < m) : wordB m (k * m + r) = List.replicate k true ++ false :: restB m r := by
  have d1 : (k * m + r) / m = k := by
    rw [Nat.add_comm, Nat.add_mul_div_right _ _ (by omega), Nat.div_eq_of_lt hr, Nat.zero_add]
  have d2 : (k * m + r) % m = r := by
    rw [Nat.add_comm, Nat.add_mul_mod_self_right, Nat.mod_eq_of_lt hr]
  unfold wordB
  rw [d1, d2]
theorem fe_hit {m r c a k : Nat} {l : List Bool} (hm : 1 ≤ m) (hr : r < m) (hk : onesN (l.drop a) = k) (h : (l.drop (a + k + 1)).take c = restB m r) (hc : a + k + 1 + c ≤ l.length) :
    feN m l a = some (k * m + r, a + k + 1 + c) := by
  have hs := ones_split (l.drop a) (by rw [List.length_drop]; omega)
  rw [hk, List.drop_drop, show a + (k + 1) = a + k + 1 by omega] at hs
  have e : l.drop a = wordB m (k * m + r) ++ (l.drop (a + k + 1)).drop c := by
    rw [word_of hr, List.append_assoc, List.cons_append, ← h, List.take_append_drop]
    exact hs
  have hl : (wordB m (k * m + r)).length = k + 1 + c := by
    rw [word_of hr, List.length_append, List.length_replicate, List.length_cons, ← h, List.length_take, List.length_drop]
    omega
  unfold feN
  rw [e, rd_word m hm, hl]
  show some (k * m + r, a + (k + 1 + c)) = _
  rw [show a + (k + 1 + c) = a + k + 1 + c by omega]
theorem fe_is {m a k n e : Nat} {l : List Bool} (hm : 1 ≤ m) (ha : a ≤ l.length) (hk : onesN (l.drop a) = k) (h : feN m l a = some (n, e)) :
    ∃ r c, r < m ∧ c ≤ wideN m ∧ e = a + k + 1 + c ∧ e ≤ l.length ∧ (l.drop (a + k + 1)).take c = restB m r := by
  obtain ⟨h1, h2, d, h3, rfl⟩ := rd_bound hm ha h
  obtain ⟨post, e1, e2⟩ := rd_some m hm _ _ _ h3
  have hk2 : k = n / m := by
    rw [← hk, e1]
    unfold wordB
    rw [List.append_assoc, List.cons_append, ones_rep]
  have hlen := word_len m n
  refine ⟨n % m, (restB m (n % m)).length, Nat.mod_lt _ (by omega), rest_len_le m _, by rw [e2, hlen, hk2]; omega, h2, ?_⟩
  have e3 : l.drop (a + k + 1) = restB m (n % m) ++ post := by
    rw [show a + k + 1 = a + (k + 1) by omega, ← List.drop_drop, e1, hk2]
    have : wordB m n ++ post = (List.replicate (n / m) true ++ [false]) ++ (restB m (n % m) ++ post) := by
      unfold wordB
      simp [List.append_assoc]
    rw [this]
    exact List.drop_left' (by simp)
  rw [e3, List.take_left' rfl]
theorem ones_more {l : List Bool} {a i : Nat} (h : i ≤ onesN (l.drop a)) : (l[a + i]? = some true) ↔ i < onesN (l.drop a) := by
  have := ones_at (l.drop a) i h
  rw [List.getElem?_drop] at this
  exact this
end St
namespace St
open PySem PySem.Spec PyProof.Rows L2
/-! ### any value that is a text of signs -/
def sgOk (c : Nat) : Bool := decide (c ∈ ("01" : Str).cps.toList)
def isT : V → Bool
  | .str z => decide (z.length ≤ 4000) && z.cps.toList.all sgOk
  | _ => false
theorem isT_tx {x : V} (h : isT x = true) : ∃ s : List Bool, x = .str (tx s) ∧ s.length ≤ 4000 := by
  cases x with
  | str z =>
    have h' : (decide (z.length ≤ 4000) && z.cps.toList.all sgOk) = true := h
    rw [Bool.and_eq_true, decide_eq_true_eq] at h'
    have e01 : ("01" : Str).cps.toList = [sg false, sg true] := by decide +kernel
    have key : ∀ l : List Nat, l.all sgOk = true → ∃ s : List Bool, s.map sg = l := by
      intro l
      induction l with
      | nil => exact fun _ => ⟨[], rfl⟩
      | cons c l ih =>
        intro hl
        rw [List.all_cons, Bool.and_eq_true] at hl
        obtain ⟨s, es⟩ := ih hl.2
        have hc : c ∈ ("01" : Str).cps.toList := of_decide_eq_true hl.1
        rw [e01] at hc
        rcases List.mem_cons.mp hc with e | hc
        · exact ⟨false :: s, by rw [List.map_cons, es, e]⟩
        · exact ⟨true :: s, by rw [List.map_cons, es, List.mem_singleton.mp hc]⟩
    obtain ⟨s, es⟩ := key _ h'.2
    have ez : z = tx s := str_ext (by rw [tx_list, es])
    refine ⟨s, by rw [ez], ?_⟩
    have := h'.1
    rw [ez, tx_len] at this
    exact this
  | _ => cases h
theorem TyOf_same {K : PySem.W.Frag} {H H' : Hp} (s : Same H H') {x : V} {t : Value} (h : TyOf K H x t) : TyOf K H' x t := by
  cases h with
  | non => exact .non
  | bl b => exact .bl b
  | int i => exact .int i
  | str z => exact .str z
  | flt z => exact .flt z
  | lst e => exact .lst (s _ _ e)
  | frz e => exact .frz (s _ _ e)
  | tup e => exact .tup (s _ _ e)
  | dK e => exact .dK (s _ _ e)
  | dT e => exact .dT (s _ _ e)
  | ins e c1 c2 c3 c4 c5 => exact .ins (s _ _ e) c1 c2 c3 c4 c5
theorem TyX_same {K : PySem.W.Frag} {H H' : Hp} (s : Same H H') {x : V} {t : Value} (h : TyX K H x t) : TyX K H' x t := by
  cases h with
  | base h => exact .base (TyOf_same s h)
  | byt b => exact .byt b
  | set e => exact .set (s _ _ e)
  | kList e c => exact .kList e c
  | kTuple e c => exact .kTuple e c
  | kDict e c => exact .kDict e c
  | fTuple e => exact .fTuple (s _ _ e)
  | fDict e => exact .fDict (s _ _ e)
end St
namespace St
open PySem PySem.Spec PyProof.Rows L2
/-! ### try with several clauses, each with a name -/
/-- what the clauses ask of an exception, from the first on: (the class, the name's slot, the suite's reading) -/
def wNames (K : PySem.W.Frag) (Wout : WX) (D : Ends) : List (Value × Nat × (Addr → Value → Option Addr → TS)) → WX
  | [] => Wout
  | (c, i, ts) :: r => wAs K c i ts (wNames K Wout D r) D
inductive ClauseOk (X : Cx) : List ExceptHandler → List (Value × Nat × (Addr → Value → Option Addr → TS)) → Prop
  | nil : ClauseOk X [] []
  | cons {x n : Str} {c : Value} {i : Nat} {ts : Addr → Value → Option Addr → TS} {one : Stmt} {more : List Stmt} {p1 p2 : Pos} {rest : List ExceptHandler} {l : List (Value × Nat × (Addr → Value → Option Addr → TS))}
      (hi : X.N[i]? = some n) (hn : X.env.kindOf n = some .local) (hc : Names X x c)
      (go : ∀ (a : Addr) (oe : Obj) (cls : Value) (d : Option Addr) (pn : List (Addr × Obj)), Zc cls d oe → (∃ vs, oe.data = .fields vs) → PSs (X.suite a ((a, oe) :: pn)) (one :: more) (ts a cls d)) (r : ClauseOk X rest l) :
      ClauseOk X (.ExceptHandler (some (.Name x p1)) (some n) (one :: more) p2 :: rest) ((c, i, ts) :: l)
/-- an exception of the body is in hand: s holds it, s0 is the state without it, B all that neither touches -/
structure InHand (X : Cx) (pins : List (Addr × Obj)) (σ : L2.St) (H : Hp) (B : Heap) (a : Addr) (cls : Value) (d : Option Addr) (s0 s : Shared) : Prop where
  inv : Inv X pins σ H s0
  kept : ∀ b o, s0.heap.get? b = some o → b ∉ frs X.stack → B.get? b = some o
  up : s0.heap.UpToSlots s.heap
  fly : HandSPX.FlyingZ B (X.env :: X.outer) a (Zc cls d) s.heap
  no : H a = none
  os : s.os = s0.os
  bare : AllBare s.gens
section
variable {X : Cx} {pins : List (Addr × Obj)} {σ : L2.St} {H : Hp} {B : Heap} {a : Addr} {cls : Value} {d : Option Addr} {s0 s : Shared}
theorem InHand.still (q : InHand X pins σ H B a cls d s0 s) {h : Heap} (f : HandSPX.FlyingZ B (X.env :: X.outer) a (Zc cls d) h) (u : s.heap.UpToSlots h) : InHand X pins σ H B a cls d s0 { s with heap := h } :=
  ⟨q.inv, q.kept, q.up.trans u, f, q.no, q.os, q.bare⟩
theorem InHand.here (q : InHand X pins σ H B a cls d s0 s) : Inv X pins σ H s := q.inv.landed q.kept q.fly.1 q.up q.os q.bare
theorem InHand.held (q : InHand X pins σ H B a cls d s0 s) (hf : X.env.frame = some X.env.locals) : ∃ oe, s.heap.get? a = some oe ∧ Zc cls d oe ∧ (∃ vs, oe.data = .fields vs) ∧ Inv (X.suite a ((a, oe) :: (X.pn ++ pins))) [] σ H s := by
  obtain ⟨oe, vs, ha, hz, hd⟩ := q.fly.there
  have out : ¬ a ∈ frs (X.env :: X.outer) := by
    intro hm
    obtain ⟨_, o, ho, hnf⟩ := q.fly.2.2.1.mem hm
    exact hnf _ ((show oe = o from Option.some.inj (ha.symm.trans ho)) ▸ hd)
  have oL : a ≠ X.env.locals := by
    intro e
    exact out (List.mem_filterMap.mpr ⟨X.env, .head _, by rw [e]; exact hf⟩)
  have oF : a ∉ X.fs := by
    intro hm
    obtain ⟨v, hv, e⟩ := List.mem_filterMap.mp hm
    exact out (List.mem_filterMap.mpr ⟨v, .tail _ hv, e⟩)
  exact ⟨oe, ha, hz, ⟨vs, hd⟩, q.here.suite ha hd q.no oL oF⟩
/-- no clause is left: it goes on -/
theorem InHand.on {Wout : WX} {D : Ends} (q : InHand X pins σ H B a cls d s0 s) (hs : X.stack = X.env :: X.outer) (hf : X.env.frame = some X.env.locals) (tk : Takes X Wout) (w : Wout cls d σ H) :
    wpAny (model X.prog X.w) X.A (handleBy (.ref a) X.env []) (SP X pins D) X.xe s := by
  have away : wpAny (model X.prog X.w) X.A (setFlight (.ref a) X.env.frame) (fun _ s2 => wpAny (model X.prog X.w) X.A (throw (.ref a) : Sem Flow) (SP X pins D) X.xe s2) X.xe s := by
    rw [hf]
    refine HandSPX.setFlight_upZ q.fly ?_
    intro h2 held u2
    refine wpAny_throw (tk _ _ ⟨a, B, s0, pins, σ, H, cls, d, rfl, q.inv, q.kept, q.up.trans u2, ?_, q.no, q.os, q.bare, w⟩)
    rw [hs]
    exact .inr (.inr held)
  refine wpAny_handleBy_nil ?_
  obtain ⟨oe, vs, T, oT, ts', g1, g2, g3, g4, g5⟩ := q.fly.2.2.2
  unfold PySem.passOn
  refine wpAny_bind (wpAny_field g1 g3 g4 ?_)
  have noT : ¬ ((Value.ref T == Value.none) = true) := by simp
  rw [if_neg noT]
  first | exact wpAny_bind (wpAny_pure (wpAny_bind away)) | exact wpAny_bind away
/-- the clauses, one by one -/
theorem InHand.by_ {Wout : WX} {D : Ends} {cs : List ExceptHandler} {l : List (Value × Nat × (Addr → Value → Option Addr → TS))} (k : ClauseOk X cs l) (q : InHand X pins σ H B a cls d s0 s) (hs : X.stack = X.env :: X.outer) (hf : X.env.frame = some X.env.locals)
    (hN : X.N.Nodup) (ok : X.Ok) (tk : Takes X Wout) (w : wNames X.K Wout D l cls d σ H) : wpAny (model X.prog X.w) X.A (handleBy (.ref a) X.env cs) (SP X pins D) X.xe s := by
  induction k with
  | nil => exact q.on hs hf tk w
  | @cons x n c i ts one more p1 p2 rest l hi hn hc go r ih =>
    obtain ⟨yes, hy, ky, kn⟩ : ∃ b, PySem.W.exmOne X.K cls c = some b ∧ _ ∧ _ := w
    obtain ⟨oe, ha, hz, _, S⟩ := q.held hf
    have L1 : PySem.W.Looks (model X.prog X.w) s.heap (typeOf (.ref a)) cls := by
      intro A Q E s' k' e
      refine wpAny_typeOf_ref (k' _ _ ha) ?_
      rw [hz.1]
      exact e
    refine wpAny_handleBy_cons (codeAny_handlers_test ?_) (fun e => nomatch e)
    have seen : ∀ {Q : Value → Shared → Prop} {E : Value → Shared → Prop}, Q c s → wpAny (model X.prog X.w) (X.A.mark (some (.ref a))) (eval (.Name x p1) X.env) Q E s := by
      intro Q E e
      rcases hc with ⟨g, db, m | ⟨m, bb, nn⟩⟩
      · exact ld_glob S g m e db
      · exact ld_blt S g m bb e nn db
    refine seen ((PySem.W.exm_one (M := model X.prog X.w) q.here.kIn L1 hy).here ?_)
    cases yes with
    | false => exact ih (kn rfl)
    | true =>
      refine codeAny_handlers_suite_as (HandSPX.lands_againZ q.fly fun h5 f5 u5 => ?_)
      obtain ⟨oe5, ha5, hz5, hd5, S5⟩ := (q.still f5 u5).held hf
      refine store_ok (X := X.suite a ((a, oe5) :: (X.pn ++ pins))) S5 hN hi (.inl hn) (v := .ref a) rfl (fun s6 S6 => ?_) (.inr hn)
      have run := (go a oe5 cls d (X.pn ++ pins) hz5 hd5).run [] s6 _ H _ S6 (ky rfl a q.no)
      refine wpAny_mono run (fun f s7 e7 => ?_) fun _ _ no => no.elim
      have gone : ∀ {σ7 : L2.St} {H7 : Hp} {Q : Shared → Prop}, Inv (X.suite a ((a, oe5) :: (X.pn ++ pins))) [] σ7 H7 s7 → (∀ s8, Inv X pins (σ7.set i none) H7 s8 → Q s8) →
          wpAny (model X.prog X.w) X.A (do bindName X.env n .none; unbindBehindTheSuite X.env n p2) (fun _ s8 => Q s8) X.xe s7 := fun T7 e => gone_ok (T7.unsuite ok) hN hi hn e
      cases f with
      | ret u =>
        obtain ⟨v, σ7, H7, T7, rv, e⟩ := e7
        exact gone T7 fun s8 J => ⟨v, _, H7, J, rv, e⟩
      | next =>
        obtain ⟨σ7, H7, T7, e⟩ := e7
        exact gone T7 fun s8 J => ⟨_, H7, J, e⟩
      | brk =>
        obtain ⟨σ7, H7, T7, e⟩ := e7
        exact gone T7 fun s8 J => ⟨_, H7, J, e⟩
      | cont =>
        obtain ⟨σ7, H7, T7, e⟩ := e7
        exact gone T7 fun s8 J => ⟨_, H7, J, e⟩
end
section
variable {X : Cx} {body : List Stmt} {c1 : ExceptHandler} {cs : List ExceptHandler} {l : List (Value × Nat × (Addr → Value → Option Addr → TS))} {pos : Pos} {tb : WX → TS} {Wout : WX}
theorem ps_try_names (hs : X.stack = X.env :: X.outer) (hf : X.env.frame = some X.env.locals) (hN : X.N.Nodup) (tk : Takes X Wout) (k : ClauseOk X (c1 :: cs) l)
    (hb : ∀ (W : WX) (pn : List (Addr × Obj)) (xe : Value → Shared → Prop), Takes (X.tr pn xe) W → PassesOwn (model X.prog X.w) X.A X.env xe → PSs (X.tr pn xe) body (tb W)) :
    PS X (.Try body (c1 :: cs) [] [] pos) (fun D σ H => tb (wNames X.K Wout D l) D σ H) := by
  refine ⟨fun pins s σ H D I h => wpAny_Try_except ?_⟩
  have ok := I.ok
  have fr : X.A.frames = some (X.env :: X.outer) := ok.frames.trans (by rw [hs])
  have caught : Takes (X.tr (X.pn ++ pins) (fun e t => wpAny (model X.prog X.w) X.A (noteFrame e X.env) (fun _ t2 => wpAny (model X.prog X.w) X.A (setFlight e none) (fun _ t3 =>
      wpAny (model X.prog X.w) X.A (handleBy e X.env (c1 :: cs)) (SP X pins D) X.xe t3) X.xe t2) X.xe t)) (wNames X.K Wout D l) := by
    rintro u t ⟨a, B, s0, pins', σ', H', cls, d, rfl, J, nb, up, sky, na, os, ag, w⟩
    replace sky : Sky B (X.env :: X.outer) a (Zc cls d) X.env.locals t.heap := hs ▸ sky
    refine Sky.land Zc.steady fr hf sky (fun h3 f3 u3 => ?_)
    have q : InHand X pins σ' H' B a cls d s0 { t with heap := h3 } := ⟨J.ofTry ok, nb, up.trans u3, f3, na, os, ag⟩
    exact q.by_ k hs hf hN ok tk w
  have run := (hb _ (X.pn ++ pins) _ caught PassesOwn.looking).run [] s σ H D (I.toTry _) h
  refine wpAny_mono run (fun f t e => ?_) fun _ _ e => e
  cases f with
  | ret u =>
    obtain ⟨v, σ', H', J, rv, e⟩ := e
    exact ⟨v, σ', H', J.ofTry ok, rv, e⟩
  | next =>
    obtain ⟨σ', H', J, e⟩ := e
    exact wpAny_execs_nil ⟨σ', H', J.ofTry ok, e⟩
  | brk =>
    obtain ⟨σ', H', J, e⟩ := e
    exact ⟨σ', H', J.ofTry ok, e⟩
  | cont =>
    obtain ⟨σ', H', J, e⟩ := e
    exact ⟨σ', H', J.ofTry ok, e⟩
end
end St
namespace St
open PySem PySem.Spec PyProof.Rows L2
/-! ### rows of words -/
def rowB (m : Nat) (ns : List Nat) : List Bool := (ns.map (wordB m)).flatten
theorem join_tx (ls : List (List Bool)) : Txt.join ("" : Str) (ls.map tx) = tx ls.flatten := by
  rw [TL.join_eq, tx_nil]
  apply str_ext
  show TL.tl (Str.join (tx []) (ls.map tx)) = _
  rw [TL.tl_join, tx_list]
  have e : ∀ ls : List (List Bool), TL.joinL (TL.tl (tx [])) ((ls.map tx).map TL.tl) = ls.flatten.map sg := by
    intro ls
    induction ls with
    | nil => rfl
    | cons a r ih =>
      cases r with
      | nil =>
        show TL.tl (tx a) = _
        rw [List.flatten_cons, List.flatten_nil, List.append_nil]
        exact tx_list a
      | cons b r =>
        show TL.tl (tx a) ++ (TL.tl (tx []) ++ TL.joinL (TL.tl (tx [])) (((b :: r).map tx).map TL.tl)) = _
        rw [ih, List.flatten_cons (l := a), List.map_append]
        show (tx a).cps.toList ++ ((tx []).cps.toList ++ _) = _
        rw [tx_list, tx_list]
        rfl
  exact e ls
theorem join_len (ls : List (List Bool)) : ((ls.map tx).map (·.length)).sum = ls.flatten.length := by
  induction ls with
  | nil => rfl
  | cons a r ih =>
    rw [List.map_cons, List.map_cons, List.sum_cons, ih, List.flatten_cons, List.length_append, tx_len]
theorem row_len (m : Nat) (ns : List Nat) : (rowB m ns).length = (ns.map fun n => (wordB m n).length).sum := by
  unfold rowB
  induction ns with
  | nil => rfl
  | cons a r ih =>
    rw [List.map_cons, List.flatten_cons, List.length_append, ih, List.map_cons, List.sum_cons]
theorem row_ge (m : Nat) (ns : List Nat) : (ns.map fun n => n / m + 1).sum ≤ (rowB m ns).length := by
  rw [row_len]
  induction ns with
  | nil => exact Nat.le_refl _
  | cons a r ih =>
    rw [List.map_cons, List.map_cons, List.sum_cons, List.sum_cons]
    have := word_len m a
    generalize a / m = k at *
    omega
theorem sum_int (ns : List Nat) : (ns.map fun (n : Nat) => (n : Int)).sum = ((ns.sum : Nat) : Int) := by
  induction ns with
  | nil => rfl
  | cons a r ih =>
    rw [List.map_cons, List.sum_cons, List.sum_cons, ih, Int.natCast_add]
theorem mem_le_sum {ns : List Nat} {f : Nat → Nat} {n : Nat} (h : n ∈ ns) : f n ≤ (ns.map f).sum := by
  induction ns with
  | nil => cases h
  | cons a r ih =>
    rw [List.map_cons, List.sum_cons]
    rcases List.mem_cons.mp h with rfl | h
    · omega
    · have := ih h
      omega
theorem row_le {m c : Nat} (h64 : m ≤ 64) : ∀ {ns : List Nat}, (∀ n ∈ ns, n / m ≤ c) → (rowB m ns).length ≤ ns.length * (c + 7)
  | [], _ => Nat.zero_le _
  | a :: r, h => by
    have ih := row_le h64 (ns := r) fun n hn => h n (List.mem_cons_of_mem _ hn)
    have h1 := h a List.mem_cons_self
    have h2 := rest_len_le m (a % m)
    have h3 := wide_64 h64
    have h4 := word_len m a
    have e : (rowB m (a :: r)).length = (wordB m a).length + (rowB m r).length := by
      unfold rowB
      rw [List.map_cons, List.flatten_cons, List.length_append]
    rw [e, List.length_cons, Nat.succ_mul]
    generalize a / m = k at *
    omega
/-- all steps by which the words of numbers are a text -/
def stepsN (ns : List Nat) (l : List Bool) (k : Nat) : List Nat := ((List.range k).map (· + 1)).filter fun m => decide (rowB m ns = l)
theorem stepsN_succ (ns : List Nat) (l : List Bool) (k : Nat) : stepsN ns l (k + 1) = stepsN ns l k ++ (if rowB (k + 1) ns = l then [k + 1] else []) := by
  unfold stepsN
  rw [List.range_succ, List.map_append, List.filter_append]
  congr 1
  by_cases c : rowB (k + 1) ns = l
  · simp [c]
  · simp [c]
theorem stepsN_len (ns : List Nat) (l : List Bool) (k : Nat) : (stepsN ns l k).length ≤ k := by
  unfold stepsN
  refine Nat.le_trans (List.length_filter_le _ _) ?_
  simp
end St
namespace St
open PySem PySem.Spec PyProof.Rows L2
/-! ### readers as the law of readers keeps them -/
/-- the texts behind each telling, the first one ahead of all -/
inductive Told : List (List Bool) → Prop
  | nil : Told [[]]
  | more {q : List (List Bool)} {l s : List Bool} : Told (q ++ [l]) → Told (q ++ [l] ++ [l ++ s])
theorem Told.ne {q : List (List Bool)} (h : Told q) : q ≠ [] := by
  cases h <;> simp
theorem snoc_inj {α : Type} {q r : List α} {a b : α} (h : q ++ [a] = r ++ [b]) : q = r ∧ a = b := by
  have := List.append_inj' h rfl
  exact ⟨this.1, List.singleton_inj.mp this.2⟩
/-- one telling back -/
theorem Told.back {q : List (List Bool)} {k l : List Bool} (h : Told (q ++ [k] ++ [l])) : Told (q ++ [k]) ∧ l.take k.length = k := by
  generalize e : q ++ [k] ++ [l] = z at h
  cases h with
  | nil =>
    have := congrArg List.length e
    simp at this
  | @more q' l' s h =>
    obtain ⟨e1, e2⟩ := snoc_inj e
    obtain ⟨e3, e4⟩ := snoc_inj e1
    subst e3 e4 e2
    exact ⟨h, by rw [List.take_left']; rfl⟩
theorem pairedS {α β : Type} {R : α → β → Prop} {as : List α} {bs : List β} {a : α} {b : β} (h : Paired R as bs) (z : R a b) : Paired R (as ++ [a]) (bs ++ [b]) := by
  induction h with
  | nil => exact .cons z .nil
  | cons x t ih => exact .cons x ih
structure Rdr where
  r : Addr
  p : Addr
  pa : Addr
  ts : List (List Bool)
  l : List Bool
/-- all but S stands as it was -/
def KS (S : List Addr) (H H' : Hp) : Prop := ∀ b o, b ∉ S → H b = some o → H' b = some o
theorem KS.of {S : List Addr} {H H' : Hp} (s : Same H H') : KS S H H' := fun b o _ e => s b o e
theorem KS.sm {h q : Addr} {H H' : Hp} (s : Sm h q H H') : KS [h, q] H H' := fun b o n e => s b o e (fun z => n (z ▸ .head _)) (fun z => n (z ▸ .tail _ (.head _)))
theorem KS.kr {r p : Addr} {H H' : Hp} (s : KeepR r p H H') : KS [r, p] H H' := fun b o n e => s b o (fun z => n (z ▸ .head _)) (fun z => n (z ▸ .tail _ (.head _))) e
theorem KS.up {a : Addr} {o : HO} {H : Hp} : KS [a] H (upd H a o) := fun b u n e => (upd_ne (fun z => n (by rw [z]; exact .head _))).trans e
structure RdrOk (C : Addr) (H : Hp) (m n : Nat) (x : Rdr) : Prop where
  at_ : RdAt C H x.r x.p m x.l (x.ts.map List.length)
  told : Told (x.ts ++ [x.l])
  past : H x.pa = some (.lst ((x.ts ++ [x.l]).map fun l => V.str (tx l)))
  few : x.ts.length ≤ n
theorem RdrOk.keep {C : Addr} {H H' : Hp} {m n : Nat} {x : Rdr} {S : List Addr} (h : RdrOk C H m n x) (k : KS S H H') (n1 : x.r ∉ S) (n2 : x.p ∉ S) (n3 : x.pa ∉ S) : RdrOk C H' m n x := by
  obtain ⟨⟨⟨dx, o⟩, hp, a, b, c, d⟩, t, pa, f⟩ := h
  exact ⟨⟨⟨dx, k _ _ n1 o⟩, k _ _ n2 hp, a, b, c, d⟩, t, k _ _ n3 pa, f⟩
theorem RdrOk.more {C : Addr} {H : Hp} {m n n' : Nat} {x : Rdr} (h : RdrOk C H m n x) (hn : n ≤ n') : RdrOk C H m n' x := ⟨h.at_, h.told, h.past, Nat.le_trans h.few hn⟩
/-- what a place holds: an instance, a list, a tuple -/
theorem ins_ne {H : Hp} {a b C dx : Addr} {fs : List (Str × V)} {xs : List V} (h : H a = some (.ins C dx fs)) (h' : H b = some (.lst xs)) : a ≠ b := fun z => by
  rw [z, h'] at h
  cases h
theorem ins_nt {H : Hp} {a b C dx : Addr} {fs : List (Str × V)} {xs : List V} (h : H a = some (.ins C dx fs)) (h' : H b = some (.tup xs)) : a ≠ b := fun z => by
  rw [z, h'] at h
  cases h
theorem tup_nl {H : Hp} {a b : Addr} {xs ys : List V} (h : H a = some (.tup ys)) (h' : H b = some (.lst xs)) : a ≠ b := fun z => by
  rw [z, h'] at h
  cases h
/-- all that the law holds: the reader, the one beside it, the copies with their texts -/
structure KI (C : Addr) (H : Hp) (m n : Nat) (h q ka : Addr) (ks : List Addr) (all : List Rdr) (kept : List Rdr) : Prop where
  L : LawH H h q
  ok : ∀ x ∈ all, RdrOk C H m n x
  sub : ∀ x ∈ kept, x ∈ all
  nr : all.Pairwise fun x y => x.r ≠ y.r ∧ x.p ≠ y.p
  pp : ∀ x ∈ all, ∀ y ∈ all, x.p ≠ y.pa
  ph : ∀ x ∈ all, x.p ≠ h ∧ x.p ≠ q ∧ x.p ≠ ka ∧ x.pa ≠ h ∧ x.pa ≠ q ∧ x.pa ≠ ka
  ek : H ka = some (.lst (ks.map V.ref))
  et : Paired (fun t y => H t = some (.tup [.ref (Rdr.r y), .ref y.pa])) ks kept
  kh : ka ≠ h ∧ ka ≠ q
section
variable {C : Addr} {H H' : Hp} {m n : Nat} {h q ka : Addr} {ks : List Addr} {all kept : List Rdr}
theorem LawH.srcs (L : LawH H h q) : ∃ xs ys, H h = some (.lst xs) ∧ H q = some (.lst ys) := by
  obtain ⟨_, st, ix, cells, e1, e2, _⟩ := L
  exact ⟨_, _, e1, e2⟩
theorem KI.keep (K1 : KI C H m n h q ka ks all kept) {S : List Addr} (k : KS S H H') (hS : ∀ a ∈ S, ∃ xs, H a = some (.lst xs)) (hno : ∀ a ∈ S, a ≠ ka ∧ ∀ x ∈ all, a ≠ x.p ∧ a ≠ x.pa) (L' : LawH H' h q) : KI C H' m n h q ka ks all kept := by
  refine ⟨L', fun x hx => ?_, K1.sub, K1.nr, K1.pp, K1.ph, k _ _ (fun z => (hno _ z).1 rfl) K1.ek, ?_, K1.kh⟩
  · obtain ⟨dx, o⟩ := (K1.ok x hx).at_.o
    refine (K1.ok x hx).keep k (fun z => ?_) (fun z => ((hno _ z).2 x hx).1 rfl) (fun z => ((hno _ z).2 x hx).2 rfl)
    obtain ⟨xs, e⟩ := hS _ z
    exact ins_ne o e rfl
  · refine Paired.mapP K1.et fun t y e => k _ _ (fun z => ?_) e
    obtain ⟨xs, e'⟩ := hS _ z
    exact tup_nl e e' rfl
theorem KI.same (K1 : KI C H m n h q ka ks all kept) (s : Same H H') : KI C H' m n h q ka ks all kept :=
  K1.keep (S := []) (KS.of s) (fun a h => nomatch h) (fun a h => nomatch h) (K1.L.same s)
theorem KI.draw (K1 : KI C H m n h q ka ks all kept) (L' : LawH H' h q) (s : Sm h q H H') : KI C H' m n h q ka ks all kept := by
  obtain ⟨xs, ys, e1, e2⟩ := K1.L.srcs
  refine K1.keep (S := [h, q]) (KS.sm s) (fun a ha => ?_) (fun a ha => ?_) L'
  · rcases List.mem_cons.mp ha with rfl | ha
    · exact ⟨_, e1⟩
    · cases List.mem_singleton.mp ha
      exact ⟨_, e2⟩
  · rcases List.mem_cons.mp ha with rfl | ha
    · exact ⟨fun z => K1.kh.1 z.symm, fun x hx => ⟨fun z => (K1.ph x hx).1 z.symm, fun z => (K1.ph x hx).2.2.2.1 z.symm⟩⟩
    · cases List.mem_singleton.mp ha
      exact ⟨fun z => K1.kh.2 z.symm, fun x hx => ⟨fun z => (K1.ph x hx).2.1 z.symm, fun z => (K1.ph x hx).2.2.2.2.1 z.symm⟩⟩
/-- the first reader goes on -/
theorem KI.chg {x x' : Rdr} {n' : Nat} (K1 : KI C H m n h q ka ks (x :: all) kept) (hk : ∀ y ∈ kept, y ∈ all) (k : KeepR x.r x.p H H') (ok' : RdrOk C H' m n' x') (er : x'.r = x.r) (ep : x'.p = x.p) (hn : n ≤ n')
    (pa : ∀ y ∈ x :: all, y.p ≠ x'.pa) (ph : x'.pa ≠ h ∧ x'.pa ≠ q ∧ x'.pa ≠ ka) : KI C H' m n' h q ka ks (x' :: all) kept := by
  obtain ⟨xs, ys, e1, e2⟩ := K1.L.srcs
  have okx := K1.ok x (.head _)
  obtain ⟨dx, o⟩ := okx.at_.o
  have hpx := okx.at_.p
  have phx := K1.ph x (.head _)
  have nr := List.pairwise_cons.mp K1.nr
  have out : ∀ {b : Addr} {zs : List V}, H b = some (.lst zs) → b ≠ x.p → b ∉ [x.r, x.p] := fun {b zs} e hne hm => by
    rcases List.mem_cons.mp hm with rfl | hm
    · exact ins_ne o e rfl
    · exact hne (List.mem_singleton.mp hm)
  have ks' := KS.kr k
  refine ⟨?_, fun y hy => ?_, fun y hy => .tail _ (hk y hy), List.pairwise_cons.mpr ⟨fun y hy => ?_, nr.2⟩, ?_, ?_, ks' _ _ (out K1.ek fun z => phx.2.2.1 z.symm) K1.ek, ?_, K1.kh⟩
  · obtain ⟨ne, st, ix, cells, f1, f2, f3⟩ := K1.L
    exact ⟨ne, st, ix, cells, ks' _ _ (out f1 fun z => phx.1 z.symm) f1, ks' _ _ (out f2 fun z => phx.2.1 z.symm) f2, f3⟩
  · rcases List.mem_cons.mp hy with rfl | hy
    · exact ok'
    · have oky := K1.ok y (.tail _ hy)
      obtain ⟨dy, oy⟩ := oky.at_.o
      have nxy := nr.1 y hy
      refine (oky.keep ks' (fun hm => ?_) (out oky.at_.p fun z => nxy.2 z.symm) (out oky.past fun z => K1.pp x (.head _) y (.tail _ hy) z.symm)).more hn
      rcases List.mem_cons.mp hm with z | hm
      · exact nxy.1 z.symm
      · exact ins_ne oy hpx (List.mem_singleton.mp hm)
  · rw [er, ep]
    exact nr.1 y hy
  · intro y hy0 z hz0
    rcases List.mem_cons.mp hy0 with rfl | hy <;> rcases List.mem_cons.mp hz0 with rfl | hz
    · rw [ep]
      exact pa x (.head _)
    · rw [ep]
      exact K1.pp x (.head _) z (.tail _ hz)
    · exact pa y (.tail _ hy)
    · exact K1.pp y (.tail _ hy) z (.tail _ hz)
  · intro y hy
    rcases List.mem_cons.mp hy with rfl | hy
    · rw [ep]
      exact ⟨phx.1, phx.2.1, phx.2.2.1, ph⟩
    · exact K1.ph y (.tail _ hy)
  · refine Paired.mapP K1.et fun t y e => ks' _ _ (fun hm => ?_) e
    rcases List.mem_cons.mp hm with rfl | hm
    · exact ins_nt o e rfl
    · cases List.mem_singleton.mp hm
      exact tup_nl e hpx rfl
/-- the readers in another order -/
theorem KI.perm {all' : List Rdr} (K1 : KI C H m n h q ka ks all kept) (p : List.Perm all all') : KI C H m n h q ka ks all' kept :=
  ⟨K1.L, fun x hx => K1.ok x (p.mem_iff.mpr hx), fun x hx => p.mem_iff.mp (K1.sub x hx), (p.pairwise_iff (fun h => ⟨fun z => h.1 z.symm, fun z => h.2 z.symm⟩)).mp K1.nr, fun x hx y hy => K1.pp x (p.mem_iff.mpr hx) y (p.mem_iff.mpr hy), fun x hx => K1.ph x (p.mem_iff.mpr hx), K1.ek, K1.et, K1.kh⟩
/-- one more reader -/
theorem KI.new {x : Rdr} (K1 : KI C H m n h q ka ks all kept) (s : Same H H') (ok : RdrOk C H' m n x) (n1 : H x.r = none) (n2 : H x.p = none) (pa : ∃ y ∈ all, y.pa = x.pa) (hne : all ≠ []) : KI C H' m n h q ka ks (x :: all) kept := by
  obtain ⟨y0, hy0, epa⟩ := pa
  have K2 := K1.same s
  obtain ⟨xs, ys, e1, e2⟩ := K1.L.srcs
  have np : ∀ {b : Addr} {o : HO}, H b = some o → x.p ≠ b := fun {b o} e z => by
    rw [← z, n2] at e
    cases e
  refine ⟨K2.L, fun y hy => ?_, fun y hy => .tail _ (K1.sub y hy), List.pairwise_cons.mpr ⟨fun y hy => ⟨fun z => ?_, np (K1.ok y hy).at_.p⟩, K1.nr⟩, ?_, ?_, K2.ek, K2.et, K2.kh⟩
  · rcases List.mem_cons.mp hy with rfl | hy
    · exact ok
    · exact K2.ok y hy
  · obtain ⟨dy, oy⟩ := (K1.ok y hy).at_.o
    rw [← z, n1] at oy
    cases oy
  · intro y hy z hz
    have pz : ∃ z' ∈ all, z'.pa = z.pa := by
      rcases List.mem_cons.mp hz with rfl | hz
      · exact ⟨y0, hy0, epa⟩
      · exact ⟨z, hz, rfl⟩
    obtain ⟨z', hz', ez⟩ := pz
    rw [← ez]
    rcases List.mem_cons.mp hy with rfl | hy
    · exact np (K1.ok z' hz').past
    · exact K1.pp y hy z' hz'
  · intro y hy
    rcases List.mem_cons.mp hy with rfl | hy
    · rw [← epa]
      exact ⟨np e1, np e2, np K1.ek, (K1.ph y0 hy0).2.2.2⟩
    · exact K1.ph y hy
/-- a reader is kept -/
theorem KI.push {x : Rdr} {t : Addr} (K1 : KI C H m n h q ka ks all kept) (hx : x ∈ all) (et : H t = some (.tup [.ref x.r, .ref x.pa])) : KI C (upd H ka (.lst (ks.map V.ref ++ [.ref t]))) m n h q ka (ks ++ [t]) all (kept ++ [x]) := by
  obtain ⟨xs, ys, e1, e2⟩ := K1.L.srcs
  have u := KS.up (a := ka) (o := .lst (ks.map V.ref ++ [.ref t])) (H := H)
  refine ⟨K1.L.updL K1.kh.1 K1.kh.2, fun y hy => (K1.ok y hy).keep u ?_ ?_ ?_, fun y hy => ?_, K1.nr, K1.pp, K1.ph, by rw [upd_same, List.map_append]; rfl, ?_, K1.kh⟩
  · intro z
    obtain ⟨dy, oy⟩ := (K1.ok y hy).at_.o
    exact ins_ne oy K1.ek (List.mem_singleton.mp z)
  · exact fun z => (K1.ph y hy).2.2.1 (List.mem_singleton.mp z)
  · exact fun z => (K1.ph y hy).2.2.2.2.2 (List.mem_singleton.mp z)
  · rcases List.mem_append.mp hy with hy | hy
    · exact K1.sub y hy
    · cases List.mem_singleton.mp hy
      exact hx
  · refine pairedS (Paired.mapP K1.et fun t y e => u _ _ (fun z => ?_) e) (u _ _ (fun z => ?_) et)
    · exact tup_nl e K1.ek (List.mem_singleton.mp z)
    · exact tup_nl et K1.ek (List.mem_singleton.mp z)
end
end St
namespace St
open PySem PySem.Spec PyProof.Rows L2
def topS (i : Nat) : Stmt := PySem.Challenge.pw_stepruns_k13_whole_readers.main.body.getD i (.Pass ⟨0, 0, 0, 0⟩)

abbrev s__law_mix : Stmt := topS 19
theorem sc__law_mix : FnScope ["_law_script", "_law_seed", "_law_state", "_law_cell"] ["_law_script", "_law_seed"] (defScope s__law_mix) := ⟨rfl, rfl, rfl, by decide +kernel, rfl, by decide +kernel, by decide +kernel⟩
def sp__law_mix (K : PySem.W.Frag) : Sp := fun vs H Q _ => ∃ (a : Addr) (ns : List Int) (sd : Int), vs = [.ref a, .int sd] ∧ SqL K H a (ns.map V.int) ∧ ns.length ≤ 63 ∧
  ∀ (h q : Addr) (H' : Hp), Same H H' → H h = none → H q = none → LawH H' h q → Q (.ref h) H'
section
variable {P : Program} {w : World} {K : PySem.W.Frag} {mg : Str → Option Value} {base : Heap}
theorem ok__law_mix (A : At K mg "_law_mix" s__law_mix ["_law_script", "_law_seed"]) (B : Bn mg) : CalE P w K mg base "_law_mix" ["_law_script", "_law_seed"] 1 (sp__law_mix K) := by
  obtain ⟨f, fd, F, gF, bF⟩ := A
  refine ⟨f, fd, F.ok sc__law_mix (fun vs H Q E h => ?_) (fun cdv A outer s H vs Q E hr h => ?_), gF, F.kp, bF⟩
  · repeat (first | (obtain ⟨rfl, _⟩ := h; rfl) | (obtain ⟨_, h⟩ := h))
  · obtain ⟨a, ns, sd, rfl, hS, hl, q⟩ := h
    refine ⟨_, (pss_cons (ps_set (i := 2) sc__law_mix.nd rfl (.inl rfl) (pv 1))
      (pss_cons (ps_for PassesOwn.never rfl (pi_list (pv 0)) (pg_name (i := 3) sc__law_mix.nd rfl (.inl rfl))
      (pss_one (ps_set (i := 2) sc__law_mix.nd rfl (.inl rfl) (pe_op op_mod (pe_callTy call_int1 (by rfl) B.int_ (by decide +kernel) (pa_cons (pe_op op_add (pe_op op_add (pe_op op_mul (pv 2) pe_int) (pe_op op_mod (pe_callTy call_int1 (by rfl) B.int_ (by decide +kernel) (pa_cons (pv 3) pa_nil)) pe_int)) pe_int) pa_nil)) pe_int))))
      (pss_one (ps_ret (pe_lst (pa_cons (pv 2) (pa_cons (pe_callTy (call_list_of_ K) (by rfl) B.list_ (by decide +kernel) (pa_cons (pv 0) pa_nil)) (pa_cons pe_int pa_nil)))))))), ?_⟩
    -- _law_state = _law_seed
    refine ⟨_, rfl, ?_⟩
    refine ⟨_, rfl, a, rfl, ⟨_, hS⟩, for_list (K := K) (a := a) (xs := ns.map V.int) (fun i σ H2 => ∃ (st : Int) (v : Option V), σ = [some (.ref a), some (.int sd), some (.int st), v] ∧ H2 = H)
      ⟨_, _, rfl, rfl⟩ (fun i σ H2 _ ⟨_, _, _, e⟩ => e ▸ hS) ?_ ?_⟩
    · rintro i y σ H2 hi ⟨st, v, rfl, rfl⟩
      obtain ⟨z, rfl⟩ : ∃ z, y = V.int z := by
        rw [List.getElem?_map] at hi
        cases e : ns[i]? with
        | none => rw [e] at hi; cases hi
        | some z => rw [e] at hi; exact ⟨z, (Option.some.inj hi).symm⟩
      refine ⟨_, rfl, _, _, rfl, rfl, .inr (by omega), _, rfl, .inl ⟨_, rfl, _, _, rfl, rfl, (by decide : (0 : Int) < 2147483629), _, _, rfl, rfl, _, _, rfl, rfl, .inl ⟨_, rfl, _, _, rfl, rfl, (by decide : (0 : Int) < 2147483647), ?_⟩⟩⟩
      exact ⟨_, _, rfl, rfl⟩
    · rintro σ H2 ⟨st, v, rfl, rfl⟩
      -- return [state, list(script), 0]
      refine ⟨_, rfl, _, rfl, a, _, rfl, .inl hS, fun c nc => ⟨(by show 3 ≤ sizeLine; decide), fun p np => ?_⟩⟩
      have npc : p ≠ c := fun e => by rw [e, upd_same] at np; cases np
      refine q p c _ ((same_new nc _).trans (same_new np _)) ((same_new nc _).free np) nc ⟨npc, st, 0, ns, upd_same, ?_, by omega⟩
      rw [upd_ne npc.symm, upd_same]
end

abbrev s__law_next : Stmt := topS 20
theorem sc__law_next : FnScope ["_law_h", "_law_cap", "_law_cell"] ["_law_h", "_law_cap"] (defScope s__law_next) := ⟨rfl, rfl, rfl, by decide +kernel, rfl, by decide +kernel, by decide +kernel⟩
def sp__law_next (K : PySem.W.Frag) : Sp := fun vs H Q _ => ∃ (h q : Addr) (cap : Int), vs = [.ref h, .int cap] ∧ LawH H h q ∧ 0 < cap ∧ cap < 2 ^ 300 ∧
  ∀ (k : Int) (H' : Hp), 0 ≤ k → k < cap → LawH H' h q → Sm h q H H' → Q (.int k) H'
theorem cap_wide {cap : Int} (h : 0 < cap) (h' : cap < 2 ^ 300) : CDivW z cap := wide_div (b := 300) h (by omega) (by decide) (by decide)
section
variable {P : Program} {w : World} {K : PySem.W.Frag} {mg : Str → Option Value} {base : Heap}
theorem ok__law_next (A : At K mg "_law_next" s__law_next ["_law_h", "_law_cap"]) (B : Bn mg) : CalE P w K mg base "_law_next" ["_law_h", "_law_cap"] 1 (sp__law_next K) := by
  obtain ⟨f, fd, F, gF, bF⟩ := A
  refine ⟨f, fd, F.ok sc__law_next (fun vs H Q E h => ?_) (fun cdv A outer s H vs Q E hr h => ?_), gF, F.kp, bF⟩
  · repeat (first | (obtain ⟨rfl, _⟩ := h; rfl) | (obtain ⟨_, h⟩ := h))
  · obtain ⟨h, q, cap, rfl, L, c0, c1, k⟩ := h
    refine ⟨_, (pss_cons (ps_set (i := 2) sc__law_next.nd rfl (.inl rfl) (pe_ix (ix_list_ K) (pe_op op_cat (pe_ix (ix_list_ K) (pv 0) pe_int (fun _ _ => rfl)) (pe_lst (pa_cons pe_int pa_nil))) (pe_op op_mod (pe_callTy call_int1 (by rfl) B.int_ (by decide +kernel) (pa_cons (pe_ix (ix_list_ K) (pv 0) pe_int (fun _ _ => rfl)) pa_nil)) (pe_callB (call_max2 rfl) (by rfl) B.max_ (by decide +kernel) (pa_cons pe_int (pa_cons (pe_callB (call_len_seq_ K) (by rfl) B.len_ (by decide +kernel) (pa_cons (pe_ix (ix_list_ K) (pv 0) pe_int (fun _ _ => rfl)) pa_nil)) pa_nil)))) (fun _ _ => rfl)))
      (pss_cons (ps_if (pt_cmpR op_ge (pv 2) (pe_op op_pow pe_int pe_int) (nomark _))
      (pss_cons (ps_asg (pe_op op_fdivW (pv 2) (pv 1)) (pg_sub (pe_ix (ix_list_ K) (pv 0) pe_int (fun _ _ => rfl)) (pe_op op_mod (pe_callTy call_int1 (by rfl) B.int_ (by decide +kernel) (pa_cons (pe_ix (ix_list_ K) (pv 0) pe_int (fun _ _ => rfl)) pa_nil)) (pe_callB (call_len_seq_ K) (by rfl) B.len_ (by decide +kernel) (pa_cons (pe_ix (ix_list_ K) (pv 0) pe_int (fun _ _ => rfl)) pa_nil))) set_list))
      (pss_one (ps_ret (pe_op op_mod (pe_callTy call_int1 (by rfl) B.int_ (by decide +kernel) (pa_cons (pv 2) pa_nil)) (pv 1)))))
      pss_nil)
      (pss_cons (ps_asg (pe_op op_mod (pe_callTy call_int1 (by rfl) B.int_ (by decide +kernel) (pa_cons (pe_op op_add (pe_op op_add (pe_op op_mul (pe_ix (ix_list_ K) (pv 0) pe_int (fun _ _ => rfl)) pe_int) (pe_op op_mul (pv 2) pe_int)) pe_int) pa_nil)) pe_int) (pg_sub (pv 0) pe_int set_list))
      (pss_cons (ps_asg (pe_op op_add (pe_ix (ix_list_ K) (pv 0) pe_int (fun _ _ => rfl)) pe_int) (pg_sub (pv 0) pe_int set_list))
      (pss_one (ps_ret (pe_op op_mod (pe_callTy call_int1 (by rfl) B.int_ (by decide +kernel) (pa_cons (pe_op op_fdiv (pe_ix (ix_list_ K) (pv 0) pe_int (fun _ _ => rfl)) pe_int) pa_nil)) (pv 1)))))))), ?_⟩
    obtain ⟨hne, st, ix, cells, eh, eq, hl⟩ := id L
    have sL : SqL K H h [.int st, .ref q, .int ix] := .inl (.inl eh)
    have sQ : SqL K H q (cells.map V.int) := .inl (.inl eq)
    have l3 : ([V.int 0] : List V).length ≤ sizeLine := by show 1 ≤ sizeLine; decide
    have lm : (cells.map V.int).length = cells.length := List.length_map _
    -- (h[1] + [0])[h[2] % max(1, len(h[1]))]
    refine ⟨_, rfl, h, _, 1, _, rfl, rfl, sL, rfl, l3, fun z nz => ?_⟩
    have s1 : Same H (upd H z (.lst [.int 0])) := same_new nz _
    have lq : (cells.map V.int).length + ([V.int 0] : List V).length ≤ sizeLine := by
      rw [lm]
      show cells.length + 1 ≤ sizeLine
      have := sizeLine_eq
      omega
    refine ⟨q, z, _, _, rfl, rfl, s1 _ _ eq, upd_same, lq, fun z2 nz2 => ?_⟩
    have s2 := s1.trans (same_new nz2 (.lst (cells.map V.int ++ [.int 0])))
    have e2 : (upd (upd H z (.lst [.int 0])) z2 (.lst (cells.map V.int ++ [.int 0]))) z2 = some (.lst (cells.map V.int ++ [.int 0])) := upd_same
    generalize upd (upd H z (.lst [.int 0])) z2 (.lst (cells.map V.int ++ [.int 0])) = H2 at *
    obtain ⟨m, em, hm⟩ : ∃ m : Int, (if ((cells.map V.int).length : Int) > 1 then ((cells.map V.int).length : Int) else 1) = m ∧ (0 < m ∧ m ≤ cells.length + 1 ∧ (cells = [] → m = 1) ∧ (cells ≠ [] → m = cells.length)) := by
      refine ⟨_, rfl, ?_⟩
      rw [lm]
      cases cells with
      | nil => simp
      | cons c r =>
        simp only [List.length_cons]
        split
        · exact ⟨by omega, by omega, (fun z => by cases z), fun _ => rfl⟩
        · exact ⟨by omega, by omega, (fun z => by cases z), fun _ => by omega⟩
    obtain ⟨m0, m1, m2, m3⟩ := hm
    have j0 : 0 ≤ ix % m := Int.emod_nonneg _ (by omega)
    have j1 : ix % m < m := Int.emod_lt_of_pos _ m0
    obtain ⟨j, ej⟩ : ∃ j : Nat, ix % m = (j : Int) := ⟨(ix % m).toNat, by omega⟩
    obtain ⟨c, ec, hc⟩ : ∃ c : Int, (cells.map V.int ++ [V.int 0])[j]? = some (.int c) ∧ (10 ^ 18 ≤ c → j < cells.length ∧ cells ≠ []) := by
      by_cases hj : j < cells.length
      · refine ⟨cells[j], ?_, fun _ => ⟨hj, fun z => by rw [z] at hj; cases hj⟩⟩
        rw [List.getElem?_append_left (by rw [lm]; exact hj), List.getElem?_map, List.getElem?_eq_getElem hj]
        rfl
      · have hn : j = cells.length := by
          by_cases hc : cells = []
          · have := m2 hc
            subst hc
            simp
            omega
          · have := m3 hc
            omega
        subst hn
        refine ⟨0, ?_, fun z => by omega⟩
        rw [List.getElem?_append_right (by rw [lm]; exact Nat.le_refl _), lm, Nat.sub_self]
        rfl
    refine ⟨_, rfl, h, _, 2, _, rfl, rfl, s2.seq sL, rfl, .inl ⟨ix, rfl, _, rfl, h, _, 1, _, rfl, rfl, s2.seq sL, rfl, q, _, rfl, .inl (s2.seq sQ), 1, _, rfl, ?_⟩⟩
    show rI (fun _ j => 0 < j) (fun i j => V.int (i % j)) (V.int ix) (.int (if ((cells.map V.int).length : Int) > 1 then ((cells.map V.int).length : Int) else 1)) H2 _
    rw [em]
    refine ⟨_, _, rfl, rfl, m0, z2, _, _, _, rfl, rfl, .inl (.inl e2), by rw [ej]; exact atI_nat ec, ?_⟩
    -- if _law_cell >= 10 ** 18
    refine ⟨_, rfl, _, _, rfl, rfl, ⟨by decide, by decide, by decide⟩, _, _, rfl, rfl, _, rfl, ?_⟩
    have h2 := s2.seq sL
    have q2 := s2.seq sQ
    have eh2 := s2 _ _ eh
    have eq2 := s2 _ _ eq
    refine ite2 (fun b => ?_) (fun b => ?_)
    · have b' : 10 ^ 18 ≤ c := of_decide_eq_true b
      obtain ⟨hj, hne0⟩ := hc b'
      have m4 := m3 hne0
      refine ⟨_, rfl, _, rfl, _, _, rfl, rfl, cap_wide c0 c1, ?_⟩
      refine ⟨_, rfl, h, _, 1, _, rfl, rfl, h2, rfl, _, rfl, h, _, 2, _, rfl, rfl, h2, rfl, .inl ⟨ix, rfl, _, rfl, h, _, 1, _, rfl, rfl, h2, rfl, q, _, rfl, .inl q2, _, _, rfl, rfl, ?_, ?_⟩⟩
      · show (0 : Int) < ((cells.map V.int).length : Int)
        rw [lm]
        omega
      refine ⟨q, _, _, j, rfl, rfl, eq2, ?_, ?_⟩
      · rw [lm, ← m4, ej]
        unfold ixN
        rw [if_pos (by omega), if_pos (by omega), Int.toNat_natCast]
      refine ⟨_, rfl, .inl ⟨_, rfl, _, rfl, _, _, rfl, rfl, c0, ?_⟩⟩
      refine k _ _ (Int.emod_nonneg _ (by omega)) (Int.emod_lt_of_pos _ c0) ⟨hne, st, ix, cells.set j (c / cap), by rw [upd_ne hne]; exact eh2, by rw [upd_same, List.map_set], by rw [List.length_set]; exact hl⟩ (fun b o e n1 n2 => ?_)
      rw [upd_ne n2]
      exact s2 _ _ e
    · refine ⟨_, rfl, h, _, 0, _, rfl, rfl, h2, rfl, _, _, rfl, rfl, .inr (by omega), _, rfl, _, _, rfl, rfl, .inr (by omega), _, _, rfl, rfl, _, _, rfl, rfl, .inl ⟨_, rfl, _, _, rfl, rfl, (by decide : (0 : Int) < 2147483647), ?_⟩⟩
      refine ⟨_, rfl, h, _, 0, 0, rfl, rfl, eh2, rfl, ?_⟩
      have e3 := @upd_same H2 h (.lst [.int ((st * 48271 + c * 69621 + 11) % 2147483647), .ref q, .int ix])
      refine ⟨_, rfl, h, _, 2, _, rfl, rfl, .inl (.inl e3), rfl, _, _, rfl, rfl, _, rfl, h, _, 2, 2, rfl, rfl, e3, rfl, ?_⟩
      refine ⟨_, rfl, h, _, 0, _, rfl, rfl, .inl (.inl upd_same), rfl, _, _, rfl, rfl, ⟨by decide, by decide⟩, .inl ⟨_, rfl, _, rfl, _, _, rfl, rfl, c0, ?_⟩⟩
      refine k _ _ (Int.emod_nonneg _ (by omega)) (Int.emod_lt_of_pos _ c0) ⟨hne, _, _, cells, upd_same, by rw [upd_ne hne.symm, upd_ne hne.symm]; exact eq2, hl⟩ (fun b o e n1 n2 => ?_)
      rw [upd_ne n1, upd_ne n1]
      exact s2 _ _ e
end

abbrev s__law_pick : Stmt := topS 22
theorem sc__law_pick : FnScope ["_law_h", "_law_things"] ["_law_h", "_law_things"] (defScope s__law_pick) := ⟨rfl, rfl, rfl, by decide +kernel, rfl, by decide +kernel, by decide +kernel⟩
def sp__law_pick (K : PySem.W.Frag) : Sp := fun vs H Q _ => ∃ (h q t : Addr) (xs : List V), vs = [.ref h, .ref t] ∧ LawH H h q ∧ SqL K H t xs ∧ t ≠ h ∧ t ≠ q ∧ xs ≠ [] ∧ xs.length ≤ 1000 ∧
  ∀ (k : Nat) (x : V) (H' : Hp), xs[k]? = some x → LawH H' h q → Sm h q H H' → Q x H'
theorem pickI {K : PySem.W.Frag} {H0 : Hp} {h q t : Addr} {xs : List V} {Q : VK} (L : LawH H0 h q) (nt : H0 t = none) (hx : xs ≠ []) (hl : xs.length ≤ 1000) (k : ∀ x ∈ xs, ∀ H', LawH H' h q → Sm h q H0 H' → Q x H') : sp__law_pick K [.ref h, .ref t] (upd H0 t (.lst xs)) Q E0 := by
  have s3 := same_new nt (.lst xs)
  obtain ⟨hne, st, ix, cells, eh, eq, _⟩ := id L
  exact ⟨h, q, t, _, rfl, L.same s3, .inl (.inl upd_same), ne_new eh nt, ne_new eq nt, hx, hl, fun j x H3 ex L3 S3 => k x (List.mem_of_getElem? ex) H3 L3 (Sm.trans (Sm.of s3) S3)⟩
section
variable {P : Program} {w : World} {K : PySem.W.Frag} {mg : Str → Option Value} {base : Heap}
theorem ok__law_pick (A : At K mg "_law_pick" s__law_pick ["_law_h", "_law_things"]) (B : Bn mg) (H__law_next : CalE P w K mg base "_law_next" ["_law_h", "_law_cap"] 1 (sp__law_next K)) : CalE P w K mg base "_law_pick" ["_law_h", "_law_things"] 2 (sp__law_pick K) := by
  obtain ⟨f, fd, F, gF, bF⟩ := A
  obtain ⟨f__law_next, fd__law_next, G__law_next⟩ := H__law_next
  refine ⟨f, fd, F.ok sc__law_pick (fun vs H Q E h => ?_) (fun cdv A outer s H vs Q E hr h => ?_), gF, F.kp, bF⟩
  · repeat (first | (obtain ⟨rfl, _⟩ := h; rfl) | (obtain ⟨_, h⟩ := h))
  · obtain ⟨h, q, t, xs, rfl, L, hS, n1, n2, hx, hl, k⟩ := h
    have hp : 0 < xs.length := List.length_pos_iff.mpr hx
    refine ⟨_, (pss_one (ps_ret (pe_ix (ix_list_ K) (pv 1) (pe_call G__law_next.ok (hr.mono (by first | decide | exact Nat.le_refl _)) (by rfl) G__law_next.g G__law_next.kp G__law_next.b .nil pass0 (pa_cons (pv 0) (pa_cons (pe_callB (call_len_seq_ K) (by rfl) B.len_ (by decide +kernel) (pa_cons (pv 1) pa_nil)) pa_nil))) (fun _ _ => rfl)))), ?_⟩
    refine ⟨_, rfl, _, rfl, _, rfl, t, xs, rfl, .inl hS, h, q, _, rfl, L, by omega, by omega, fun j H' j0 j1 L' S' => ?_⟩
    obtain ⟨i, rfl⟩ : ∃ i : Nat, j = (i : Int) := ⟨j.toNat, by omega⟩
    have hi : i < xs.length := by omega
    have ex : xs[i]? = some xs[i] := List.getElem?_eq_getElem hi
    exact ⟨t, xs, _, _, rfl, rfl, S'.seq n1 n2 hS, atI_nat ex, k i _ H' ex L' S'⟩
end

abbrev s__law_step : Stmt := topS 23
theorem sc__law_step : FnScope ["_law_h"] ["_law_h"] (defScope s__law_step) := ⟨rfl, rfl, rfl, by decide +kernel, rfl, by decide +kernel, by decide +kernel⟩
def sp__law_step (K : PySem.W.Frag) : Sp := fun vs H Q _ => ∃ (h q : Addr), vs = [.ref h] ∧ LawH H h q ∧
  ∀ (m : Nat) (H' : Hp), 1 ≤ m → m ≤ 64 → LawH H' h q → Sm h q H H' → Q (.int (m : Nat)) H'
section
variable {P : Program} {w : World} {K : PySem.W.Frag} {mg : Str → Option Value} {base : Heap}
theorem ok__law_step (A : At K mg "_law_step" s__law_step ["_law_h"]) (B : Bn mg) (H__law_next : CalE P w K mg base "_law_next" ["_law_h", "_law_cap"] 1 (sp__law_next K)) (H__law_pick : CalE P w K mg base "_law_pick" ["_law_h", "_law_things"] 2 (sp__law_pick K)) : CalE P w K mg base "_law_step" ["_law_h"] 3 (sp__law_step K) := by
  obtain ⟨f, fd, F, gF, bF⟩ := A
  obtain ⟨f__law_next, fd__law_next, G__law_next⟩ := H__law_next
  obtain ⟨f__law_pick, fd__law_pick, G__law_pick⟩ := H__law_pick
  refine ⟨f, fd, F.ok sc__law_step (fun vs H Q E h => ?_) (fun cdv A outer s H vs Q E hr h => ?_), gF, F.kp, bF⟩
  · repeat (first | (obtain ⟨rfl, _⟩ := h; rfl) | (obtain ⟨_, h⟩ := h))
  · obtain ⟨h, q, rfl, L, k⟩ := h
    refine ⟨_, (pss_one (ps_ret (pe_op op_add pe_int (pe_call G__law_next.ok (hr.mono (by first | decide | exact Nat.le_refl _)) (by rfl) G__law_next.g G__law_next.kp G__law_next.b .nil pass0 (pa_cons (pv 0) (pa_cons (pe_call G__law_pick.ok (hr.mono (by first | decide | exact Nat.le_refl _)) (by rfl) G__law_pick.g G__law_pick.kp G__law_pick.b .nil pass0 (pa_cons (pv 0) (pa_cons (pe_lst (pa_cons pe_int (pa_cons pe_int (pa_cons pe_int (pa_cons pe_int pa_nil))))) pa_nil))) pa_nil)))))), ?_⟩
    refine ⟨_, rfl, _, rfl, (by show 4 ≤ sizeLine; decide), fun t nt => pickI L nt (fun z => by cases z) (by show 4 ≤ 1000; decide) fun x hx H1 L1 S1 => ?_⟩
    obtain ⟨c, rfl, c0, c1⟩ : ∃ c : Int, x = .int c ∧ 1 ≤ c ∧ c ≤ 64 := by
      simp only [List.mem_cons, List.not_mem_nil, or_false] at hx
      rcases hx with rfl | rfl | rfl | rfl <;> exact ⟨_, rfl, by decide, by decide⟩
    refine ⟨h, q, c, rfl, L1, by omega, by omega, fun z H2 z0 z1 L2 S2 => ?_⟩
    obtain ⟨y, rfl⟩ : ∃ y : Nat, z = (y : Int) := ⟨z.toNat, by omega⟩
    refine ⟨_, _, rfl, rfl, ?_⟩
    show Q (.int (1 + (y : Int))) H2
    rw [show (1 + (y : Int)) = ((1 + y : Nat) : Int) by omega]
    exact k _ _ (by omega) (by omega) L2 (S1.trans S2)
end

abbrev s_is_integer : Stmt := topS 6
theorem sc_is_integer : FnScope ["thing", "low", "high"] ["thing", "low", "high"] (defScope s_is_integer) := ⟨rfl, rfl, rfl, by decide +kernel, rfl, by decide +kernel, by decide +kernel⟩
/-- the values of «any value» -/
inductive AnyV (K : PySem.W.Frag) (H : Hp) : V → Prop
  | non : AnyV K H .non
  | bl (b : Bool) : AnyV K H (.bl b)
  | int (i : Int) : AnyV K H (.int i)
  | str (x : Str) : AnyV K H (.str x)
  | lst {a : Addr} (h : TyX K H (.ref a) (.type "list")) : AnyV K H (.ref a)
  | tup {a : Addr} (h : TyX K H (.ref a) (.type "tuple")) : AnyV K H (.ref a)
  | dct {a : Addr} (h : TyX K H (.ref a) (.type "dict")) : AnyV K H (.ref a)
def isI (x : V) (lo hi : Int) : Bool := match x with
  | .int n => decide (lo ≤ n) && decide (n ≤ hi)
  | _ => false
theorem isI_yes {n lo hi : Int} (h : lo ≤ n) (h' : n ≤ hi) : isI (.int n) lo hi = true := by
  show (decide (lo ≤ n) && decide (n ≤ hi)) = true
  rw [decide_eq_true h, decide_eq_true h']
  rfl
def sp_is_integer (K : PySem.W.Frag) : Sp := fun vs H Q _ => ∃ (x : V) (lo hi : Int), vs = [x, .int lo, .int hi] ∧ AnyV K H x ∧ Q (.bl (isI x lo hi)) H
section
variable {P : Program} {w : World} {K : PySem.W.Frag} {mg : Str → Option Value} {base : Heap}
theorem ok_is_integer (A : At K mg "is_integer" s_is_integer ["thing", "low", "high"]) (B : Bn mg) : CalE P w K mg base "is_integer" ["thing", "low", "high"] 1 (sp_is_integer K) := by
  obtain ⟨f, fd, F, gF, bF⟩ := A
  refine ⟨f, fd, F.ok sc_is_integer (fun vs H Q E h => ?_) (fun cdv A outer s H vs Q E hr h => ?_), gF, F.kp, bF⟩
  · repeat (first | (obtain ⟨rfl, _⟩ := h; rfl) | (obtain ⟨_, h⟩ := h))
  · obtain ⟨x, lo, hi, rfl, hx, q⟩ := h
    refine ⟨_, (pss_one (ps_ret (pe_and (pe_callB (call_isi_ K) (by rfl) B.isinstance_ (by decide +kernel) (pa_cons (pv 0) (pa_cons (pe_bltn (v := .ty "int") (by rfl) B.int_ (by decide +kernel) rfl) pa_nil))) (pe_and (pe_not (pe_callB (call_isi_ K) (by rfl) B.isinstance_ (by decide +kernel) (pa_cons (pv 0) (pa_cons (pe_bltn (v := .ty "bool") (by rfl) B.bool_ (by decide +kernel) rfl) pa_nil)))) (pe_one (pe_chain op_le op_le (pv 1) (pv 0) (pv 2))))))), ?_⟩
    have no : ∀ T : String, TyX K H x (.type T) → kitB T "int" = some false → isI x lo hi = false → (tRet (tAndV (tCB (rIsi K) (tCons (tVar 0) (tCons (tC (.ty "int")) tNil))) (tAndV (tNotV (tCB (rIsi K) (tCons (tVar 0) (tCons (tC (.ty "bool")) tNil)))) (tChain (rI0 fun i j => .bl (decide (i ≤ j))) (rI0 fun i j => .bl (decide (i ≤ j))) (tVar 1) (tVar 0) (tVar 2))))) { nx := fun _ H' => Q .non H', rt := Q } (start ["thing", "low", "high"] [x, .int lo, .int hi]) H := fun T hT hk hi => by
      refine ⟨_, rfl, _, _, _, _, false, rfl, .ty _, hT, kit_ty hk, _, rfl, iteF ?_⟩
      rw [hi] at q
      exact q
    cases hx with
    | non => exact no _ (.base .non) (by decide +kernel) rfl
    | str z => exact no _ (.base (.str z)) (by decide +kernel) rfl
    | lst h => exact no _ h (by decide +kernel) rfl
    | tup h => exact no _ h (by decide +kernel) rfl
    | dct h => exact no _ h (by decide +kernel) rfl
    | bl b =>
      refine ⟨_, rfl, _, _, _, _, true, rfl, .ty _, .base (.bl b), kit_ty (by decide +kernel), _, rfl, iteT ?_⟩
      refine ⟨_, rfl, _, _, _, _, true, rfl, .ty _, .base (.bl b), kit_ty (by decide +kernel), _, rfl, _, rfl, iteF ?_⟩
      exact q
    | int n =>
      refine ⟨_, rfl, _, _, _, _, true, rfl, .ty _, .base (.int n), kit_ty (by decide +kernel), _, rfl, iteT ?_⟩
      refine ⟨_, rfl, _, _, _, _, false, rfl, .ty _, .base (.int n), kit_ty (by decide +kernel), _, rfl, _, rfl, iteT ?_⟩
      refine ⟨_, rfl, _, rfl, _, _, rfl, rfl, _, rfl, ?_⟩
      have e : isI (.int n) lo hi = (decide (lo ≤ n) && decide (n ≤ hi)) := rfl
      rw [e] at q
      by_cases c : lo ≤ n
      · rw [decide_eq_true c]
        rw [decide_eq_true c, Bool.true_and] at q
        exact iteT ⟨_, rfl, _, _, rfl, rfl, q⟩
      · rw [decide_eq_false c]
        rw [decide_eq_false c, Bool.false_and] at q
        exact iteF q
end

abbrev s_check_step : Stmt := topS 10
theorem sc_check_step : FnScope ["thing"] ["thing"] (defScope s_check_step) := ⟨rfl, rfl, rfl, by decide +kernel, rfl, by decide +kernel, by decide +kernel⟩
def sp_check_step (K : PySem.W.Frag) : Sp := fun vs H Q E => ∃ (x : V), vs = [x] ∧ AnyV K H x ∧ (isI x 1 64 = true → Q .non H) ∧ (isI x 1 64 = false → ∀ C : Addr, ClsAt K "BadStep" C → E (.ref C) none H)
section
variable {P : Program} {w : World} {K : PySem.W.Frag} {mg : Str → Option Value} {base : Heap}
theorem ok_check_step (A : At K mg "check_step" s_check_step ["thing"]) (B : Bn mg) (H_is_integer : CalE P w K mg base "is_integer" ["thing", "low", "high"] 1 (sp_is_integer K)) (K_MOST_STEP : ∃ v, mg "MOST_STEP" = some v ∧ RelV (.int 64) v) (HT_BadStep : ∃ C, ExT K mg "BadStep" C) : CalX P w K mg base "check_step" ["thing"] 2 (sp_check_step K) := by
  obtain ⟨f, fd, F, gF, bF⟩ := A
  obtain ⟨f_is_integer, fd_is_integer, G_is_integer⟩ := H_is_integer
  obtain ⟨v_MOST_STEP, C_MOST_STEP⟩ := K_MOST_STEP
  obtain ⟨A_BadStep, T_BadStep⟩ := HT_BadStep
  refine ⟨f, fd, F.okX sc_check_step (fun vs H Q E h => ?_) (fun cdv A outer s H vs Q E hr h => ?_), gF, F.kp, bF⟩
  · repeat (first | (obtain ⟨rfl, _⟩ := h; rfl) | (obtain ⟨_, h⟩ := h))
  · obtain ⟨x, rfl, hx, k, kR⟩ := h
    obtain ⟨_, rfl⟩ := C_MOST_STEP.2
    refine ⟨_, (pss_one (ps_if (pt_not (pt_val (pe_call G_is_integer.ok (hr.mono (by first | decide | exact Nat.le_refl _)) (by rfl) G_is_integer.g G_is_integer.kp G_is_integer.b .nil pass0 (pa_cons (pv 0) (pa_cons pe_int (pa_cons (pe_glob (by rfl) C_MOST_STEP.1 C_MOST_STEP.2) pa_nil))))))
      (pss_one (ps_raise0 (takes_of rfl rfl rfl rfl) T_BadStep (by rfl)))
      pss_nil)), ?_⟩
    refine ⟨_, rfl, x, 1, 64, rfl, hx, ?_⟩
    cases e : isI x 1 64 with
    | true => exact ⟨_, rfl, iteF (k e)⟩
    | false => exact ⟨_, rfl, iteT (kR e _ T_BadStep.n)⟩
end

abbrev s_Reader___init__ : Stmt := inClass (topS 17) 0
theorem sc_Reader___init__ : FnScope ["self", "step"] ["self", "step"] (defScope s_Reader___init__) := ⟨rfl, rfl, rfl, by decide +kernel, rfl, by decide +kernel, by decide +kernel⟩
def sp_Reader___init__ (K : PySem.W.Frag) (C : Addr) : Sp := fun vs H Q E => ∃ (r dx : Addr) (x : V), vs = [.ref r, x] ∧ H r = some (.ins C dx []) ∧ AnyV K H x ∧
  (∀ m : Nat, x = .int (m : Nat) → 1 ≤ m → m ≤ 64 → ∀ (p : Addr) (H' : Hp), (∀ b o, b ≠ r → H b = some o → H' b = some o) → H p = none → RdAt C H' r p m [] [] → Q .non H') ∧
  (isI x 1 64 = false → ∀ D : Addr, ClsAt K "BadStep" D → E (.ref D) none H)
section
variable {P : Program} {w : World} {K : PySem.W.Frag} {mg : Str → Option Value} {base : Heap}
theorem ok_Reader___init__ {C_ : Addr} (A : AtM K (fun f => Mk K C_ f) "__init__" "Reader.__init__" s_Reader___init__ ["self", "step"]) (B : Bn mg) (RC : RdC K mg C_) (H_check_step : CalX P w K mg base "check_step" ["thing"] 2 (sp_check_step K)) : CalM P w K mg base (L2.CX P w) (fun f => Mk K C_ f) ["self", "step"] 3 (sp_Reader___init__ K C_) := by
  obtain ⟨f, fd, F, gF, bF⟩ := A
  obtain ⟨f_check_step, fd_check_step, G_check_step⟩ := H_check_step
  refine ⟨f, fd, F.okX sc_Reader___init__ (fun vs H Q E h => ?_) (fun cdv A outer s H vs Q E hr h => ?_), gF, bF⟩
  · repeat (first | (obtain ⟨rfl, _⟩ := h; rfl) | (obtain ⟨_, h⟩ := h))
  · obtain ⟨r, dx, x, rfl, ho, hx, k, kR⟩ := h
    have hsz := sizeLine_eq
    refine ⟨_, (pss_cons (ps_expr (pe_callS G_check_step.ok (hr.mono (by first | decide | exact Nat.le_refl _)) (by rfl) G_check_step.g G_check_step.kp G_check_step.b (fun σ => passAt (takes_of rfl rfl rfl rfl) σ) (pa_cons (pv 1) pa_nil)))
      (pss_cons (ps_fld (pv 0) (pv 1) rfl)
      (pss_cons (ps_fld (pv 0) pe_str rfl)
      (pss_one (ps_fld (pv 0) (pe_lst pa_nil) rfl))))), ?_⟩
    refine ⟨_, rfl, x, rfl, hx, fun e => ?_, fun e D hD => ?_⟩
    · obtain ⟨m, rfl, m1, m64⟩ : ∃ m : Nat, x = .int (m : Nat) ∧ 1 ≤ m ∧ m ≤ 64 := by
        cases x with
        | int n =>
          have e' : (decide (1 ≤ n) && decide (n ≤ 64)) = true := e
          rw [Bool.and_eq_true, decide_eq_true_eq, decide_eq_true_eq] at e'
          exact ⟨n.toNat, by congr 1; omega, by omega, by omega⟩
        | _ => cases e
      refine ⟨_, rfl, _, rfl, r, C_, dx, _, rfl, ho, RC.cl, RC.nS, (by show 0 < 1000; decide), ?_⟩
      refine ⟨_, rfl, r, C_, dx, _, rfl, upd_same, RC.cl, RC.nT, (by show 1 < 1000; decide), ?_⟩
      refine ⟨(by show 0 ≤ sizeLine; omega), fun p np => ?_⟩
      have nrp : r ≠ p := fun z => by
        rw [z, upd_same] at np
        cases np
      refine ⟨_, rfl, r, C_, dx, _, rfl, (upd_ne nrp).trans upd_same, RC.cl, RC.nP, (by show 2 < 1000; decide), ?_⟩
      have np0 : H p = none := by
        rw [upd_ne (Ne.symm nrp), upd_ne (Ne.symm nrp)] at np
        exact np
      refine k m rfl m1 m64 p _ (fun b o hb h => ?_) np0 ⟨⟨dx, ?_⟩, ?_, m1, m64, by decide, by decide⟩
      · rw [upd_ne hb, upd_ne (ne_of_none h np0), upd_ne hb, upd_ne hb]
        exact h
      · rw [upd_same, tx_nil, rd_put]
      · rw [upd_ne (Ne.symm nrp), upd_same]
        rfl
    · exact kR e D hD
end

abbrev s__law_double : Stmt := topS 24
theorem sc__law_double : FnScope ["_law_times", "_law_found", "_law_again"] ["_law_times"] (defScope s__law_double) := ⟨rfl, rfl, rfl, by decide +kernel, rfl, by decide +kernel, by decide +kernel⟩
def sp__law_double (K : PySem.W.Frag) : Sp := fun vs H Q _ => ∃ t : Nat, vs = [.int (t : Nat)] ∧ t ≤ 1000 ∧ Q (.int ((2 ^ t : Nat) : Int)) H
section
variable {P : Program} {w : World} {K : PySem.W.Frag} {mg : Str → Option Value} {base : Heap}
theorem ok__law_double (A : At K mg "_law_double" s__law_double ["_law_times"]) (B : Bn mg) : CalE P w K mg base "_law_double" ["_law_times"] 1 (sp__law_double K) := by
  obtain ⟨f, fd, F, gF, bF⟩ := A
  refine ⟨f, fd, F.ok sc__law_double (fun vs H Q E h => ?_) (fun cdv A outer s H vs Q E hr h => ?_), gF, F.kp, bF⟩
  · repeat (first | (obtain ⟨rfl, _⟩ := h; rfl) | (obtain ⟨_, h⟩ := h))
  · obtain ⟨t, rfl, ht, k⟩ := h
    refine ⟨_, (pss_cons (ps_set (i := 1) sc__law_double.nd rfl (.inl rfl) pe_int)
      (pss_cons (ps_for PassesOwn.never rfl (pi_range1 (by rfl) B.range_ (pa_cons (pv 0) pa_nil)) (pg_name (i := 2) sc__law_double.nd rfl (.inl rfl))
      (pss_one (ps_set (i := 1) sc__law_double.nd rfl (.inl rfl) (pe_op op_mul (pv 1) pe_int))))
      (pss_one (ps_ret (pv 1))))), ?_⟩
    refine ⟨_, rfl, _, rfl, by omega, by omega, for_range (lo := 0) (n := t) (fun i σ H2 => ∃ v, σ = [some (.int (t : Nat)), some (.int ((2 ^ i : Nat) : Int)), v] ∧ H2 = H) ⟨_, rfl, rfl⟩ ?_ ?_⟩
    · rintro i σ H2 hi ⟨v, rfl, rfl⟩
      refine ⟨_, rfl, _, _, rfl, rfl, .inr (by omega), ?_⟩
      have e : ((2 ^ i : Nat) : Int) * 2 = ((2 ^ (i + 1) : Nat) : Int) := by
        rw [Nat.pow_succ, Int.natCast_mul]
        rfl
      refine ⟨some (.int (0 + (i : Nat))), ?_, rfl⟩
      show [_, some (V.int (((2 ^ i : Nat) : Int) * 2)), _] = _
      rw [e]
    · rintro σ H2 ⟨v, rfl, rfl⟩
      exact ⟨_, rfl, k⟩
end

abbrev s__law_word : Stmt := topS 25
theorem sc__law_word : FnScope ["_law_step_here", "_law_number", "_law_many", "_law_rest", "_law_found", "_law_short", "_law_spot"] ["_law_step_here", "_law_number"] (defScope s__law_word) := ⟨rfl, rfl, rfl, by decide +kernel, rfl, by decide +kernel, by decide +kernel⟩
def sp__law_word (K : PySem.W.Frag) : Sp := fun vs H Q _ => ∃ m n : Nat, vs = [.int (m : Nat), .int (n : Nat)] ∧ 1 ≤ m ∧ m ≤ 64 ∧ n / m ≤ 5000 ∧ Q (.str (tx (wordB m n))) H
section
variable {P : Program} {w : World} {K : PySem.W.Frag} {mg : Str → Option Value} {base : Heap}
theorem ok__law_word (A : At K mg "_law_word" s__law_word ["_law_step_here", "_law_number"]) (B : Bn mg) (H__law_double : CalE P w K mg base "_law_double" ["_law_times"] 1 (sp__law_double K)) : CalE P w K mg base "_law_word" ["_law_step_here", "_law_number"] 2 (sp__law_word K) := by
  obtain ⟨f, fd, F, gF, bF⟩ := A
  obtain ⟨f__law_double, fd__law_double, G__law_double⟩ := H__law_double
  refine ⟨f, fd, F.ok sc__law_word (fun vs H Q E h => ?_) (fun cdv A outer s H vs Q E hr h => ?_), gF, F.kp, bF⟩
  · repeat (first | (obtain ⟨rfl, _⟩ := h; rfl) | (obtain ⟨_, h⟩ := h))
  · obtain ⟨m, n, rfl, hm, h64, hn, k⟩ := h
    have h6 := wide_64 h64
    have hm0 : (0 : Int) < (m : Int) := by omega
    have hmb : ((m : Int)).natAbs < 2 ^ 7 := by omega
    have ed : (n : Int) / (m : Int) = ((n / m : Nat) : Int) := (Int.natCast_ediv n m).symm
    have em : (n : Int) % (m : Int) = ((n % m : Nat) : Int) := (Int.natCast_emod n m).symm
    have e1 : repS ("1" : Str) ((n : Int) / (m : Int)).toNat ++ ("0" : Str) = tx (List.replicate (n / m) true ++ [false]) := by rw [ed, Int.toNat_natCast, tx_one, tx_zero, tx_rep, tx_app]
    have l1 : ("1" : Str).length = 1 := by decide +kernel
    have ht : ((n : Int) / (m : Int)).toNat = n / m := by rw [ed, Int.toNat_natCast]
    refine ⟨_, (pss_cons (ps_par (i := 2) (j := 3) (by rfl) sc__law_word.nd rfl rfl (by decide) rfl rfl (pa_cons pe_int (pa_cons (pe_op op_mod (pe_callTy call_int1 (by rfl) B.int_ (by decide +kernel) (pa_cons (pv 1) pa_nil)) (pv 0)) pa_nil)) (by rfl))
      (pss_cons (ps_set (i := 4) sc__law_word.nd rfl (.inl rfl) (pe_op op_add_str (pe_op op_mul_str pe_str (pe_op op_fdivW (pv 1) (pv 0))) pe_str))
      (pss_cons (ps_while PassesOwn.never (pt_cmpR op_lt (pe_call G__law_double.ok (hr.mono (by first | decide | exact Nat.le_refl _)) (by rfl) G__law_double.g G__law_double.kp G__law_double.b .nil pass0 (pa_cons (pv 2) pa_nil)) (pv 0) (nomark _))
      (pss_one (ps_set (i := 2) sc__law_word.nd rfl (.inl rfl) (pe_op op_add (pv 2) pe_int))))
      (pss_cons (ps_set (i := 5) sc__law_word.nd rfl (.inl rfl) (pe_op op_sub (pe_call G__law_double.ok (hr.mono (by first | decide | exact Nat.le_refl _)) (by rfl) G__law_double.g G__law_double.kp G__law_double.b .nil pass0 (pa_cons (pv 2) pa_nil)) (pv 0)))
      (pss_cons (ps_if (pt_cmpR op_ge (pv 3) (pv 5) (nomark _))
      (pss_one (ps_set (i := 3) sc__law_word.nd rfl (.inl rfl) (pe_op op_add (pv 3) (pv 5))))
      (pss_one (ps_set (i := 2) sc__law_word.nd rfl (.inl rfl) (pe_op op_sub (pv 2) pe_int))))
      (pss_cons (ps_for PassesOwn.never rfl (pi_range1 (by rfl) B.range_ (pa_cons (pv 2) pa_nil)) (pg_name (i := 6) sc__law_word.nd rfl (.inl rfl))
      (pss_one (ps_set (i := 4) sc__law_word.nd rfl (.inl rfl) (pe_op op_add_str (pv 4) (pe_ifExp (pt_cmpR op_eq (pe_op op_mod (pe_callTy call_int1 (by rfl) B.int_ (by decide +kernel) (pa_cons (pe_op op_fdivW (pv 3) (pe_call G__law_double.ok (hr.mono (by first | decide | exact Nat.le_refl _)) (by rfl) G__law_double.g G__law_double.kp G__law_double.b .nil pass0 (pa_cons (pe_op op_sub (pe_op op_sub (pv 2) pe_int) (pv 6)) pa_nil))) pa_nil)) pe_int) pe_int (nomark _)) pe_str pe_str)))))
      (pss_one (ps_ret (pv 4))))))))), ?_⟩
    -- many, rest = 0, int(number) % step
    refine ⟨_, rfl, .inl ⟨_, rfl, _, rfl, _, _, rfl, rfl, hm0, _, _, rfl, ?_⟩⟩
    -- found = "1" * (number // step) + "0"
    refine ⟨_, rfl, _, rfl, _, _, rfl, rfl, wide_div hm0 hmb (by decide) (by decide), _, _, rfl, rfl, by omega, by omega, by rw [l1, ht]; omega, _, _, rfl, rfl, ?_, ?_⟩
    · rw [ed, Int.toNat_natCast, tx_one, tx_rep, tx_zero, tx_len, tx_len, List.length_replicate]
      have := sizeLine_eq
      show n / m + 1 ≤ sizeLine
      omega
    rw [e1]
    -- while double(many) < step
    refine ⟨fun x σ H2 => ∃ c : Nat, x = 6 - c ∧ σ = [some (.int (m : Nat)), some (.int (n : Nat)), some (.int (c : Nat)), some (.int ((n % m : Nat) : Int)), some (.str (tx (List.replicate (n / m) true ++ [false]))), none, none] ∧ (∀ d, d < c → 2 ^ d < m) ∧ c ≤ 6 ∧ H2 = H, ⟨6, 0, rfl, ?_, fun d h => by omega, by decide, rfl⟩, ?_⟩
    · show [_, _, _, some (V.int ((n : Int) % (m : Int))), _, _, _] = _
      rw [em]
      rfl
    rintro x σ H2 ⟨c, rfl, rfl, hc, c6, rfl⟩
    refine ⟨_, rfl, c, rfl, by omega, _, rfl, _, _, rfl, rfl, _, rfl, ite2 (fun z => ?_) (fun z => ?_)⟩
    · have z' : 2 ^ c < m := Int.ofNat_lt.mp (of_decide_eq_true z)
      have c5 : c < 6 := by
        refine Nat.not_le.mp fun y => ?_
        have : c = 6 := by omega
        subst this
        omega
      refine ⟨fun σ' H' => ∃ c' : Nat, c' = c + 1 ∧ σ' = [some (.int (m : Nat)), some (.int (n : Nat)), some (.int (c' : Nat)), some (.int ((n % m : Nat) : Int)), some (.str (tx (List.replicate (n / m) true ++ [false]))), none, none] ∧ H' = H2, fun σ' H' ⟨c', e0, e1, e2⟩ => ⟨6 - c', by omega, c', rfl, e1, fun d hd => ?_, by omega, e2⟩, ?_⟩
      · by_cases hd' : d = c
        · exact hd' ▸ z'
        · exact hc d (by omega)
      exact ⟨_, rfl, _, _, rfl, rfl, c + 1, rfl, rfl, rfl⟩
    · have z' : m ≤ 2 ^ c := Nat.not_lt.mp fun y => z (decide_eq_true (Int.ofNat_lt.mpr y))
      have ew := wide_eq z' hc
      have hs : ((2 ^ c : Nat) : Int) - (m : Int) = ((shortN m : Nat) : Int) := by
        unfold shortN
        rw [ew]
        omega
      -- short = double(many) - step
      refine ⟨_, rfl, c, rfl, by omega, _, rfl, _, _, rfl, rfl, ?_⟩
      -- if rest >= short
      refine ⟨_, rfl, _, rfl, _, _, rfl, rfl, _, rfl, ite2 (fun y => ?_) (fun y => ?_)⟩
      · have y' : ¬ n % m < shortN m := by
          have := of_decide_eq_true y
          rw [hs] at this
          omega
        refine ⟨_, rfl, _, rfl, _, _, rfl, rfl, ?_⟩

        -- the figures
        refine ⟨_, rfl, _, rfl, by omega, by omega, ?_⟩
        rw [show ((c : Int)).toNat = wideN m by omega]
        refine for_range (lo := 0) (n := (wideN m)) (fun i σ H3 => ∃ v, σ = [some (.int (m : Nat)), some (.int (n : Nat)), some (.int ((wideN m) : Nat)), some (.int ((n % m + shortN m) : Nat)), some (.str (tx (List.replicate (n / m) true ++ [false] ++ (fig (n % m + shortN m) (wideN m)).take i))), some (.int (shortN m : Nat)), v] ∧ H3 = H2) ⟨none, ?_, rfl⟩ ?_ ?_
        · show [some (V.int (m : Int)), some (V.int (n : Int)), some (V.int (c : Int)), some (V.int (((n % m : Nat) : Int) + (((2 ^ c : Nat) : Int) - (m : Int)))), some (V.str (tx (List.replicate (n / m) true ++ [false]))), some (V.int (((2 ^ c : Nat) : Int) - (m : Int))), none] = _
          rw [hs, ew, ← Int.natCast_add, List.take_zero, List.append_nil]
        · rintro i σ H3 hi ⟨v, rfl, rfl⟩
          refine ⟨_, rfl, _, rfl, _, rfl, _, _, rfl, rfl, _, rfl, _, _, rfl, rfl, (wideN m) - 1 - i, ?_, by omega, ?_⟩
          · show [V.int ((((wideN m) : Nat) : Int) - 1 - (0 + (i : Int)))] = _
            rw [show ((((wideN m) : Nat) : Int) - 1 - (0 + (i : Int))) = (((wideN m) - 1 - i : Nat) : Int) by omega]
          have hp : (0 : Int) < ((2 ^ ((wideN m) - 1 - i) : Nat) : Int) := Int.ofNat_lt.mpr (Nat.pow_pos (by decide))
          have hb : (((2 ^ ((wideN m) - 1 - i) : Nat) : Int)).natAbs < 2 ^ 7 := by
            rw [Int.natAbs_natCast]
            exact Nat.pow_lt_pow_right (by decide) (by omega)
          refine ⟨_, _, rfl, rfl, wide_div hp hb (by decide) (by decide), .inl ⟨_, rfl, _, _, rfl, rfl, (by decide : (0 : Int) < 2), rfl, _, rfl, ?_⟩⟩
          have ft := fig_take (n % m + shortN m) (wideN m) i hi
          have ll : (List.replicate (n / m) true ++ [false] ++ (fig (n % m + shortN m) (wideN m)).take i).length ≤ n / m + 1 + (wideN m) := by
            simp
            omega
          have go : ∀ b : Bool, b = ((n % m + shortN m) / 2 ^ ((wideN m) - 1 - i) % 2 == 1) → tx (List.replicate (n / m) true ++ [false] ++ (fig (n % m + shortN m) (wideN m)).take i) ++ tx [b] = tx (List.replicate (n / m) true ++ [false] ++ (fig (n % m + shortN m) (wideN m)).take (i + 1)) := by
            rintro b rfl
            rw [tx_app, ft, List.append_assoc, List.append_assoc]
          have bi := bit_int (n % m + shortN m) ((wideN m) - 1 - i)
          refine ite2 (fun z => ?_) (fun z => ?_)
          · have z' := bi.mp (V.int.inj (of_decide_eq_true z))
            have e := go true z'.symm
            refine ⟨_, _, rfl, rfl, ?_, ?_⟩
            · rw [tx_one, tx_len, tx_len]
              show _ + 1 ≤ sizeLine
              have := sizeLine_eq
              omega
            · refine ⟨some (.int (0 + (i : Int))), ?_, rfl⟩
              show [_, _, _, _, some (V.str (tx (List.replicate (n / m) true ++ [false] ++ (fig (n % m + shortN m) (wideN m)).take i) ++ ("1" : Str))), _, _] = _
              rw [tx_one, e]
          · have z' : ((n % m + shortN m) / 2 ^ ((wideN m) - 1 - i) % 2 == 1) = false := Bool.eq_false_iff.mpr fun y => z (decide_eq_true (congrArg V.int (bi.mpr y)))
            have e := go false z'.symm
            refine ⟨_, _, rfl, rfl, ?_, ?_⟩
            · rw [tx_zero, tx_len, tx_len]
              show _ + 1 ≤ sizeLine
              have := sizeLine_eq
              omega
            · refine ⟨some (.int (0 + (i : Int))), ?_, rfl⟩
              show [_, _, _, _, some (V.str (tx (List.replicate (n / m) true ++ [false] ++ (fig (n % m + shortN m) (wideN m)).take i) ++ ("0" : Str))), _, _] = _
              rw [tx_zero, e]
        · rintro σ H3 ⟨v, rfl, rfl⟩
          refine ⟨_, rfl, ?_⟩
          rw [List.take_of_length_le (by rw [fig_len]; exact Nat.le_refl _), List.append_assoc]
          have ew : wordB m n = List.replicate (n / m) true ++ ([false] ++ fig (n % m + shortN m) (wideN m)) := by
            unfold wordB
            rw [show restB m (n % m) = fig (n % m + shortN m) (wideN m) from if_neg y']
            rfl
          rw [← ew]
          exact k
      · have y' : n % m < shortN m := by
          refine Nat.not_le.mp fun z2 => y (decide_eq_true ?_)
          show ((2 ^ c : Nat) : Int) - (m : Int) ≤ ((n % m : Nat) : Int)
          rw [hs]
          omega
        have c1 : 1 ≤ c := by
          refine Nat.not_lt.mp fun z2 => ?_
          have c0 : c = 0 := by omega
          have := short_zero (ew.trans c0) hm
          subst this
          rw [Nat.mod_one] at y'
          unfold shortN at y'
          rw [ew, c0] at y'
          omega
        refine ⟨_, rfl, _, _, rfl, rfl, ?_⟩

        -- the figures
        refine ⟨_, rfl, _, rfl, by omega, by omega, ?_⟩
        rw [show ((c : Int) - 1).toNat = wideN m - 1 by omega]
        refine for_range (lo := 0) (n := (wideN m - 1)) (fun i σ H3 => ∃ v, σ = [some (.int (m : Nat)), some (.int (n : Nat)), some (.int ((wideN m - 1) : Nat)), some (.int ((n % m) : Nat)), some (.str (tx (List.replicate (n / m) true ++ [false] ++ (fig (n % m) (wideN m - 1)).take i))), some (.int (shortN m : Nat)), v] ∧ H3 = H2) ⟨none, ?_, rfl⟩ ?_ ?_
        · show [some (V.int (m : Int)), some (V.int (n : Int)), some (V.int ((c : Int) - 1)), some (V.int ((n % m : Nat) : Int)), some (V.str (tx (List.replicate (n / m) true ++ [false]))), some (V.int (((2 ^ c : Nat) : Int) - (m : Int))), none] = _
          rw [hs, ew, show ((c : Int) - 1) = ((c - 1 : Nat) : Int) by omega, List.take_zero, List.append_nil]
        · rintro i σ H3 hi ⟨v, rfl, rfl⟩
          refine ⟨_, rfl, _, rfl, _, rfl, _, _, rfl, rfl, _, rfl, _, _, rfl, rfl, (wideN m - 1) - 1 - i, ?_, by omega, ?_⟩
          · show [V.int ((((wideN m - 1) : Nat) : Int) - 1 - (0 + (i : Int)))] = _
            rw [show ((((wideN m - 1) : Nat) : Int) - 1 - (0 + (i : Int))) = (((wideN m - 1) - 1 - i : Nat) : Int) by omega]
          have hp : (0 : Int) < ((2 ^ ((wideN m - 1) - 1 - i) : Nat) : Int) := Int.ofNat_lt.mpr (Nat.pow_pos (by decide))
          have hb : (((2 ^ ((wideN m - 1) - 1 - i) : Nat) : Int)).natAbs < 2 ^ 7 := by
            rw [Int.natAbs_natCast]
            exact Nat.pow_lt_pow_right (by decide) (by omega)
          refine ⟨_, _, rfl, rfl, wide_div hp hb (by decide) (by decide), .inl ⟨_, rfl, _, _, rfl, rfl, (by decide : (0 : Int) < 2), rfl, _, rfl, ?_⟩⟩
          have ft := fig_take (n % m) (wideN m - 1) i hi
          have ll : (List.replicate (n / m) true ++ [false] ++ (fig (n % m) (wideN m - 1)).take i).length ≤ n / m + 1 + (wideN m - 1) := by
            simp
            omega
          have go : ∀ b : Bool, b = ((n % m) / 2 ^ ((wideN m - 1) - 1 - i) % 2 == 1) → tx (List.replicate (n / m) true ++ [false] ++ (fig (n % m) (wideN m - 1)).take i) ++ tx [b] = tx (List.replicate (n / m) true ++ [false] ++ (fig (n % m) (wideN m - 1)).take (i + 1)) := by
            rintro b rfl
            rw [tx_app, ft, List.append_assoc, List.append_assoc]
          have bi := bit_int (n % m) ((wideN m - 1) - 1 - i)
          refine ite2 (fun z => ?_) (fun z => ?_)
          · have z' := bi.mp (V.int.inj (of_decide_eq_true z))
            have e := go true z'.symm
            refine ⟨_, _, rfl, rfl, ?_, ?_⟩
            · rw [tx_one, tx_len, tx_len]
              show _ + 1 ≤ sizeLine
              have := sizeLine_eq
              omega
            · refine ⟨some (.int (0 + (i : Int))), ?_, rfl⟩
              show [_, _, _, _, some (V.str (tx (List.replicate (n / m) true ++ [false] ++ (fig (n % m) (wideN m - 1)).take i) ++ ("1" : Str))), _, _] = _
              rw [tx_one, e]
          · have z' : ((n % m) / 2 ^ ((wideN m - 1) - 1 - i) % 2 == 1) = false := Bool.eq_false_iff.mpr fun y => z (decide_eq_true (congrArg V.int (bi.mpr y)))
            have e := go false z'.symm
            refine ⟨_, _, rfl, rfl, ?_, ?_⟩
            · rw [tx_zero, tx_len, tx_len]
              show _ + 1 ≤ sizeLine
              have := sizeLine_eq
              omega
            · refine ⟨some (.int (0 + (i : Int))), ?_, rfl⟩
              show [_, _, _, _, some (V.str (tx (List.replicate (n / m) true ++ [false] ++ (fig (n % m) (wideN m - 1)).take i) ++ ("0" : Str))), _, _] = _
              rw [tx_zero, e]
        · rintro σ H3 ⟨v, rfl, rfl⟩
          refine ⟨_, rfl, ?_⟩
          rw [List.take_of_length_le (by rw [fig_len]; exact Nat.le_refl _), List.append_assoc]
          have ew : wordB m n = List.replicate (n / m) true ++ ([false] ++ fig (n % m) (wideN m - 1)) := by
            unfold wordB
            rw [show restB m (n % m) = fig (n % m) (wideN m - 1) from if_pos y']
            rfl
          rw [← ew]
          exact k
end

abbrev s__law_ends : Stmt := topS 28
theorem sc__law_ends : FnScope ["_law_step_here", "_law_text", "_law_found", "_law_at", "_law_known", "_law_rest", "_law_ones", "_law_begin", "_law_number", "_law_many", "_law_part"] ["_law_step_here", "_law_text"] (defScope s__law_ends) := ⟨rfl, rfl, rfl, by decide +kernel, rfl, by decide +kernel, by decide +kernel⟩
def sp__law_ends (K : PySem.W.Frag) : Sp := fun vs H Q _ => ∃ (m : Nat) (l : List Bool), vs = [.int (m : Nat), .str (tx l)] ∧ 1 ≤ m ∧ m ≤ 64 ∧ l.length ≤ 100000 ∧
  ∀ (D : Addr) (us : List V) (H' : Hp), Same H H' → H D = none → H' D = some (.lst us) → PrAt H' us (cuts m l) → Q (.ref D) H'
section
variable {P : Program} {w : World} {K : PySem.W.Frag} {mg : Str → Option Value} {base : Heap}
theorem ok__law_ends (A : At K mg "_law_ends" s__law_ends ["_law_step_here", "_law_text"]) (B : Bn mg) (H__law_word : CalE P w K mg base "_law_word" ["_law_step_here", "_law_number"] 2 (sp__law_word K)) : CalE P w K mg base "_law_ends" ["_law_step_here", "_law_text"] 3 (sp__law_ends K) := by
  obtain ⟨f, fd, F, gF, bF⟩ := A
  obtain ⟨f__law_word, fd__law_word, G__law_word⟩ := H__law_word
  refine ⟨f, fd, F.ok sc__law_ends (fun vs H Q E h => ?_) (fun cdv A outer s H vs Q E hr h => ?_), gF, F.kp, bF⟩
  · repeat (first | (obtain ⟨rfl, _⟩ := h; rfl) | (obtain ⟨_, h⟩ := h))
  · obtain ⟨m, l, rfl, hm, h64, hl, k⟩ := h
    have hsz := sizeLine_eq
    have h6 := wide_64 h64
    have tl : (tx l).length ≤ sizeLine := by rw [tx_len]; omega
    refine ⟨_, (pss_cons (ps_par3 (i := 2) (j := 3) (l := 4) (by rfl) sc__law_ends.nd rfl rfl rfl (by decide) (by decide) (by decide) rfl rfl rfl (pa_cons (pe_lst pa_nil) (pa_cons pe_int (pa_cons pe_dnewK pa_nil))) (by rfl))
      (pss_cons (ps_for PassesOwn.never rfl (pi_range1 (by rfl) B.range_ (pa_cons (pv 0) pa_nil)) (pg_name (i := 5) sc__law_ends.nd rfl (.inl rfl))
      (pss_one (ps_asg (pv 5) (pg_sub (pv 4) (pe_slice sl_str (pe_call G__law_word.ok (hr.mono (by first | decide | exact Nat.le_refl _)) (by rfl) G__law_word.g G__law_word.kp G__law_word.b .nil pass0 (pa_cons (pv 0) (pa_cons (pv 5) pa_nil))) (po_some pe_int) po_none) (set_dict (hu_of hr))))))
      (pss_cons (ps_while PassesOwn.never (pt_cmpR op_lt (pv 3) (pe_callB call_len_str_ (by rfl) B.len_ (by decide +kernel) (pa_cons (pv 1) pa_nil)) (nomark _))
      (pss_cons (ps_set (i := 6) sc__law_ends.nd rfl (.inl rfl) pe_int)
      (pss_cons (ps_while PassesOwn.never (pt_cmpR op_eq (pe_slice sl_str (pv 1) (po_some (pe_op op_add (pv 3) (pv 6))) (po_some (pe_op op_add (pe_op op_add (pv 3) (pv 6)) pe_int))) pe_str (nomark _))
      (pss_one (ps_set (i := 6) sc__law_ends.nd rfl (.inl rfl) (pe_op op_add (pv 6) pe_int))))
      (pss_cons (ps_par (i := 7) (j := 8) (by rfl) sc__law_ends.nd rfl rfl (by decide) rfl rfl (pa_cons (pe_op op_add (pe_op op_add (pv 3) (pv 6)) pe_int) (pa_cons pe_non pa_nil)) (by rfl))
      (pss_cons (ps_for PassesOwn.never rfl (pi_range1 (by rfl) B.range_ (pa_cons pe_int pa_nil)) (pg_name (i := 9) sc__law_ends.nd rfl (.inl rfl))
      (pss_cons (ps_set (i := 10) sc__law_ends.nd rfl (.inl rfl) (pe_slice sl_str (pv 1) (po_some (pv 7)) (po_some (pe_op op_add (pv 7) (pv 9)))))
      (pss_one (ps_if (PW.pt (pw_and (pt_cmp (pc_din (hu_of hr) (pv 10) (pv 4))) (pw_and (pt_cmpR op_ge (pe_callB call_len_str_ (by rfl) B.len_ (by decide +kernel) (pa_cons (pv 1) pa_nil)) (pe_op op_add (pv 7) (pv 9)) (nomark _)) (pw_and1 (pt_cmp (pc_isN (pv 8)))))))
      (pss_cons (ps_set (i := 8) sc__law_ends.nd rfl (.inl rfl) (pe_op op_add (pe_op op_mul (pv 6) (pv 0)) (pe_dget (hu_of hr) (pv 4) (pv 10) (fun _ _ => rfl))))
      (pss_one (ps_set (i := 3) sc__law_ends.nd rfl (.inl rfl) (pe_op op_add (pv 7) (pv 9)))))
      pss_nil))))
      (pss_cons (ps_if (pt_cmp (pc_isN (pv 8)))
      (pss_one (ps_ret (pv 2)))
      pss_nil)
      (pss_one (ps_expr (pe_bm PySem.F.plainAttrs_list PySem.F.slot_list_append PySem.F.type_list_append mt_append (pv 2) (pa_cons (pe_tup (pa_cons (pv 8) (pa_cons (pv 3) pa_nil))) pa_nil))))))))))
      (pss_one (ps_ret (pv 2)))))), ?_⟩
    refine ⟨(by show 0 ≤ sizeLine; omega), fun D nD E nE => ?_⟩
    have nED : E ≠ D := fun z => by rw [z, upd_same] at nE; cases nE
    have nE' : H E = none := by rw [upd_ne nED] at nE; exact nE
    refine ⟨_, _, _, rfl, ?_⟩
    refine ⟨_, rfl, _, rfl, by omega, by omega, for_range (lo := 0) (n := m) (fun j σ H2 => ∃ v5 kvs, σ = [some (.int (m : Nat)), some (.str (tx l)), some (.ref D), some (.int 0), some (.ref E), v5, none, none, none, none, none] ∧ Same H H2 ∧ H2 D = some (.lst []) ∧ H2 E = some (.dK kvs) ∧ Known m j kvs) ⟨_, _, rfl, (same_new nD _).trans (same_new nE _), by rw [upd_ne (Ne.symm nED)]; exact upd_same, upd_same, Known.nil m⟩ ?_ ?_⟩
    · rintro j σ H2 hj ⟨v5, kvs, rfl, s2, eD, eE, hk⟩
      have e0 : (0 : Int) + (j : Int) = ((j : Nat) : Int) := Int.zero_add _
      have hl2 : (wordB m j).length ≤ 1000 := by
        have := rest_len_le m (j % m)
        rw [word_len, Nat.div_eq_of_lt hj]
        omega
      refine ⟨_, rfl, _, rfl, ?_⟩
      refine ⟨_, rfl, _, rfl, m, j, ?_, hm, h64, by rw [Nat.div_eq_of_lt hj]; omega, ?_⟩
      · show [V.int (m : Int), V.int (0 + (j : Int))] = _
        rw [e0]
      refine ⟨_, rfl, _, rfl, by rw [tx_len]; omega, ?_⟩
      have ek : cutS (tx (wordB m j)) (some ((1 : Nat) : Int)) none = tx (restB m j) := by
        rw [cut_from]
        unfold wordB
        rw [Nat.div_eq_of_lt hj, Nat.mod_eq_of_lt hj]
        rfl
      refine ⟨E, upd H2 E (.dK (putK kvs (.inr (tx (restB m j))) (.int (j : Nat)))), rfl, ?_, ?_⟩
      · show DPut H2 E (.str (cutS (tx (wordB m j)) (some ((1 : Nat) : Int)) none)) (.int (0 + (j : Int))) _
        rw [ek, e0]
        exact DPut.k (k := .inr (tx (restB m j))) eE (by have := hk.len; omega)
      · refine ⟨_, _, rfl, fun b o ho => ?_, ?_, upd_same, hk.more hm hj⟩
        · rw [upd_ne (ne_of_none ho nE')]
          exact s2 _ _ ho
        · rw [upd_ne (Ne.symm nED)]
          exact eD
    rintro σ H2 ⟨v5, kvs, rfl, s2, eD, eE, hkn⟩
    refine ⟨fun x σ H3 => ∃ (a : Nat) (done : List (Nat × Nat)) (us : List V) (v5 v6 v7 v8 v9 v10 : Option V), x = l.length - a ∧ σ = [some (.int (m : Nat)), some (.str (tx l)), some (.ref D), some (.int (a : Nat)), some (.ref E), v5, v6, v7, v8, v9, v10] ∧ a ≤ l.length ∧ done.length ≤ a ∧ Same H H3 ∧ H3 D = some (.lst us) ∧ PrAt H3 us done ∧ H3 E = some (.dK kvs) ∧ cuts m l = done ++ cutsF m ((l.drop a).length + 1) (l.drop a) a, ⟨l.length, 0, [], [], _, _, _, _, _, _, rfl, rfl, Nat.zero_le _, Nat.le_refl _, s2, eD, ⟨rfl, fun i x h => by cases h⟩, eE, rfl⟩, ?_⟩
    clear s2 eD eE H2
    rintro x σ H2 ⟨a, done, us, v5, v6, v7, v8, v9, v10, rfl, rfl, ha, hdl, s2, eD, hP, eE, hc⟩
    refine ⟨_, rfl, _, rfl, _, rfl, tl, _, _, rfl, rfl, _, rfl, ite2 (fun c => ?_) (fun c => ?_)⟩
    rotate_left
    · -- at the end
      have c' : a = l.length := by
        have : ¬ ((a : Int) < ((tx l).length : Int)) := fun z => c (decide_eq_true z)
        rw [tx_len] at this
        omega
      rw [c', List.drop_length, cutsF_none (rd_nil m), List.append_nil] at hc
      exact ⟨_, rfl, k D us H2 s2 nD eD (hc ▸ hP)⟩
    have c' : a < l.length := by
      have := of_decide_eq_true c
      rw [tx_len] at this
      omega
    obtain ⟨kk, hkk⟩ : ∃ kk, onesN (l.drop a) = kk := ⟨_, rfl⟩
    have ol := ones_le (l.drop a)
    rw [hkk, List.length_drop] at ol
    have om : ∀ i, i ≤ kk → ((l[a + i]? = some true) ↔ i < kk) := fun i hi => by rw [← hkk] at hi ⊢; exact ones_more hi
    refine ⟨fun σ' H3 => ∃ (e n : Nat) (us' : List V) (v5 v6 v7 v8 v9 v10 : Option V), σ' = [some (.int (m : Nat)), some (.str (tx l)), some (.ref D), some (.int (e : Nat)), some (.ref E), v5, v6, v7, v8, v9, v10] ∧ a < e ∧ e ≤ l.length ∧ Same H H3 ∧ H3 D = some (.lst us') ∧ PrAt H3 us' (done ++ [(n, e)]) ∧ H3 E = some (.dK kvs) ∧ cuts m l = (done ++ [(n, e)]) ++ cutsF m ((l.drop e).length + 1) (l.drop e) e, fun σ' H3 ⟨e, n, us', v5, v6, v7, v8, v9, v10, e1, e2, e3, e4, e5, e6, e7, e8⟩ => ⟨l.length - e, by omega, e, done ++ [(n, e)], us', v5, v6, v7, v8, v9, v10, rfl, e1, e3, by rw [List.length_append, List.length_singleton]; omega, e4, e5, e6, e7, e8⟩, ?_⟩
    -- the ones
    refine ⟨fun x σ H3 => ∃ i : Nat, x = kk - i ∧ i ≤ kk ∧ σ = [some (.int (m : Nat)), some (.str (tx l)), some (.ref D), some (.int (a : Nat)), some (.ref E), v5, some (.int (i : Nat)), v7, v8, v9, v10] ∧ H3 = H2, ⟨kk, 0, rfl, Nat.zero_le _, rfl, rfl⟩, ?_⟩
    rintro x σ H3 ⟨i, rfl, hi, rfl, rfl⟩
    refine ⟨_, rfl, _, rfl, _, rfl, _, _, rfl, rfl, _, rfl, _, rfl, _, rfl, _, _, rfl, rfl, _, _, rfl, rfl, _, rfl, _, rfl, tl, rfl, _, rfl, ?_⟩
    have ebit : (V.str (cutS (tx l) (some ((a : Int) + (i : Int))) (some ((a : Int) + (i : Int) + 1))) = V.str ("1" : Str)) ↔ l[a + i]? = some true := by
      rw [show ((a : Int) + (i : Int)) = ((a + i : Nat) : Int) by omega, cut_at, tx_one]
      exact ⟨fun z => (at_is _).mp (V.str.inj z), fun z => congrArg V.str ((at_is _).mpr z)⟩
    by_cases cb : l[a + i]? = some true
    · have cb' := (om i hi).mp cb
      refine iteDT (ebit.mpr cb) ?_
      refine ⟨fun σ' H' => ∃ j : Nat, j = i + 1 ∧ σ' = [some (.int (m : Nat)), some (.str (tx l)), some (.ref D), some (.int (a : Nat)), some (.ref E), v5, some (.int (j : Nat)), v7, v8, v9, v10] ∧ H' = H3, fun σ' H' ⟨j, e0, e1, e2⟩ => ⟨kk - j, by omega, j, rfl, by omega, e1, e2⟩, ?_⟩
      exact ⟨_, rfl, _, _, rfl, rfl, i + 1, rfl, rfl, rfl⟩
    refine iteDF (fun z => cb (ebit.mp z)) ?_
    have ei : i = kk := by
      have : ¬ i < kk := fun z => cb ((om i hi).mpr z)
      omega
    subst ei
    refine ⟨_, rfl, _, rfl, _, _, rfl, rfl, _, _, rfl, rfl, _, _, rfl, ?_⟩
    have eb : (a : Int) + (i : Int) + 1 = ((a + i + 1 : Nat) : Int) := by omega
    refine ⟨7, rfl, by decide, by decide, for_range (lo := 0) (n := 7) (fun j σ H4 => ∃ (at_ : Int) (nv : V) (v9 v10 : Option V), σ = [some (.int (m : Nat)), some (.str (tx l)), some (.ref D), some (.int at_), some (.ref E), v5, some (.int (i : Nat)), some (.int ((a : Int) + (i : Int) + 1)), some nv, v9, v10] ∧ H4 = H3 ∧ ((nv = .non ∧ at_ = (a : Int) ∧ ∀ r c, r < m → c < j → a + i + 1 + c ≤ l.length → (l.drop (a + i + 1)).take c ≠ restB m r) ∨ ∃ n e : Nat, nv = .int (n : Nat) ∧ at_ = (e : Int) ∧ feN m l a = some (n, e))) ⟨_, _, _, _, rfl, rfl, .inl ⟨rfl, rfl, fun r c _ z => by omega⟩⟩ ?_ ?_⟩
    · rintro j σ H4 hj ⟨at_, nv, v9, v10, rfl, rfl, hh⟩
      have e0 : (0 : Int) + (j : Int) = ((j : Nat) : Int) := Int.zero_add _
      refine ⟨_, rfl, _, rfl, _, rfl, _, rfl, _, rfl, _, _, rfl, rfl, _, rfl, _, rfl, tl, ?_⟩
      have ep : cutS (tx l) (some ((a : Int) + (i : Int) + 1)) (some ((a : Int) + (i : Int) + 1 + (0 + (j : Int)))) = tx ((l.drop (a + i + 1)).take j) := by
        rw [e0, eb, show (((a + i + 1 : Nat) : Int) + (j : Int)) = ((a + i + 1 + j : Nat) : Int) by omega, cut_tx, Nat.add_sub_cancel_left]
      by_cases ck : ∃ r, r < m ∧ restB m r = (l.drop (a + i + 1)).take j
      · obtain ⟨r, hr, er⟩ := ck
        have g : DGet H4 E (.str (cutS (tx l) (some ((a : Int) + (i : Int) + 1)) (some ((a : Int) + (i : Int) + 1 + (0 + (j : Int)))))) (some (.int (r : Nat))) := by
          have := DGet.k (k := .inr (tx (restB m r))) eE
          rw [hkn.has r hr] at this
          rw [ep, ← er]
          exact this
        refine ⟨_, rfl, _, rfl, E, _, rfl, g, _, rfl, iteT ?_⟩
        refine ⟨_, rfl, _, rfl, tl, _, rfl, _, rfl, _, _, rfl, rfl, _, _, rfl, rfl, _, rfl, ite2 (fun cl => ?_) (fun cl => ?_)⟩
        · have cl' := of_decide_eq_true cl
          rw [tx_len, e0] at cl'
          have hhit := fe_hit hm hr hkk er.symm (by omega)
          refine ⟨_, rfl, ?_⟩
          rcases hh with ⟨rfl, rfl, hn⟩ | ⟨n, e, rfl, rfl, hf⟩
          · refine ⟨_, rfl, iteDT rfl ?_⟩
            refine ⟨_, rfl, _, rfl, _, _, rfl, rfl, .inr (by omega), _, rfl, _, rfl, E, _, rfl, g, _, _, rfl, rfl, ?_⟩
            refine ⟨_, rfl, _, rfl, _, _, rfl, rfl, ?_⟩
            refine ⟨_, _, _, _, rfl, rfl, .inr ⟨i * m + r, a + i + 1 + j, ?_, ?_, hhit⟩⟩
            · show V.int ((i : Int) * (m : Int) + (r : Int)) = _
              rw [Int.natCast_add, Int.natCast_mul]
            · show (a : Int) + (i : Int) + 1 + (0 + (j : Int)) = _
              omega
          · refine ⟨_, rfl, iteDF (fun z => by cases z) ?_⟩
            exact ⟨_, _, _, _, rfl, rfl, .inr ⟨n, e, rfl, rfl, hf⟩⟩
        · refine ⟨_, _, _, _, rfl, rfl, ?_⟩
          rcases hh with ⟨rfl, rfl, hn⟩ | hh
          · refine .inl ⟨rfl, rfl, fun r' c hr' hc hcl => ?_⟩
            by_cases e : c = j
            · subst e
              exact absurd (decide_eq_true (by rw [tx_len, e0]; omega)) cl
            · exact hn r' c hr' (by omega) hcl
          · exact .inr hh
      · have g : DGet H4 E (.str (cutS (tx l) (some ((a : Int) + (i : Int) + 1)) (some ((a : Int) + (i : Int) + 1 + (0 + (j : Int)))))) none := by
          have := DGet.k (k := .inr (tx ((l.drop (a + i + 1)).take j))) eE
          rw [hkn.no _ (fun r hr z => ck ⟨r, hr, z⟩)] at this
          rw [ep]
          exact this
        refine ⟨_, rfl, _, rfl, E, _, rfl, g, _, rfl, iteF ?_⟩
        refine ⟨_, _, _, _, rfl, rfl, ?_⟩
        rcases hh with ⟨rfl, rfl, hn⟩ | hh
        · refine .inl ⟨rfl, rfl, fun r' c hr' hc hcl z => ?_⟩
          by_cases e : c = j
          · subst e
            exact ck ⟨r', hr', z.symm⟩
          · exact hn r' c hr' (by omega) hcl z
        · exact .inr hh
    rintro σ H4 ⟨at_, nv, v9, v10, rfl, rfl, hh⟩
    refine ⟨_, rfl, ?_⟩
    rcases hh with ⟨rfl, rfl, hn⟩ | ⟨n, e, rfl, rfl, hf⟩
    · refine ⟨_, rfl, iteDT rfl ?_⟩
      have hnone : feN m l a = none := by
        cases hf : feN m l a with
        | none => rfl
        | some p =>
          obtain ⟨r, c, hr, hcw, e1, e2, e3⟩ := fe_is (n := p.1) (e := p.2) hm (by omega) hkk hf
          exact absurd e3 (hn r c hr (by omega) (by omega))
      rw [cutsF_none (fe_none hnone), List.append_nil] at hc
      exact ⟨_, rfl, k D us H4 s2 nD eD (hc ▸ hP)⟩
    · refine ⟨_, rfl, iteDF (fun z => by cases z) ?_⟩
      obtain ⟨h1, h2, _⟩ := rd_bound hm ha hf
      refine ⟨_, rfl, .inl ⟨rfl, _, .inl (.inl eD)⟩, _, rfl, _, rfl, (by show 2 ≤ sizeLine; omega), fun T nT => ?_⟩
      have s5 := same_new nT (.tup [.int (n : Nat), .int (e : Nat)])
      have nTD : T ≠ D := fun z => by rw [z, eD] at nT; cases nT
      have nTE : T ≠ E := fun z => by rw [z, eE] at nT; cases nT
      refine ⟨D, _, _, rfl, rfl, s5 _ _ eD, by rw [hP.len]; omega, ?_⟩
      have hT : (upd H4 T (.tup [.int (n : Nat), .int (e : Nat)])) T = some (.tup [.int (n : Nat), .int (e : Nat)]) := upd_same
      have eD5 := s5 _ _ eD
      have eE5 := s5 _ _ eE
      have hP5 := hP.same s5
      have S5 := s2.trans s5
      generalize upd H4 T (.tup [.int (n : Nat), .int (e : Nat)]) = H5 at *
      have nED : E ≠ D := fun z => by rw [z, eD5] at eE5; cases eE5
      have hT6 : (upd H5 D (.lst (us ++ [.ref T]))) T = some (.tup [.int (n : Nat), .int (e : Nat)]) := by rw [upd_ne nTD]; exact hT
      have hP6 : PrAt (upd H5 D (.lst (us ++ [.ref T]))) us done := ⟨hP5.len, fun i x hx => by
        obtain ⟨t, a, b⟩ := hP5.at_ i x hx
        refine ⟨t, a, ?_⟩
        rw [upd_ne (fun z => by rw [z, eD5] at b; cases b)]
        exact b⟩
      refine ⟨e, n, us ++ [.ref T], _, _, _, _, _, _, rfl, h1, h2, fun b o ho => by rw [upd_ne (ne_of_none ho nD)]; exact S5 _ _ ho, upd_same, hP6.snoc hT6, by rw [upd_ne nED]; exact eE5, ?_⟩
      rw [hc, cuts_step hm ha hf, List.append_assoc]
      rfl
end

abbrev s__law_alike : Stmt := topS 21
theorem sc__law_alike : FnScope ["_law_found", "_law_due_here", "_law_k"] ["_law_found", "_law_due_here"] (defScope s__law_alike) := ⟨rfl, rfl, rfl, by decide +kernel, rfl, by decide +kernel, by decide +kernel⟩
def tnD : PyData → String
  | .none => "NoneType" | .bool _ => "bool" | .int _ => "int" | .str _ => "str" | .list _ => "list" | .tuple _ => "tuple" | .dict _ => "dict"
theorem Dp.ty {K : PySem.W.Frag} {H : Hp} {v : V} {d : PyData} (h : Dp K H v d) : TyX K H v (.type (tnD d)) := by
  cases h with
  | non => exact .base .non
  | bl b => exact .base (.bl b)
  | int i => exact .base (.int i)
  | str x => exact .base (.str x)
  | lst h _ => exact tyL h
  | tup h _ => exact tyT h
def isLD : PyData → Bool
  | .list _ => true | _ => false
theorem kaTL {K : PySem.W.Frag} (d : PyData) : PySem.W.kitAny K (.type (tnD d)) [.type "tuple", .type "list"] = some (isTL d) := by
  have no : ∀ T : String, kitB T "tuple" = some false → kitB T "list" = some false → PySem.W.kitAny K (.type T) [.type "tuple", .type "list"] = some false := fun T h1 h2 =>
    kitAny_cons (b := false) (kit_ty h1) (fun _ => kitAny_cons (b := false) (kit_ty h2) (fun _ => rfl) (fun z => nomatch z)) (fun z => nomatch z)
  have c1 : kitB "tuple" "tuple" = some true := by decide +kernel
  have c2 : kitB "list" "tuple" = some false := by decide +kernel
  have c3 : kitB "list" "list" = some true := by decide +kernel
  cases d with
  | none => exact no "NoneType" (by decide +kernel) (by decide +kernel)
  | bool b => exact no "bool" (by decide +kernel) (by decide +kernel)
  | int b => exact no "int" (by decide +kernel) (by decide +kernel)
  | str b => exact no "str" (by decide +kernel) (by decide +kernel)
  | dict b => exact no "dict" (by decide +kernel) (by decide +kernel)
  | tuple b => exact kitAny_cons (b := true) (kit_ty c1) (fun z => nomatch z) (fun _ => rfl)
  | list b => exact kitAny_cons (b := false) (kit_ty c2) (fun _ => kitAny_cons (b := true) (kit_ty c3) (fun z => nomatch z) (fun _ => rfl)) (fun z => nomatch z)
theorem kaL {K : PySem.W.Frag} (d : PyData) : PySem.W.kitOne K (.type (tnD d)) (.type "list") = some (isLD d) := by
  have c1 : kitB "NoneType" "list" = some false := by decide +kernel
  have c2 : kitB "bool" "list" = some false := by decide +kernel
  have c3 : kitB "int" "list" = some false := by decide +kernel
  have c4 : kitB "str" "list" = some false := by decide +kernel
  have c5 : kitB "list" "list" = some true := by decide +kernel
  have c6 : kitB "tuple" "list" = some false := by decide +kernel
  have c7 : kitB "dict" "list" = some false := by decide +kernel
  cases d <;> first | exact kit_ty c1 | exact kit_ty c2 | exact kit_ty c3 | exact kit_ty c4 | exact kit_ty c5 | exact kit_ty c6 | exact kit_ty c7
theorem kit_of_names {K : PySem.W.Frag} (c : String) (g : PyData → Bool) (h : ∀ d, kitB (tnD d) c = some (g d)) (d : PyData) : PySem.W.kitOne K (.type (tnD d)) (.type c) = some (g d) := kit_ty (h d)
def isSD : PyData → Bool
  | .str _ => true | _ => false
def isID : PyData → Bool
  | .int _ => true | .bool _ => true | _ => false
def isBD : PyData → Bool
  | .bool _ => true | _ => false
theorem tab {c : String} {b1 b2 b3 b4 b5 b6 b7 : Bool} (h : kitB "NoneType" c = some b1 ∧ kitB "bool" c = some b2 ∧ kitB "int" c = some b3 ∧ kitB "str" c = some b4 ∧ kitB "list" c = some b5 ∧ kitB "tuple" c = some b6 ∧ kitB "dict" c = some b7) (d : PyData) :
    kitB (tnD d) c = some (match d with | .none => b1 | .bool _ => b2 | .int _ => b3 | .str _ => b4 | .list _ => b5 | .tuple _ => b6 | .dict _ => b7) := by
  obtain ⟨h1, h2, h3, h4, h5, h6, h7⟩ := h
  cases d <;> assumption
theorem kS {K : PySem.W.Frag} (d : PyData) : PySem.W.kitOne K (.type (tnD d)) (.type "str") = some (isSD d) := by
  have := kit_ty (K := K) (tab (c := "str") (by decide +kernel : kitB "NoneType" "str" = some false ∧ kitB "bool" "str" = some false ∧ kitB "int" "str" = some false ∧ kitB "str" "str" = some true ∧ kitB "list" "str" = some false ∧ kitB "tuple" "str" = some false ∧ kitB "dict" "str" = some false) d)
  cases d <;> exact this
theorem kI {K : PySem.W.Frag} (d : PyData) : PySem.W.kitOne K (.type (tnD d)) (.type "int") = some (isID d) := by
  have := kit_ty (K := K) (tab (c := "int") (by decide +kernel : kitB "NoneType" "int" = some false ∧ kitB "bool" "int" = some true ∧ kitB "int" "int" = some true ∧ kitB "str" "int" = some false ∧ kitB "list" "int" = some false ∧ kitB "tuple" "int" = some false ∧ kitB "dict" "int" = some false) d)
  cases d <;> exact this
theorem kB {K : PySem.W.Frag} (d : PyData) : PySem.W.kitOne K (.type (tnD d)) (.type "bool") = some (isBD d) := by
  have := kit_ty (K := K) (tab (c := "bool") (by decide +kernel : kitB "NoneType" "bool" = some false ∧ kitB "bool" "bool" = some true ∧ kitB "int" "bool" = some false ∧ kitB "str" "bool" = some false ∧ kitB "list" "bool" = some false ∧ kitB "tuple" "bool" = some false ∧ kitB "dict" "bool" = some false) d)
  cases d <;> exact this
def spA (K : PySem.W.Frag) (n : Nat) : Sp := fun vs H Q _ => ∃ (x y : V) (d : PyData) (m : Nat), vs = [x, y] ∧ n = m + 1 ∧ Dp K H x d ∧ Dp K H y d ∧ OkD m d ∧ ∀ H', Same H H' → Q (.bl true) H'
def sp__law_alike (K : PySem.W.Frag) : Sp := spA K 5
section
variable {P : Program} {w : World} {K : PySem.W.Frag} {mg : Str → Option Value} {base : Heap}
theorem ok__law_alike (A : At K mg "_law_alike" s__law_alike ["_law_found", "_law_due_here"]) (B : Bn mg) : CalE P w K mg base "_law_alike" ["_law_found", "_law_due_here"] 5 (sp__law_alike K) := by
  obtain ⟨f, fd, F, gF, bF⟩ := A
  have key : ∀ n, FnOk P w K mg base CX0 n f fd ["_law_found", "_law_due_here"] (spA K n) := by
    intro n
    induction n with
    | zero =>
      have no : ∀ vs H Q E, ¬ spA K 0 vs H Q E := fun vs H Q E h => by
        obtain ⟨x, y, d, m, _, h1, _⟩ := h
        omega
      exact ⟨fun vs H Q E h => absurd h (no vs H Q E), fun A outer s H args us vs Q E _ _ _ _ h => absurd h (no vs H Q E)⟩
    | succ n ih =>
      have G__law_alike : Cal P w K mg base "_law_alike" ["_law_found", "_law_due_here"] n (spA K n) f fd := ⟨ih, gF, F.kp, bF⟩
      refine F.ok sc__law_alike (fun vs H Q E h => ?_) (fun cdv A outer s H vs Q E hr h => ?_)
      · obtain ⟨x, y, d, m, rfl, _⟩ := h
        rfl
      obtain ⟨x, y, d, m, rfl, em, hx, hy, hd, q⟩ := h
      have em' : n = m := Nat.succ.inj em
      subst em'
      refine ⟨_, (pss_cons (ps_if (pt_val (pe_callB (call_isiT_ K) (by rfl) B.isinstance_ (by decide +kernel) (pa_cons (pv 1) (pa_cons (pe_tup (pa_cons (pe_bltn (v := .ty "tuple") (by rfl) B.tuple_ (by decide +kernel) rfl) (pa_cons (pe_bltn (v := .ty "list") (by rfl) B.list_ (by decide +kernel) rfl) pa_nil))) pa_nil))))
      (pss_cons (ps_if (PW.pt (pw_or (pt_not (pt_val (pe_callB (call_isiT_ K) (by rfl) B.isinstance_ (by decide +kernel) (pa_cons (pv 0) (pa_cons (pe_tup (pa_cons (pe_bltn (v := .ty "tuple") (by rfl) B.tuple_ (by decide +kernel) rfl) (pa_cons (pe_bltn (v := .ty "list") (by rfl) B.list_ (by decide +kernel) rfl) pa_nil))) pa_nil))))) (pw_or1 (pt_cmpR op_ne (pe_callB (call_isi_ K) (by rfl) B.isinstance_ (by decide +kernel) (pa_cons (pv 0) (pa_cons (pe_bltn (v := .ty "list") (by rfl) B.list_ (by decide +kernel) rfl) pa_nil))) (pe_callB (call_isi_ K) (by rfl) B.isinstance_ (by decide +kernel) (pa_cons (pv 1) (pa_cons (pe_bltn (v := .ty "list") (by rfl) B.list_ (by decide +kernel) rfl) pa_nil))) (nomark _)))))
      (pss_one (ps_ret pe_bl))
      pss_nil)
      (pss_cons (ps_if (pt_cmpR op_ne (pe_callB (call_len_ K) (by rfl) B.len_ (by decide +kernel) (pa_cons (pv 0) pa_nil)) (pe_callB (call_len_ K) (by rfl) B.len_ (by decide +kernel) (pa_cons (pv 1) pa_nil)) (nomark _))
      (pss_one (ps_ret pe_bl))
      pss_nil)
      (pss_one (ps_ret (pe_cmpR (op_eqD_ K hr.units) (pe_lc (own := [("_law_k", 2)]) (g := gName 2) (tt := _) rfl sc__law_alike.nd (pi_range1 (by rfl) B.range_ (pa_cons (pe_callB (call_len_ K) (by rfl) B.len_ (by decide +kernel) (pa_cons (pv 1) pa_nil)) pa_nil)) (blkOk_by (own := [("_law_k", 2)]) (N := ["_law_found", "_law_due_here", "_law_k"]) (sc := defScope s__law_alike) (by decide +kernel)) (fun _ _ _ _ _ => (pg_name (i := 2) sc__law_alike.nd rfl (.inl rfl))) (fun _ _ _ _ _ => (pts_one (pt_not (pt_val (pe_call G__law_alike.ok (hr.mono (by first | decide | exact Nat.le_refl _)) (by rfl) G__law_alike.g G__law_alike.kp G__law_alike.b .nil pass0 (pa_cons (pe_ix (ix_seq_ K) (pv 0) (pv 2) (fun _ _ => rfl)) (pa_cons (pe_ix (ix_seq_ K) (pv 1) (pv 2) (fun _ _ => rfl)) pa_nil))))))) (fun _ _ _ _ _ => (pv 2))) (pe_lst pa_nil) (nomark _))))))
      pss_nil)
      (pss_cons (ps_if (PW.pt (pw_or (pt_cmp (pc_isN (pv 1))) (pw_or1 (pt_val (pe_callB (call_isi_ K) (by rfl) B.isinstance_ (by decide +kernel) (pa_cons (pv 1) (pa_cons (pe_bltn (v := .ty "str") (by rfl) B.str_ (by decide +kernel) rfl) pa_nil)))))))
      (pss_one (ps_ret (pe_and (pe_cmpR op_eq (pv 0) (pv 1) (nomark _)) (pe_one (pe_cmpR op_eq (pe_callB (call_isi_ K) (by rfl) B.isinstance_ (by decide +kernel) (pa_cons (pv 0) (pa_cons (pe_bltn (v := .ty "str") (by rfl) B.str_ (by decide +kernel) rfl) pa_nil))) (pe_callB (call_isi_ K) (by rfl) B.isinstance_ (by decide +kernel) (pa_cons (pv 1) (pa_cons (pe_bltn (v := .ty "str") (by rfl) B.str_ (by decide +kernel) rfl) pa_nil))) (nomark _))))))
      pss_nil)
      (pss_one (ps_ret (pe_and (pe_callB (call_isi_ K) (by rfl) B.isinstance_ (by decide +kernel) (pa_cons (pv 0) (pa_cons (pe_bltn (v := .ty "int") (by rfl) B.int_ (by decide +kernel) rfl) pa_nil))) (pe_and (pe_cmpR op_eq (pe_callB (call_isi_ K) (by rfl) B.isinstance_ (by decide +kernel) (pa_cons (pv 0) (pa_cons (pe_bltn (v := .ty "bool") (by rfl) B.bool_ (by decide +kernel) rfl) pa_nil))) (pe_callB (call_isi_ K) (by rfl) B.isinstance_ (by decide +kernel) (pa_cons (pv 1) (pa_cons (pe_bltn (v := .ty "bool") (by rfl) B.bool_ (by decide +kernel) rfl) pa_nil))) (nomark _)) (pe_one (pe_cmpR op_eq (pv 0) (pv 1) (nomark _))))))))), ?_⟩
      -- isinstance(due, (tuple, list))
      refine ⟨_, rfl, (by show 2 ≤ sizeLine; decide), fun p np => ?_⟩
      have s1 := same_new np (.tup [.ty "tuple", .ty "list"])
      have x1 := Dp.same s1 hx
      have y1 := Dp.same s1 hy
      have two : ([V.ty "tuple", V.ty "list"] : List V).length ≤ sizeLine := by show 2 ≤ sizeLine; decide
      refine ⟨_, p, _, _, _, _, rfl, upd_same, .cons (.ty _) (.cons (.ty _) .nil), Dp.ty y1, kaTL d, _, rfl, ?_⟩
      have flat : isTL d = false → (d = .none ∨ (∃ b, d = .bool b) ∨ (∃ i, d = .int i) ∨ ∃ z, d = .str z) := by
        intro h
        cases d with
        | none => exact .inl rfl
        | bool b => exact .inr (.inl ⟨b, rfl⟩)
        | int i => exact .inr (.inr (.inl ⟨i, rfl⟩))
        | str z => exact .inr (.inr (.inr ⟨z, rfl⟩))
        | list _ => cases h
        | tuple _ => cases h
        | dict _ => cases hy
      cases hd0 : isTL d with
      | true =>
        refine iteT ?_
        -- not isinstance(found, (tuple, list)) or isinstance(found, list) != isinstance(due, list)
        refine ⟨_, rfl, two, fun p2 np2 => ?_⟩
        have s2 := same_new np2 (.tup [.ty "tuple", .ty "list"])
        refine ⟨_, p2, _, _, _, _, rfl, upd_same, .cons (.ty _) (.cons (.ty _) .nil), Dp.ty (Dp.same s2 x1), kaTL d, _, rfl, ?_⟩
        have x2 := Dp.same s2 x1
        have y2 := Dp.same s2 y1
        have s3 := s1.trans s2
        generalize upd (upd H p (.tup [.ty "tuple", .ty "list"])) p2 (.tup [.ty "tuple", .ty "list"]) = H2 at *
        rw [hd0]
        refine iteF ?_
        refine ⟨_, rfl, _, _, _, _, _, rfl, .ty _, Dp.ty x2, kaL d, _, rfl, _, _, _, _, _, rfl, .ty _, Dp.ty y2, kaL d, rfl, _, rfl, ?_⟩
        refine iteNS rfl ?_
        obtain ⟨a, xs, ds, rfl, ha, da⟩ := Dp.seq x2 hd0
        obtain ⟨b, ys, es, rfl, hb, db⟩ := Dp.seq y2 hd0
        have ee : es = ds := by
          rcases ha with ⟨e1, _⟩ | ⟨e1, _⟩ <;> rcases hb with ⟨e2, _⟩ | ⟨e2, _⟩
          · exact PyData.list.inj (e2.symm.trans e1)
          · cases e2.symm.trans e1
          · cases e2.symm.trans e1
          · exact PyData.tuple.inj (e2.symm.trans e1)
        subst ee
        have qa : SqL K H2 a xs ∨ SqT K H2 a xs := ha.elim (fun z => .inl z.2) (fun z => .inr z.2)
        have qb : SqL K H2 b ys ∨ SqT K H2 b ys := hb.elim (fun z => .inl z.2) (fun z => .inr z.2)
        have lx : xs.length = es.length := DpAll.length da
        have ly : ys.length = es.length := DpAll.length db
        obtain ⟨n', rfl, hsz, hok⟩ : ∃ n', n = n' + 1 ∧ es.length ≤ 1000000 ∧ ∀ d ∈ es, OkD n' d := by
          cases n with
          | zero => rcases ha with ⟨rfl, _⟩ | ⟨rfl, _⟩ <;> exact absurd hd id
          | succ n' => rcases ha with ⟨rfl, _⟩ | ⟨rfl, _⟩ <;> exact ⟨n', rfl, hd.1, hd.2⟩
        have La : ∀ H3, Same H2 H3 → LenV K (.ref a) H3 es.length := fun H3 s => qa.elim (fun z => .inl ⟨_, s.seq z, lx.symm⟩) (fun z => .inr ⟨_, Same.seqT s z, lx.symm⟩)
        have Lb : ∀ H3, Same H2 H3 → LenV K (.ref b) H3 es.length := fun H3 s => qb.elim (fun z => .inl ⟨_, s.seq z, ly.symm⟩) (fun z => .inr ⟨_, Same.seqT s z, ly.symm⟩)
        -- len(found) != len(due)
        refine ⟨_, rfl, _, es.length, rfl, La _ (Same.refl _), _, rfl, _, es.length, rfl, Lb _ (Same.refl _), rfl, _, rfl, iteNS rfl ?_⟩
        -- the comprehension
        refine ⟨_, rfl, _, es.length, rfl, Lb _ (Same.refl _), (es.length : Int), rfl, by omega, by omega, fun D nD => ?_⟩
        refine lc_range (lo := 0) (n := es.length) (fun i H' => Same H2 H' ∧ H' D = some (.lst [])) ⟨same_new nD _, upd_same⟩ ?_ ?_
        · rintro i H3 hi ⟨s4, eD⟩
          have hdi : es[i]? = some es[i] := List.getElem?_eq_getElem hi
          obtain ⟨u, hu, du⟩ := DpAll.get da hdi
          obtain ⟨v, hv, dv⟩ := DpAll.get db hdi
          have ei : (0 : Int) + (i : Int) = ((i : Nat) : Int) := Int.zero_add _
          refine ⟨rfl, _, rfl, _, rfl, ?_⟩
          have g1 : rIx K (.ref a) (.int (0 + (i : Int))) H3 = fun Q => rIx K (.ref a) (.int (0 + (i : Int))) H3 Q := rfl
          have ra : ∀ Q : VK, Q u H3 → rIx K (.ref a) (.int (0 + (i : Int))) H3 Q := fun Q q => qa.elim (fun z => .inl ⟨a, xs, _, u, rfl, rfl, s4.seq z, at_of ei hu, q⟩) (fun z => .inr (.inl ⟨a, xs, _, u, rfl, rfl, Same.seqT s4 z, at_of ei hu, q⟩))
          have rb : ∀ Q : VK, Q v H3 → rIx K (.ref b) (.int (0 + (i : Int))) H3 Q := fun Q q => qb.elim (fun z => .inl ⟨b, ys, _, v, rfl, rfl, s4.seq z, at_of ei hv, q⟩) (fun z => .inr (.inl ⟨b, ys, _, v, rfl, rfl, Same.seqT s4 z, at_of ei hv, q⟩))
          refine ra _ ?_
          refine ⟨_, rfl, _, rfl, rb _ ?_⟩
          refine ⟨u, v, es[i], n', rfl, rfl, Dp.same s4 du, Dp.same s4 dv, hok _ (List.getElem_mem hi), fun H4 s5 => ?_⟩
          refine ⟨_, rfl, iteF ?_⟩
          exact ⟨s4.trans s5, s5 _ _ eD⟩
        · rintro H3 ⟨s4, eD⟩
          refine ⟨(by show 0 ≤ sizeLine; decide), fun l nl => ?_⟩
          have s5 := same_new nl (.lst [])
          refine ⟨.list [], .list [], .lst (.inl (.inl (s5 _ _ eD))) .nil, .lst (.inl (.inl upd_same)) .nil, by decide +kernel, by decide +kernel, ?_⟩
          have e : PyData.eqv (.list []) (.list []) = true := by decide +kernel
          rw [e]
          exact q _ (s3.trans (s4.trans s5))
      | false =>
        refine iteF ?_
        have cS : ∀ H3 (Q : VK), Same H H3 → Q (.bl true) H3 → (tOp rEq (tCB (rIsi K) (tCons (tVar 0) (tCons (tC (V.ty "str")) tNil))) (tCB (rIsi K) (tCons (tVar 1) (tCons (tC (V.ty "str")) tNil)))) [some x, some y, none] H3 Q := fun H3 Q s q => by
          refine ⟨_, rfl, _, _, _, _, _, rfl, .ty _, Dp.ty (Dp.same s hx), kS d, _, rfl, _, _, _, _, _, rfl, .ty _, Dp.ty (Dp.same s hy), kS d, rfl, ?_⟩
          rw [decide_eq_true rfl]
          exact q
        have cB : ∀ H3 (Q : VK), Same H H3 → Q (.bl true) H3 → (tOp rEq (tCB (rIsi K) (tCons (tVar 0) (tCons (tC (V.ty "bool")) tNil))) (tCB (rIsi K) (tCons (tVar 1) (tCons (tC (V.ty "bool")) tNil)))) [some x, some y, none] H3 Q := fun H3 Q s q => by
          refine ⟨_, rfl, _, _, _, _, _, rfl, .ty _, Dp.ty (Dp.same s hx), kB d, _, rfl, _, _, _, _, _, rfl, .ty _, Dp.ty (Dp.same s hy), kB d, rfl, ?_⟩
          rw [decide_eq_true rfl]
          exact q
        have exy : x = y ∧ scal x y = true := by
          rcases flat hd0 with rfl | ⟨b, rfl⟩ | ⟨i, rfl⟩ | ⟨z, rfl⟩ <;> cases hx <;> cases hy <;> exact ⟨rfl, rfl⟩
        obtain ⟨rfl, hsc⟩ := exy
        -- due is None or isinstance(due, str)
        refine ⟨_, rfl, _, rfl, ?_⟩
        have fin : ∀ b : Bool, (b = true → isSD d = true ∨ x = .non) → (b = false → isID d = true) → (fun b H1 => if b = true then tRet (tAndV (tOp rEq (tVar 0) (tVar 1)) (tOp rEq (tCB (rIsi K) (tCons (tVar 0) (tCons (tC (V.ty "str")) tNil))) (tCB (rIsi K) (tCons (tVar 1) (tCons (tC (V.ty "str")) tNil)))))
            { nx := fun _ _ => False, rt := Q } [some x, some x, none] H1 else tRet (tAndV (tCB (rIsi K) (tCons (tVar 0) (tCons (tC (V.ty "int")) tNil))) (tAndV (tOp rEq (tCB (rIsi K) (tCons (tVar 0) (tCons (tC (V.ty "bool")) tNil))) (tCB (rIsi K) (tCons (tVar 1) (tCons (tC (V.ty "bool")) tNil)))) (tOp rEq (tVar 0) (tVar 1)))) { nx := fun _ _ => False, rt := Q } [some x, some x, none] H1) b (upd H p (.tup [.ty "tuple", .ty "list"])) := by
          intro b h1 h2
          cases b with
          | true =>
            refine iteT ?_
            refine ⟨_, rfl, _, rfl, hsc, _, rfl, iteDT rfl ?_⟩
            exact cS _ _ s1 (q _ s1)
          | false =>
            refine iteF ?_
            refine ⟨_, rfl, _, _, _, _, _, rfl, .ty _, Dp.ty x1, kI d, _, rfl, ?_⟩
            rw [h2 rfl]
            refine iteT (cB _ _ s1 ⟨_, rfl, iteT ⟨_, rfl, _, rfl, hsc, ?_⟩⟩)
            rw [decide_eq_true rfl]
            exact q _ s1
        by_cases c : x = .non
        · exact iteDT c (fin true (fun _ => .inr c) (fun z => nomatch z))
        · refine iteDF c ?_
          refine ⟨_, rfl, _, _, _, _, _, rfl, .ty _, Dp.ty y1, kS d, _, rfl, fin _ (fun z => .inl z) (fun z => ?_)⟩
          rcases flat hd0 with rfl | ⟨b, rfl⟩ | ⟨i, rfl⟩ | ⟨w, rfl⟩
          · cases hx
            exact absurd rfl c
          · rfl
          · rfl
          · cases z
  exact ⟨f, fd, key 5, gF, F.kp, bF⟩
end

abbrev s_power_of_two : Stmt := topS 13
theorem sc_power_of_two : FnScope ["times"] ["times"] (defScope s_power_of_two) := ⟨rfl, rfl, rfl, by decide +kernel, rfl, by decide +kernel, by decide +kernel⟩
def sp_power_of_two (K : PySem.W.Frag) : Sp := fun vs H Q _ => ∃ t : Nat, vs = [.int (t : Nat)] ∧ t ≤ 1000 ∧ Q (.int ((2 ^ t : Nat) : Int)) H
section
variable {P : Program} {w : World} {K : PySem.W.Frag} {mg : Str → Option Value} {base : Heap}
theorem ok_power_of_two (A : At K mg "power_of_two" s_power_of_two ["times"]) (B : Bn mg) : CalE P w K mg base "power_of_two" ["times"] 1 (sp_power_of_two K) := by
  obtain ⟨f, fd, F, gF, bF⟩ := A
  refine ⟨f, fd, F.ok sc_power_of_two (fun vs H Q E h => ?_) (fun cdv A outer s H vs Q E hr h => ?_), gF, F.kp, bF⟩
  · repeat (first | (obtain ⟨rfl, _⟩ := h; rfl) | (obtain ⟨_, h⟩ := h))
  · obtain ⟨t, rfl, ht, k⟩ := h
    refine ⟨_, (pss_one (ps_ret (pe_op op_shl pe_int (pv 0)))), ?_⟩
    refine ⟨_, rfl, _, _, rfl, rfl, ⟨by omega, by omega, by decide⟩, ?_⟩
    have e : (1 : Int) * 2 ^ ((t : Int)).toNat = ((2 ^ t : Nat) : Int) := by
      rw [Int.one_mul, Int.toNat_natCast, Int.natCast_pow]
      rfl
    show Q (.int ((1 : Int) * 2 ^ ((t : Int)).toNat)) H
    rw [e]
    exact k
end

abbrev s_wide : Stmt := topS 12
theorem sc_wide : FnScope ["step", "found"] ["step"] (defScope s_wide) := ⟨rfl, rfl, rfl, by decide +kernel, rfl, by decide +kernel, by decide +kernel⟩
def sp_wide (K : PySem.W.Frag) : Sp := fun vs H Q _ => ∃ m : Nat, vs = [.int (m : Nat)] ∧ m ≤ 64 ∧ Q (.int (wideN m : Nat)) H
section
variable {P : Program} {w : World} {K : PySem.W.Frag} {mg : Str → Option Value} {base : Heap}
theorem ok_wide (A : At K mg "wide" s_wide ["step"]) (B : Bn mg) (H_power_of_two : CalE P w K mg base "power_of_two" ["times"] 1 (sp_power_of_two K)) : CalE P w K mg base "wide" ["step"] 2 (sp_wide K) := by
  obtain ⟨f, fd, F, gF, bF⟩ := A
  obtain ⟨f_power_of_two, fd_power_of_two, G_power_of_two⟩ := H_power_of_two
  refine ⟨f, fd, F.ok sc_wide (fun vs H Q E h => ?_) (fun cdv A outer s H vs Q E hr h => ?_), gF, F.kp, bF⟩
  · repeat (first | (obtain ⟨rfl, _⟩ := h; rfl) | (obtain ⟨_, h⟩ := h))
  · obtain ⟨m, rfl, hm, k⟩ := h
    have h6 := wide_64 hm
    refine ⟨_, (pss_cons (ps_set (i := 1) sc_wide.nd rfl (.inl rfl) pe_int)
      (pss_cons (ps_while PassesOwn.never (pt_cmpR op_lt (pe_call G_power_of_two.ok (hr.mono (by first | decide | exact Nat.le_refl _)) (by rfl) G_power_of_two.g G_power_of_two.kp G_power_of_two.b .nil pass0 (pa_cons (pv 1) pa_nil)) (pv 0) (nomark _))
      (pss_one (ps_aug (i := 1) sc_wide.nd rfl (.inl rfl) pe_int ip_add)))
      (pss_one (ps_ret (pv 1))))), ?_⟩
    refine ⟨fun n σ H2 => ∃ c : Nat, n = 6 - c ∧ σ = [some (.int (m : Nat)), some (.int (c : Nat))] ∧ (∀ d, d < c → 2 ^ d < m) ∧ c ≤ 6 ∧ H2 = H, ⟨6, 0, rfl, rfl, fun d h => by omega, by decide, rfl⟩, ?_⟩
    rintro n σ H2 ⟨c, rfl, rfl, hc, c6, rfl⟩
    refine ⟨_, rfl, c, rfl, by omega, _, rfl, _, _, rfl, rfl, _, rfl, ite2 (fun z => ?_) (fun z => ?_)⟩
    · have z' : 2 ^ c < m := Int.ofNat_lt.mp (of_decide_eq_true z)
      have c5 : c < 6 := by
        refine Nat.not_le.mp fun y => ?_
        have : c = 6 := by omega
        subst this
        omega
      refine ⟨fun σ' H' => ∃ c' : Nat, c' = c + 1 ∧ σ' = [some (.int (m : Nat)), some (.int (c' : Nat))] ∧ H' = H2, fun σ' H' ⟨c', e0, e1, e2⟩ => ⟨6 - c', by omega, c', rfl, e1, fun d hd => ?_, by omega, e2⟩, ?_⟩
      · by_cases hd' : d = c
        · exact hd' ▸ z'
        · exact hc d (by omega)
      exact ⟨_, rfl, _, _, rfl, rfl, c + 1, rfl, rfl, rfl⟩
    · have z' : m ≤ 2 ^ c := Nat.not_lt.mp fun y => z (decide_eq_true (Int.ofNat_lt.mpr y))
      rw [wide_eq z' hc] at k
      exact ⟨_, rfl, k⟩
end

abbrev s_first_end : Stmt := topS 14
theorem sc_first_end : FnScope ["step", "text", "begin", "at", "many", "short", "ones", "rest", "place", "end"] ["step", "text", "begin"] (defScope s_first_end) := ⟨rfl, rfl, rfl, by decide +kernel, rfl, by decide +kernel, by decide +kernel⟩
def sp_first_end (K : PySem.W.Frag) : Sp := fun vs H Q _ => ∃ (m : Nat) (l : List Bool) (b : Nat), vs = [.int (m : Nat), .str (tx l), .int (b : Nat)] ∧ 1 ≤ m ∧ m ≤ 64 ∧ l.length ≤ 100000 ∧ b ≤ l.length ∧
  (∀ n e, feN m l b = some (n, e) → ∀ p H', Same H H' → H p = none → H' p = some (.tup [.int (n : Nat), .int (e : Nat)]) → Q (.ref p) H') ∧ (feN m l b = none → Q .non H)
theorem max0 (c : Nat) : (if (c : Int) - 1 > 0 then (c : Int) - 1 else 0) = ((c - 1 : Nat) : Int) := by
  split <;> omega
section
variable {P : Program} {w : World} {K : PySem.W.Frag} {mg : Str → Option Value} {base : Heap}
theorem ok_first_end (A : At K mg "first_end" s_first_end ["step", "text", "begin"]) (B : Bn mg) (H_wide : CalE P w K mg base "wide" ["step"] 2 (sp_wide K)) (H_power_of_two : CalE P w K mg base "power_of_two" ["times"] 1 (sp_power_of_two K)) : CalE P w K mg base "first_end" ["step", "text", "begin"] 3 (sp_first_end K) := by
  obtain ⟨f, fd, F, gF, bF⟩ := A
  obtain ⟨f_wide, fd_wide, G_wide⟩ := H_wide
  obtain ⟨f_power_of_two, fd_power_of_two, G_power_of_two⟩ := H_power_of_two
  refine ⟨f, fd, F.ok sc_first_end (fun vs H Q E h => ?_) (fun cdv A outer s H vs Q E hr h => ?_), gF, F.kp, bF⟩
  · repeat (first | (obtain ⟨rfl, _⟩ := h; rfl) | (obtain ⟨_, h⟩ := h))
  · obtain ⟨m, l, b, rfl, hm, h64, hl, hb, k1, k2⟩ := h
    have hsz := sizeLine_eq
    have h6 := wide_64 h64
    have es : ((2 ^ wideN m : Nat) : Int) - (m : Int) = ((shortN m : Nat) : Int) := by
      unfold shortN
      have := wide_le m
      omega
    have ol := ones_le (l.drop b)
    rw [List.length_drop] at ol
    have bits : ∀ (i : Nat) (A B : Prop), (l[i]? = some true → A) → (l[i]? ≠ some true → B) → (if decide (V.str (cutS (tx l) (some (i : Int)) (some ((i : Int) + 1))) = V.str ("1" : Str)) = true then A else B) := by
      intro i A B h1 h2
      have e : (V.str (cutS (tx l) (some (i : Int)) (some ((i : Int) + 1))) = V.str ("1" : Str)) ↔ l[i]? = some true := by
        rw [cut_at, tx_one]
        exact ⟨fun z => (at_is _).mp (V.str.inj z), fun z => congrArg V.str ((at_is _).mpr z)⟩
      by_cases c : l[i]? = some true
      · exact iteDT (e.mpr c) (h1 c)
      · exact iteDF (fun z => c (e.mp z)) (h2 c)
    have tl : (tx l).length ≤ sizeLine := by rw [tx_len]; omega
    have dg : ∀ i, (l.drop b)[i]? = l[b + i]? := fun i => List.getElem?_drop
    have rp := rd_pv m (l.drop b)
    have dd : (l.drop b).drop (onesN (l.drop b) + 1) = l.drop (b + (onesN (l.drop b) + 1)) := by rw [List.drop_drop]
    have ld : (l.drop b).length = l.length - b := List.length_drop
    rw [dd, ld] at rp
    have feq : feN m l b = (rd m (l.drop b)).map fun p => (p.1, b + p.2) := rfl
    generalize hk : onesN (l.drop b) = kk at *
    refine ⟨_, (pss_cons (ps_set (i := 3) sc_first_end.nd rfl (.inl rfl) (pv 2))
      (pss_cons (ps_while PassesOwn.never (pt_cmpR op_eq (pe_slice sl_str (pv 1) (po_some (pv 3)) (po_some (pe_op op_add (pv 3) pe_int))) pe_str (nomark _))
      (pss_one (ps_aug (i := 3) sc_first_end.nd rfl (.inl rfl) pe_int ip_add)))
      (pss_cons (ps_set (i := 4) sc_first_end.nd rfl (.inl rfl) (pe_call G_wide.ok (hr.mono (by first | decide | exact Nat.le_refl _)) (by rfl) G_wide.g G_wide.kp G_wide.b .nil pass0 (pa_cons (pv 0) pa_nil)))
      (pss_cons (ps_set (i := 5) sc_first_end.nd rfl (.inl rfl) (pe_op op_sub (pe_call G_power_of_two.ok (hr.mono (by first | decide | exact Nat.le_refl _)) (by rfl) G_power_of_two.g G_power_of_two.kp G_power_of_two.b .nil pass0 (pa_cons (pv 4) pa_nil)) (pv 0)))
      (pss_cons (ps_if (pt_cmpR op_ge (pv 3) (pe_callB call_len_str_ (by rfl) B.len_ (by decide +kernel) (pa_cons (pv 1) pa_nil)) (nomark _))
      (pss_one (ps_ret pe_non))
      pss_nil)
      (pss_cons (ps_par3 (i := 6) (j := 3) (l := 7) (by rfl) sc_first_end.nd rfl rfl rfl (by decide) (by decide) (by decide) rfl rfl rfl (pa_cons (pe_op op_sub (pv 3) (pv 2)) (pa_cons (pe_op op_add (pv 3) pe_int) (pa_cons pe_int pa_nil))) (by rfl))
      (pss_cons (ps_for PassesOwn.never rfl (pi_range1 (by rfl) B.range_ (pa_cons (pe_op op_sub (pv 4) pe_int) pa_nil)) (pg_name (i := 8) sc_first_end.nd rfl (.inl rfl))
      (pss_one (ps_set (i := 7) sc_first_end.nd rfl (.inl rfl) (pe_op op_add (pe_op op_mul pe_int (pv 7)) (pe_ifExp (pt_cmpR op_eq (pe_slice sl_str (pv 1) (po_some (pe_op op_add (pv 3) (pv 8))) (po_some (pe_op op_add (pe_op op_add (pv 3) (pv 8)) pe_int))) pe_str (nomark _)) pe_int pe_int)))))
      (pss_cons (ps_set (i := 9) sc_first_end.nd rfl (.inl rfl) (pe_op op_add (pv 3) (pe_callB (call_max2 rfl) (by rfl) B.max_ (by decide +kernel) (pa_cons pe_int (pa_cons (pe_op op_sub (pv 4) pe_int) pa_nil)))))
      (pss_cons (ps_if (PW.pt (pw_and (pt_cmpR op_gt (pv 4) pe_int (nomark _)) (pw_and1 (pt_cmpR op_ge (pv 7) (pv 5) (nomark _)))))
      (pss_cons (ps_set (i := 7) sc_first_end.nd rfl (.inl rfl) (pe_op op_sub (pe_op op_add (pe_op op_mul pe_int (pv 7)) (pe_ifExp (pt_cmpR op_eq (pe_slice sl_str (pv 1) (po_some (pv 9)) (po_some (pe_op op_add (pv 9) pe_int))) pe_str (nomark _)) pe_int pe_int)) (pv 5)))
      (pss_one (ps_aug (i := 9) sc_first_end.nd rfl (.inl rfl) pe_int ip_add)))
      pss_nil)
      (pss_one (ps_ret (pe_ifExp (pt_cmpR op_le (pv 9) (pe_callB call_len_str_ (by rfl) B.len_ (by decide +kernel) (pa_cons (pv 1) pa_nil)) (nomark _)) (pe_tup (pa_cons (pe_op op_add (pe_op op_mul (pv 6) (pv 0)) (pv 7)) (pa_cons (pv 9) pa_nil))) pe_non)))))))))))), ?_⟩
    refine ⟨_, rfl, ?_⟩
    -- while text[at:at + 1] == "1"
    refine ⟨fun x σ H2 => ∃ i : Nat, x = kk - i ∧ i ≤ kk ∧ σ = [some (.int (m : Nat)), some (.str (tx l)), some (.int (b : Nat)), some (.int ((b + i : Nat) : Int)), none, none, none, none, none, none] ∧ H2 = H, ⟨kk, 0, rfl, Nat.zero_le _, rfl, rfl⟩, ?_⟩
    rintro x σ H2 ⟨i, rfl, hi, rfl, rfl⟩
    refine ⟨_, rfl, _, rfl, _, rfl, _, rfl, _, _, rfl, rfl, _, rfl, _, rfl, tl, rfl, _, rfl, ?_⟩
    have oa := ones_at (l.drop b) i (by omega)
    rw [dg, hk] at oa
    refine bits (b + i) _ _ (fun c => ?_) (fun c => ?_)
    · have c' := oa.mp c
      refine ⟨fun σ' H' => ∃ j : Nat, j = i + 1 ∧ σ' = [some (.int (m : Nat)), some (.str (tx l)), some (.int (b : Nat)), some (.int ((b + j : Nat) : Int)), none, none, none, none, none, none] ∧ H' = H2, fun σ' H' ⟨j, e0, e1, e2⟩ => ⟨kk - j, by omega, j, rfl, by omega, e1, e2⟩, ?_⟩
      exact ⟨_, rfl, _, _, rfl, rfl, i + 1, rfl, rfl, rfl⟩
    have c' : i = kk := by
      have : ¬ i < kk := fun z => c (oa.mpr z)
      omega
    subst c'
    -- many, short
    refine ⟨_, rfl, m, rfl, h64, ?_⟩
    refine ⟨_, rfl, wideN m, rfl, by omega, _, rfl, _, _, rfl, rfl, ?_⟩
    -- if at >= len(text)
    refine ⟨_, rfl, _, rfl, _, rfl, tl, _, _, rfl, rfl, _, rfl, ite2 (fun z => ?_) (fun z => ?_)⟩
    · have z' := of_decide_eq_true z
      rw [tx_len] at z'
      refine k2 ?_
      rw [feq, rp, if_pos (by omega)]
      rfl
    have z' : ¬ (l.length ≤ b + i) := fun y => z (decide_eq_true (by rw [tx_len]; omega))
    rw [if_neg (by omega)] at rp
    -- ones, at, rest = at - begin, at + 1, 0
    refine ⟨_, rfl, _, rfl, _, _, rfl, rfl, _, rfl, _, _, rfl, rfl, _, _, _, rfl, ?_⟩
    -- the figures
    have e3 : ((b + i : Nat) : Int) - (b : Int) = (i : Int) := by omega
    refine ⟨_, rfl, _, _, rfl, rfl, _, rfl, by omega, by omega, ?_⟩
    rw [show (((wideN m : Nat) : Int) - 1).toNat = wideN m - 1 by omega]
    refine for_range (lo := 0) (n := wideN m - 1) (fun j σ H3 => ∃ v, σ = [some (.int (m : Nat)), some (.str (tx l)), some (.int (b : Nat)), some (.int ((b + i + 1 : Nat) : Int)), some (.int (wideN m : Nat)), some (.int (shortN m : Nat)), some (.int (i : Nat)), some (.int (pvN (l.drop (b + (i + 1))) j : Nat)), v, none] ∧ H3 = H2) ⟨none, ?_, rfl⟩ ?_ ?_
    · show [some (V.int (m : Int)), some (.str (tx l)), some (.int (b : Int)), some (.int (((b + i : Nat) : Int) + 1)), some (.int (wideN m : Nat)), some (.int (((2 ^ wideN m : Nat) : Int) - (m : Int))), some (.int (((b + i : Nat) : Int) - (b : Int))), some (.int 0), none, none] = _
      rw [es, e3]
      rfl
    · rintro j σ H3 hj ⟨v, rfl, rfl⟩
      have ej : ((b + i + 1 : Nat) : Int) + (0 + (j : Int)) = ((b + i + 1 + j : Nat) : Int) := by omega
      refine ⟨_, rfl, _, _, rfl, rfl, .inl (by omega), _, rfl, _, rfl, _, rfl, _, _, rfl, rfl, _, rfl, _, rfl, _, rfl, _, _, rfl, rfl, _, _, rfl, rfl, _, rfl, _, rfl, tl, rfl, _, rfl, ?_⟩
      show (if decide (V.str (cutS (tx l) (some (((b + i + 1 : Nat) : Int) + (0 + (j : Int)))) (some (((b + i + 1 : Nat) : Int) + (0 + (j : Int)) + 1))) = V.str ("1" : Str)) = true then _ else _)
      rw [ej]
      have eb : (l.drop (b + (i + 1)))[j]? = l[b + i + 1 + j]? := by
        rw [List.getElem?_drop]
        congr 1
      refine bits (b + i + 1 + j) _ _ (fun c => ?_) (fun c => ?_)
      · refine ⟨_, _, rfl, rfl, some (.int (0 + (j : Int))), ?_, rfl⟩
        have e : pvN (l.drop (b + (i + 1))) (j + 1) = 2 * pvN (l.drop (b + (i + 1))) j + 1 := by
          rw [pvN]
          unfold bitN
          rw [eb, if_pos c]
        rw [e]
        rfl
      · refine ⟨_, _, rfl, rfl, some (.int (0 + (j : Int))), ?_, rfl⟩
        have e : pvN (l.drop (b + (i + 1))) (j + 1) = 2 * pvN (l.drop (b + (i + 1))) j + 0 := by
          rw [pvN]
          unfold bitN
          rw [eb, if_neg c]
        rw [e]
        rfl
    · rintro σ H3 ⟨v, rfl, rfl⟩
      have pl := pvN_lt (l.drop (b + (i + 1))) (wideN m - 1)
      generalize hpv : pvN (l.drop (b + (i + 1))) (wideN m - 1) = r at *
      -- end = at + max(0, many - 1)
      refine ⟨_, rfl, _, rfl, _, _, rfl, rfl, _, _, rfl, ?_⟩
      show rI0 (fun i j => V.int (i + j)) (.int ((b + i + 1 : Nat) : Int)) (.int (if ((wideN m : Nat) : Int) - 1 > 0 then ((wideN m : Nat) : Int) - 1 else 0)) _ _
      rw [max0]
      refine ⟨_, _, rfl, rfl, ?_⟩
      have ee : ((b + i + 1 : Nat) : Int) + ((wideN m - 1 : Nat) : Int) = ((b + (i + 1 + (wideN m - 1)) : Nat) : Int) := by omega
      -- the end, whichever way
      have fin : ∀ (e r' : Nat) (v8 : Option V), rd m (l.drop b) = (if e ≤ l.length then some (i * m + r', e - b) else none) → b ≤ e →
          tRet (tIf (tTest (tOp (rI0 fun i j => V.bl (decide (i ≤ j))) (tVar 9) (tCB rLenS (tCons (tVar 1) tNil)))) (tTup (tCons (tOp (rI0 fun i j => V.int (i + j)) (tOp (rI CMul fun i j => V.int (i * j)) (tVar 6) (tVar 0)) (tVar 7)) (tCons (tVar 9) tNil))) (tC .non)) { nx := fun _ H' => Q .non H', rt := Q }
            [some (.int (m : Nat)), some (.str (tx l)), some (.int (b : Nat)), some (.int ((b + i + 1 : Nat) : Int)), some (.int (wideN m : Nat)), some (.int (shortN m : Nat)), some (.int (i : Nat)), some (.int (r' : Nat)), v8, some (.int (e : Nat))] H3 := by
        intro e r' v8 hrd hbe
        refine ⟨_, rfl, _, rfl, _, rfl, tl, _, _, rfl, rfl, _, rfl, ite2 (fun y => ?_) (fun y => ?_)⟩
        · have y' := of_decide_eq_true y
          rw [tx_len] at y'
          rw [if_pos (by omega)] at hrd
          refine ⟨_, rfl, _, rfl, _, _, rfl, rfl, .inl (by omega), _, rfl, _, _, rfl, rfl, _, rfl, (by show 2 ≤ sizeLine; omega), fun p np => ?_⟩
          refine k1 (i * m + r') e ?_ p _ (same_new np _) np ?_
          · rw [feq, hrd]
            show some (i * m + r', b + (e - b)) = _
            rw [show b + (e - b) = e by omega]
          · rw [upd_same]
            show some (HO.tup [V.int ((i : Int) * (m : Int) + (r' : Int)), V.int (e : Int)]) = _
            rw [← Int.natCast_mul, ← Int.natCast_add]
        · have y' : ¬ e ≤ l.length := fun x => y (decide_eq_true (by rw [tx_len]; omega))
          rw [if_neg y'] at hrd
          refine k2 ?_
          rw [feq, hrd]
          rfl
      have hbk : ∀ x, (i + 1 + x ≤ l.length - b) ↔ b + (i + 1 + x) ≤ l.length := fun x => by omega
      -- if many > 0 and rest >= short
      refine ⟨_, rfl, _, _, rfl, rfl, _, rfl, ite2 (fun y => ?_) (fun y => ?_)⟩
      · have y' : 0 < wideN m := Int.ofNat_lt.mp (of_decide_eq_true y)
        refine ⟨_, rfl, _, rfl, _, _, rfl, rfl, _, rfl, ite2 (fun u => ?_) (fun u => ?_)⟩
        · have u' : shortN m ≤ r := by
            have := of_decide_eq_true u
            omega
          rw [if_pos ⟨y', u'⟩] at rp
          refine ⟨_, rfl, _, _, rfl, rfl, .inl (by omega), _, rfl, _, rfl, _, rfl, _, rfl, _, _, rfl, rfl, _, rfl, _, rfl, tl, rfl, _, rfl, ?_⟩
          show (if decide (V.str (cutS (tx l) (some (((b + i + 1 : Nat) : Int) + ((wideN m - 1 : Nat) : Int))) (some (((b + i + 1 : Nat) : Int) + ((wideN m - 1 : Nat) : Int) + 1))) = V.str ("1" : Str)) = true then _ else _)
          rw [ee]
          have eb : (l.drop (b + (i + 1)))[wideN m - 1]? = l[b + (i + 1 + (wideN m - 1))]? := by
            rw [List.getElem?_drop]
            congr 1
            omega
          refine bits (b + (i + 1 + (wideN m - 1))) _ _ (fun c => ?_) (fun c => ?_)
          · refine ⟨_, _, rfl, rfl, _, rfl, _, _, rfl, rfl, _, rfl, _, _, rfl, rfl, ?_⟩
            have eB : bitN (l.drop (b + (i + 1))) (wideN m - 1) = 1 := by
              unfold bitN
              rw [eb, if_pos c]
            rw [eB] at rp
            have := fin (b + (i + 1 + (wideN m - 1)) + 1) (2 * r + 1 - shortN m) v (by
              rw [rp]
              by_cases q : b + (i + 1 + (wideN m - 1)) + 1 ≤ l.length
              · rw [if_pos q, if_pos (by omega)]
                congr 2
                omega
              · rw [if_neg q, if_neg (by omega)]) (by omega)
            rw [show ((2 * r + 1 - shortN m : Nat) : Int) = 2 * (r : Int) + 1 - (shortN m : Int) by omega, show ((b + (i + 1 + (wideN m - 1)) + 1 : Nat) : Int) = ((b + (i + 1 + (wideN m - 1)) : Nat) : Int) + 1 by omega, ← ee] at this
            exact this
          · refine ⟨_, _, rfl, rfl, _, rfl, _, _, rfl, rfl, _, rfl, _, _, rfl, rfl, ?_⟩
            have eB : bitN (l.drop (b + (i + 1))) (wideN m - 1) = 0 := by
              unfold bitN
              rw [eb, if_neg c]
            rw [eB] at rp
            have := fin (b + (i + 1 + (wideN m - 1)) + 1) (2 * r + 0 - shortN m) v (by
              rw [rp]
              by_cases q : b + (i + 1 + (wideN m - 1)) + 1 ≤ l.length
              · rw [if_pos q, if_pos (by omega)]
                congr 2
                omega
              · rw [if_neg q, if_neg (by omega)]) (by omega)
            rw [show ((2 * r + 0 - shortN m : Nat) : Int) = 2 * (r : Int) + 0 - (shortN m : Int) by omega, show ((b + (i + 1 + (wideN m - 1)) + 1 : Nat) : Int) = ((b + (i + 1 + (wideN m - 1)) : Nat) : Int) + 1 by omega, ← ee] at this
            exact this
        · have u' : ¬ shortN m ≤ r := fun x => u (decide_eq_true (Int.ofNat_le.mpr x))
          rw [if_neg (fun x => u' x.2)] at rp
          have := fin (b + (i + 1 + (wideN m - 1))) r v (by
              rw [rp]
              by_cases q : b + (i + 1 + (wideN m - 1)) ≤ l.length
              · rw [if_pos q, if_pos (by omega)]
                congr 2
                omega
              · rw [if_neg q, if_neg (by omega)]) (by omega)
          rw [← ee] at this
          exact this
      · have y' : ¬ 0 < wideN m := fun x => y (decide_eq_true (Int.ofNat_lt.mpr x))
        rw [if_neg (fun x => y' x.1)] at rp
        refine iteF ?_
        have := fin (b + (i + 1 + (wideN m - 1))) r v (by
            rw [rp]
            by_cases q : b + (i + 1 + (wideN m - 1)) ≤ l.length
            · rw [if_pos q, if_pos (by omega)]
              congr 2
              omega
            · rw [if_neg q, if_neg (by omega)]) (by omega)
        rw [← ee] at this
        exact this
end

abbrev s_cut_by : Stmt := topS 15
theorem sc_cut_by : FnScope ["step", "text", "found", "at", "here"] ["step", "text"] (defScope s_cut_by) := ⟨rfl, rfl, rfl, by decide +kernel, rfl, by decide +kernel, by decide +kernel⟩
def sp_cut_by (K : PySem.W.Frag) : Sp := fun vs H Q _ => ∃ (m : Nat) (l : List Bool), vs = [.int (m : Nat), .str (tx l)] ∧ 1 ≤ m ∧ m ≤ 64 ∧ l.length ≤ 100000 ∧
  ∀ (D : Addr) (us : List V) (H' : Hp), Same H H' → H D = none → H' D = some (.lst us) → PrAt H' us (cuts m l) → Q (.ref D) H'
section
variable {P : Program} {w : World} {K : PySem.W.Frag} {mg : Str → Option Value} {base : Heap}
theorem ok_cut_by (A : At K mg "cut_by" s_cut_by ["step", "text"]) (B : Bn mg) (H_first_end : CalE P w K mg base "first_end" ["step", "text", "begin"] 3 (sp_first_end K)) : CalE P w K mg base "cut_by" ["step", "text"] 4 (sp_cut_by K) := by
  obtain ⟨f, fd, F, gF, bF⟩ := A
  obtain ⟨f_first_end, fd_first_end, G_first_end⟩ := H_first_end
  refine ⟨f, fd, F.ok sc_cut_by (fun vs H Q E h => ?_) (fun cdv A outer s H vs Q E hr h => ?_), gF, F.kp, bF⟩
  · repeat (first | (obtain ⟨rfl, _⟩ := h; rfl) | (obtain ⟨_, h⟩ := h))
  · obtain ⟨m, l, rfl, hm, h64, hl, k⟩ := h
    have hsz := sizeLine_eq
    refine ⟨_, (pss_cons (ps_par (i := 2) (j := 3) (by rfl) sc_cut_by.nd rfl rfl (by decide) rfl rfl (pa_cons (pe_lst pa_nil) (pa_cons pe_int pa_nil)) (by rfl))
      (pss_cons (ps_set (i := 4) sc_cut_by.nd rfl (.inl rfl) (pe_call G_first_end.ok (hr.mono (by first | decide | exact Nat.le_refl _)) (by rfl) G_first_end.g G_first_end.kp G_first_end.b .nil pass0 (pa_cons (pv 0) (pa_cons (pv 1) (pa_cons (pv 3) pa_nil)))))
      (pss_cons (ps_while PassesOwn.never (pt_cmp (pc_notN (pv 4)))
      (pss_cons (ps_expr (pe_bm PySem.F.plainAttrs_list PySem.F.slot_list_append PySem.F.type_list_append mt_append (pv 2) (pa_cons (pv 4) pa_nil)))
      (pss_cons (ps_set (i := 3) sc_cut_by.nd rfl (.inl rfl) (pe_ix (ix_tup_ K) (pv 4) pe_int (fun _ _ => rfl)))
      (pss_one (ps_set (i := 4) sc_cut_by.nd rfl (.inl rfl) (pe_call G_first_end.ok (hr.mono (by first | decide | exact Nat.le_refl _)) (by rfl) G_first_end.g G_first_end.kp G_first_end.b .nil pass0 (pa_cons (pv 0) (pa_cons (pv 1) (pa_cons (pv 3) pa_nil)))))))))
      (pss_one (ps_ret (pv 2)))))), ?_⟩
    refine ⟨(by show 0 ≤ sizeLine; omega), fun D nD => ⟨_, _, rfl, ?_⟩⟩
    have s0 := same_new nD (.lst [])
    refine ⟨_, rfl, _, rfl, _, rfl, m, l, 0, rfl, hm, h64, hl, Nat.zero_le _, fun n e hfe p H1 s1 np hp => ?_, fun hfe => ?_⟩
    all_goals
      refine ⟨fun x σ H2 => ∃ (at_ : Nat) (done : List (Nat × Nat)) (us : List V) (here : V), x = l.length - at_ ∧ σ = [some (.int (m : Nat)), some (.str (tx l)), some (.ref D), some (.int (at_ : Nat)), some here] ∧ at_ ≤ l.length ∧ done.length ≤ at_ ∧ Same H H2 ∧ H2 D = some (.lst us) ∧ PrAt H2 us done ∧ cuts m l = done ++ cutsF m ((l.drop at_).length + 1) (l.drop at_) at_ ∧
        ((∃ n e p, feN m l at_ = some (n, e) ∧ here = .ref p ∧ H2 p = some (.tup [.int (n : Nat), .int (e : Nat)])) ∨ (feN m l at_ = none ∧ here = .non)), ⟨l.length, 0, [], [], _, rfl, rfl, Nat.zero_le _, Nat.le_refl _, ?_, ?_, ⟨rfl, fun i x h => by cases h⟩, rfl, ?_⟩, ?_⟩
    · exact s0.trans s1
    · exact s1 _ _ upd_same
    · exact .inl ⟨n, e, p, hfe, rfl, hp⟩
    rotate_left
    · exact s0
    · exact upd_same
    · exact .inr ⟨hfe, rfl⟩
    all_goals
      rintro x σ H2 ⟨at_, done, us, here, rfl, rfl, ha, hdl, s2, eD, hP, hc, hh⟩
      refine ⟨_, rfl, ?_⟩
      rcases hh with ⟨n, e, p, hfe, rfl, hp⟩ | ⟨hfe, rfl⟩
      · obtain ⟨h1, h2, _⟩ := rd_bound hm ha hfe
        refine ⟨_, rfl, iteND (fun z => by cases z) ?_⟩
        refine ⟨fun σ' H3 => ∃ (us : List V) (here : V), σ' = [some (.int (m : Nat)), some (.str (tx l)), some (.ref D), some (.int (e : Nat)), some here] ∧ Same H H3 ∧ H3 D = some (.lst us) ∧ PrAt H3 us (done ++ [(n, e)]) ∧
          ((∃ n' e' p, feN m l e = some (n', e') ∧ here = .ref p ∧ H3 p = some (.tup [.int (n' : Nat), .int (e' : Nat)])) ∨ (feN m l e = none ∧ here = .non)), fun σ' H3 ⟨us, here, e1, e2, e3, e4, e5⟩ => ⟨l.length - e, by omega, e, done ++ [(n, e)], us, here, rfl, e1, h2, by rw [List.length_append, List.length_singleton]; omega, e2, e3, e4, ?_, e5⟩, ?_⟩
        · rw [hc, cuts_step hm ha hfe, List.append_assoc]
          rfl
        refine ⟨_, rfl, .inl ⟨rfl, _, .inl (.inl eD)⟩, _, rfl, D, _, _, rfl, rfl, eD, by rw [hP.len]; omega, ?_⟩
        have npD : p ≠ D := fun z => by rw [z, eD] at hp; cases hp
        have hp' : (upd H2 D (.lst (us ++ [.ref p]))) p = some (.tup [.int (n : Nat), .int (e : Nat)]) := by rw [upd_ne npD]; exact hp
        have s3 : Same H (upd H2 D (.lst (us ++ [.ref p]))) := fun a o ho => by rw [upd_ne (ne_of_none ho nD)]; exact s2 _ _ ho
        have hP2 : PrAt (upd H2 D (.lst (us ++ [.ref p]))) us done := ⟨hP.len, fun i x hx => by
          obtain ⟨t, a, b⟩ := hP.at_ i x hx
          refine ⟨t, a, ?_⟩
          rw [upd_ne (fun z => by rw [z, eD] at b; cases b)]
          exact b⟩
        have hP3 := hP2.snoc hp'
        have eD3 : (upd H2 D (.lst (us ++ [.ref p]))) D = some (.lst (us ++ [.ref p])) := upd_same
        generalize upd H2 D (.lst (us ++ [.ref p])) = H3 at *
        refine ⟨_, rfl, p, _, 1, _, rfl, rfl, .inl (.inl hp'), rfl, ?_⟩
        refine ⟨_, rfl, _, rfl, _, rfl, m, l, e, rfl, hm, h64, hl, h2, fun n' e' hfe' p' H4 s4 np' hp2 => ?_, fun hfe' => ?_⟩
        · exact ⟨_, _, rfl, s3.trans s4, s4 _ _ eD3, hP3.same s4, .inl ⟨n', e', p', hfe', rfl, hp2⟩⟩
        · exact ⟨_, _, rfl, s3, eD3, hP3, .inr ⟨hfe', rfl⟩⟩
      · refine ⟨_, rfl, iteNS rfl ?_⟩
        rw [cutsF_none (fe_none hfe), List.append_nil] at hc
        exact ⟨_, rfl, k D us H2 s2 nD eD (hc ▸ hP)⟩
end

abbrev s_Reader_waits : Stmt := inClass (topS 17) 5
theorem sc_Reader_waits : FnScope ["self", "found"] ["self"] (defScope s_Reader_waits) := ⟨rfl, rfl, rfl, by decide +kernel, rfl, by decide +kernel, by decide +kernel⟩
theorem last_ofW {H : Hp} {us : List V} {r : List (Nat × Nat)} (h : PrAt H us r) (hr : r ≠ []) : ∃ t n, atI us (-1) = some (.ref t) ∧ H t = some (.tup [.int (n : Nat), .int (endOf r : Nat)]) := by
  obtain ⟨r', x, rfl⟩ : ∃ r' x, r = r' ++ [x] := ⟨r.dropLast, r.getLast hr, (List.dropLast_concat_getLast hr).symm⟩
  obtain ⟨t, a, b⟩ := h.at_ r'.length x (by rw [List.getElem?_append_right (Nat.le_refl _), Nat.sub_self]; rfl)
  have hl := h.len
  rw [List.length_append, List.length_singleton] at hl
  refine ⟨t, x.1, ?_, by rw [endOf_snoc]; exact b⟩
  unfold atI
  have e : ixN us.length (-1) = some r'.length := by
    unfold ixN
    rw [if_neg (by decide), if_pos (by omega)]
    congr 1
    omega
  rw [e]
  exact a
def sp_Reader_waits (K : PySem.W.Frag) (C : Addr) : Sp := fun vs H Q _ => ∃ (r p : Addr) (m : Nat) (l : List Bool) (past : List Nat), vs = [.ref r] ∧ RdAt C H r p m l past ∧
  ∀ (H' : Hp), Same H H' → Q (.str (tx (l.drop (endOf (cuts m l))))) H'
section
variable {P : Program} {w : World} {K : PySem.W.Frag} {mg : Str → Option Value} {base : Heap}
theorem ok_Reader_waits {C_ : Addr} (A : AtM K (fun f => Meth K C_ "waits" f) "waits" "Reader.waits" s_Reader_waits ["self"]) (B : Bn mg) (RC : RdC K mg C_) (H_cut_by : CalE P w K mg base "cut_by" ["step", "text"] 4 (sp_cut_by K)) : CalM P w K mg base CX0 (fun f => Meth K C_ "waits" f) ["self"] 5 (sp_Reader_waits K C_) := by
  obtain ⟨f, fd, F, gF, bF⟩ := A
  obtain ⟨f_cut_by, fd_cut_by, G_cut_by⟩ := H_cut_by
  refine ⟨f, fd, F.ok sc_Reader_waits (fun vs H Q E h => ?_) (fun cdv A outer s H vs Q E hr h => ?_), gF, bF⟩
  · repeat (first | (obtain ⟨rfl, _⟩ := h; rfl) | (obtain ⟨_, h⟩ := h))
  · obtain ⟨r, p, m, l, past, rfl, R, k⟩ := h
    obtain ⟨dx, ho⟩ := R.o
    have hsz := sizeLine_eq
    refine ⟨_, (pss_cons (ps_set (i := 1) sc_Reader_waits.nd rfl (.inl rfl) (pe_call G_cut_by.ok (hr.mono (by first | decide | exact Nat.le_refl _)) (by rfl) G_cut_by.g G_cut_by.kp G_cut_by.b .nil pass0 (pa_cons (pe_fld (pv 0) rfl) (pa_cons (pe_fld (pv 0) rfl) pa_nil))))
      (pss_one (ps_ret (pe_ifExp (pt_cmpR (op_neD_ K hr.units) (pv 1) (pe_lst pa_nil) (nomark _)) (pe_slice sl_str (pe_fld (pv 0) rfl) (po_some (pe_ix (ix_tup_ K) (pe_ix (ix_list_ K) (pv 1) (pe_un un_neg pe_int) (fun _ _ => rfl)) pe_int (fun _ _ => rfl))) po_none) (pe_fld (pv 0) rfl))))), ?_⟩
    refine ⟨_, rfl, r, C_, dx, _, _, rfl, ho, RC.cl, RC.nS, rd_gs _ _ _, ?_⟩
    refine ⟨_, rfl, r, C_, dx, _, _, rfl, ho, RC.cl, RC.nT, rd_gt _ _ _, ?_⟩
    refine ⟨m, l, rfl, R.m1, R.m64, by have := R.l4; omega, fun D us H1 s1 nD eD hP => ?_⟩
    refine ⟨_, rfl, (by show 0 ≤ sizeLine; omega), fun E1 nE => ?_⟩
    have s2 := same_new nE (.lst [])
    have S2 := s1.trans s2
    obtain ⟨dx2, o2⟩ : ∃ dx2, (upd H1 E1 (.lst [])) r = some (.ins C_ dx2 (rdF m (tx l) p)) := ⟨dx, S2 _ _ ho⟩
    refine ⟨_, _, .lst (.inl (.inl (s2 _ _ eD))) (PrAt.dpAll (hP.same s2)), .lst (.inl (.inl upd_same)) .nil, ok_shaped (prD_ok _) (by decide), by decide +kernel, _, rfl, ?_⟩
    rw [eqv_nil]
    have hP2 := hP.same s2
    have eD2 := s2 _ _ eD
    generalize upd H1 E1 (.lst []) = H2 at *
    by_cases c : cuts m l = []
    · have e0 : endOf (cuts m l) = 0 := by rw [c]; rfl
      have k' := k H2 S2
      rw [e0, List.drop_zero] at k'
      rw [c]
      refine iteF ?_
      exact ⟨_, rfl, r, C_, dx2, _, _, rfl, o2, RC.cl, RC.nT, rd_gt _ _ _, k'⟩
    · obtain ⟨t, n, at1, et⟩ := last_ofW hP2 c
      have he : (prD (cuts m l)).isEmpty = false := by
        cases h : cuts m l with
        | nil => exact absurd h c
        | cons a b => rfl
      rw [he]
      refine iteT ?_
      refine ⟨_, rfl, r, C_, dx2, _, _, rfl, o2, RC.cl, RC.nT, rd_gt _ _ _, ?_⟩
      refine ⟨_, rfl, _, rfl, D, _, _, _, rfl, rfl, .inl (.inl eD2), at1, t, _, _, _, rfl, rfl, .inl (.inl et), at_of (j := 1) rfl rfl, _, rfl, ?_⟩
      refine ⟨tx l, rfl, by rw [tx_len]; have := R.l4; omega, ?_⟩
      rw [cut_from]
      exact k _ S2
end

abbrev s_Reader_numbers : Stmt := inClass (topS 17) 3
theorem sc_Reader_numbers : FnScope ["self", "number", "end"] ["self"] (defScope s_Reader_numbers) := ⟨rfl, rfl, rfl, by decide +kernel, rfl, by decide +kernel, by decide +kernel⟩
def sp_Reader_numbers (K : PySem.W.Frag) (C : Addr) : Sp := fun vs H Q _ => ∃ (r p : Addr) (m : Nat) (l : List Bool) (past : List Nat), vs = [.ref r] ∧ RdAt C H r p m l past ∧
  ∀ (T : Addr) (H' : Hp), Same H H' → H T = none → H' T = some (.tup ((cuts m l).map fun x => V.int (x.1 : Nat))) → Q (.ref T) H'
section
variable {P : Program} {w : World} {K : PySem.W.Frag} {mg : Str → Option Value} {base : Heap}
theorem ok_Reader_numbers {C_ : Addr} (A : AtM K (fun f => Meth K C_ "numbers" f) "numbers" "Reader.numbers" s_Reader_numbers ["self"]) (B : Bn mg) (RC : RdC K mg C_) (H_cut_by : CalE P w K mg base "cut_by" ["step", "text"] 4 (sp_cut_by K)) : CalM P w K mg base CX0 (fun f => Meth K C_ "numbers" f) ["self"] 5 (sp_Reader_numbers K C_) := by
  obtain ⟨f, fd, F, gF, bF⟩ := A
  obtain ⟨f_cut_by, fd_cut_by, G_cut_by⟩ := H_cut_by
  refine ⟨f, fd, F.ok sc_Reader_numbers (fun vs H Q E h => ?_) (fun cdv A outer s H vs Q E hr h => ?_), gF, bF⟩
  · repeat (first | (obtain ⟨rfl, _⟩ := h; rfl) | (obtain ⟨_, h⟩ := h))
  · obtain ⟨r, p, m, l, past, rfl, R, k⟩ := h
    obtain ⟨dx, ho⟩ := R.o
    have hsz := sizeLine_eq
    refine ⟨_, (pss_one (ps_ret (pe_callTy (call_tuple_of_ K) (by rfl) B.tuple_ (by decide +kernel) (pa_cons (pe_lc (own := [("number", 1), ("end", 2)]) (g := (gTup K 2 (gCons (gName 1) (gCons (gName 2) gNil)))) (tt := tYes) rfl sc_Reader_numbers.nd (pi_list (pe_call G_cut_by.ok (hr.mono (by first | decide | exact Nat.le_refl _)) (by rfl) G_cut_by.g G_cut_by.kp G_cut_by.b .nil pass0 (pa_cons (pe_fld (pv 0) rfl) (pa_cons (pe_fld (pv 0) rfl) pa_nil)))) (blkOk_by (own := [("number", 1), ("end", 2)]) (N := ["self", "number", "end"]) (sc := defScope s_Reader_numbers) (by decide +kernel)) (fun _ _ _ _ _ => (pg_tup (by rfl) (pgs_cons (pg_name (i := 1) sc_Reader_numbers.nd rfl (.inl rfl)) (pgs_cons (pg_name (i := 2) sc_Reader_numbers.nd rfl (.inl rfl)) pgs_nil)))) (fun _ _ _ _ _ => pts_nil) (fun _ _ _ _ _ => (pv 1))) pa_nil)))), ?_⟩
    refine ⟨_, rfl, r, C_, dx, _, _, rfl, ho, RC.cl, RC.nS, rd_gs _ _ _, ?_⟩
    refine ⟨_, rfl, r, C_, dx, _, _, rfl, ho, RC.cl, RC.nT, rd_gt _ _ _, ?_⟩
    have hm1 := R.m1
    have hl4 := R.l4
    refine ⟨m, l, rfl, hm1, R.m64, by omega, fun D us H1 s1 nD eD hP => ?_⟩
    have hcl := cuts_len hm1 l
    refine ⟨D, rfl, ⟨_, .inl (.inl eD)⟩, fun L nL => ?_⟩
    refine lc_list (K := K) (a := D) (xs := us) (fun i H4 => Same H1 H4 ∧ H4 L = some (.lst (((cuts m l).take i).map fun x => V.int (x.1 : Nat)))) ⟨same_new nL _, by rw [upd_same]; rfl⟩ (fun i H4 _ h4 => .inl (.inl (h4.1 _ _ eD))) ?_ ?_
    · rintro i x H4 hx4 ⟨s4, eL⟩
      have hi2 : i < (cuts m l).length := hP.len ▸ (List.getElem?_eq_some_iff.mp hx4).1
      have hy : (cuts m l)[i]? = some (cuts m l)[i] := List.getElem?_eq_getElem hi2
      obtain ⟨u, ta, tb⟩ := hP.at_ i _ hy
      rw [hx4] at ta
      cases Option.some.inj ta
      refine ⟨u, _, rfl, .inl (.inl (s4 _ _ tb)), rfl, _, _, rfl, _, _, rfl, rfl, rfl, _, rfl, _, eL, ?_, ?_, ?_⟩
      · rw [List.length_map, List.length_take]
        omega
      · intro a o ho
        rw [upd_ne (ne_of_none ho nL)]
        exact s4 a o ho
      · rw [upd_same, take_more hy, List.map_append]
        rfl
    rintro H4 ⟨s4, eL⟩
    rw [hP.len, List.take_length] at eL
    refine ⟨L, _, rfl, .inl ⟨.inl (.inl eL), fun T1 nT1 => ?_⟩⟩
    have S4 := s1.trans s4
    exact k _ _ (S4.trans (same_new nT1 _)) (S4.free nT1) upd_same
end

abbrev s_Reader_step : Stmt := inClass (topS 17) 1
theorem sc_Reader_step : FnScope ["self"] ["self"] (defScope s_Reader_step) := ⟨rfl, rfl, rfl, by decide +kernel, rfl, by decide +kernel, by decide +kernel⟩
def sp_Reader_step (K : PySem.W.Frag) (C : Addr) : Sp := fun vs H Q _ => ∃ (r p : Addr) (m : Nat) (l : List Bool) (past : List Nat), vs = [.ref r] ∧ RdAt C H r p m l past ∧ Q (.int (m : Nat)) H
section
variable {P : Program} {w : World} {K : PySem.W.Frag} {mg : Str → Option Value} {base : Heap}
theorem ok_Reader_step {C_ : Addr} (A : AtM K (fun g => ∃ p, PropOf K C_ "step" p g) "step" "Reader.step" s_Reader_step ["self"]) (B : Bn mg) (RC : RdC K mg C_) : CalM P w K mg base CX0 (fun g => ∃ p, PropOf K C_ "step" p g) ["self"] 1 (sp_Reader_step K C_) := by
  obtain ⟨f, fd, F, gF, bF⟩ := A
  refine ⟨f, fd, F.ok sc_Reader_step (fun vs H Q E h => ?_) (fun cdv A outer s H vs Q E hr h => ?_), gF, bF⟩
  · repeat (first | (obtain ⟨rfl, _⟩ := h; rfl) | (obtain ⟨_, h⟩ := h))
  · obtain ⟨r, p, m, l, past, rfl, R, k⟩ := h
    obtain ⟨dx, ho⟩ := R.o
    refine ⟨_, (pss_one (ps_ret (pe_fld (pv 0) rfl))), ?_⟩
    exact ⟨_, rfl, r, C_, dx, _, _, rfl, ho, RC.cl, RC.nS, rd_gs _ _ _, k⟩
end

abbrev s_Reader_signs : Stmt := inClass (topS 17) 2
theorem sc_Reader_signs : FnScope ["self"] ["self"] (defScope s_Reader_signs) := ⟨rfl, rfl, rfl, by decide +kernel, rfl, by decide +kernel, by decide +kernel⟩
def sp_Reader_signs (K : PySem.W.Frag) (C : Addr) : Sp := fun vs H Q _ => ∃ (r p : Addr) (m : Nat) (l : List Bool) (past : List Nat), vs = [.ref r] ∧ RdAt C H r p m l past ∧ Q (.str (tx l)) H
section
variable {P : Program} {w : World} {K : PySem.W.Frag} {mg : Str → Option Value} {base : Heap}
theorem ok_Reader_signs {C_ : Addr} (A : AtM K (fun g => ∃ p, PropOf K C_ "signs" p g) "signs" "Reader.signs" s_Reader_signs ["self"]) (B : Bn mg) (RC : RdC K mg C_) : CalM P w K mg base CX0 (fun g => ∃ p, PropOf K C_ "signs" p g) ["self"] 1 (sp_Reader_signs K C_) := by
  obtain ⟨f, fd, F, gF, bF⟩ := A
  refine ⟨f, fd, F.ok sc_Reader_signs (fun vs H Q E h => ?_) (fun cdv A outer s H vs Q E hr h => ?_), gF, bF⟩
  · repeat (first | (obtain ⟨rfl, _⟩ := h; rfl) | (obtain ⟨_, h⟩ := h))
  · obtain ⟨r, p, m, l, past, rfl, R, k⟩ := h
    obtain ⟨dx, ho⟩ := R.o
    refine ⟨_, (pss_one (ps_ret (pe_fld (pv 0) rfl))), ?_⟩
    exact ⟨_, rfl, r, C_, dx, _, _, rfl, ho, RC.cl, RC.nT, rd_gt _ _ _, k⟩
end

abbrev s_Reader___len__ : Stmt := inClass (topS 17) 7
theorem sc_Reader___len__ : FnScope ["self"] ["self"] (defScope s_Reader___len__) := ⟨rfl, rfl, rfl, by decide +kernel, rfl, by decide +kernel, by decide +kernel⟩
def sp_Reader___len__ (K : PySem.W.Frag) (C : Addr) : Sp := fun vs H Q _ => ∃ (r p : Addr) (m : Nat) (l : List Bool) (past : List Nat), vs = [.ref r] ∧ RdAt C H r p m l past ∧ Q (.int (past.length : Nat)) H
section
variable {P : Program} {w : World} {K : PySem.W.Frag} {mg : Str → Option Value} {base : Heap}
theorem ok_Reader___len__ {C_ : Addr} (A : AtM K (fun f => Meth K C_ "__len__" f) "__len__" "Reader.__len__" s_Reader___len__ ["self"]) (B : Bn mg) (RC : RdC K mg C_) : CalM P w K mg base CX0 (fun f => Meth K C_ "__len__" f) ["self"] 1 (sp_Reader___len__ K C_) := by
  obtain ⟨f, fd, F, gF, bF⟩ := A
  refine ⟨f, fd, F.ok sc_Reader___len__ (fun vs H Q E h => ?_) (fun cdv A outer s H vs Q E hr h => ?_), gF, bF⟩
  · repeat (first | (obtain ⟨rfl, _⟩ := h; rfl) | (obtain ⟨_, h⟩ := h))
  · obtain ⟨r, p, m, l, past, rfl, R, k⟩ := h
    obtain ⟨dx, ho⟩ := R.o
    refine ⟨_, (pss_one (ps_ret (pe_callB (call_len_seq_ K) (by rfl) B.len_ (by decide +kernel) (pa_cons (pe_fld (pv 0) rfl) pa_nil)))), ?_⟩
    refine ⟨_, rfl, r, C_, dx, _, _, rfl, ho, RC.cl, RC.nP, rd_gp _ _ _, p, _, rfl, .inl (.inl (.inl R.p)), ?_⟩
    rw [List.length_map]
    exact k
end

abbrev s__law_stands_so : Stmt := topS 32
theorem sc__law_stands_so : FnScope ["_law_reader", "_law_step_here", "_law_past", "_law_text", "_law_found", "_law_one"] ["_law_reader", "_law_step_here", "_law_past"] (defScope s__law_stands_so) := ⟨rfl, rfl, rfl, by decide +kernel, rfl, by decide +kernel, by decide +kernel⟩
def sp__law_stands_so (K : PySem.W.Frag) (C : Addr) : Sp := fun vs H Q _ => ∃ (r p pa : Addr) (m : Nat) (l : List Bool) (past : List Nat) (ts : List (List Bool)), vs = [.ref r, .int (m : Nat), .ref pa] ∧ RdAt C H r p m l past ∧
  SqL K H pa ((ts ++ [l]).map fun l => V.str (tx l)) ∧ ts.length = past.length ∧ ∀ H', Same H H' → Q (.bl true) H'
section
variable {P : Program} {w : World} {K : PySem.W.Frag} {mg : Str → Option Value} {base : Heap}
theorem ok__law_stands_so {C_ : Addr} (A : At K mg "_law_stands_so" s__law_stands_so ["_law_reader", "_law_step_here", "_law_past"]) (B : Bn mg) (RC : RdC K mg C_) (H__law_ends : CalE P w K mg base "_law_ends" ["_law_step_here", "_law_text"] 3 (sp__law_ends K)) (H__law_alike : CalE P w K mg base "_law_alike" ["_law_found", "_law_due_here"] 5 (sp__law_alike K)) (H_Reader_step : CalM P w K mg base CX0 (fun g => ∃ p, PropOf K C_ "step" p g) ["self"] 1 (sp_Reader_step K C_)) (H_Reader_signs : CalM P w K mg base CX0 (fun g => ∃ p, PropOf K C_ "signs" p g) ["self"] 1 (sp_Reader_signs K C_)) (H_Reader___len__ : CalM P w K mg base CX0 (fun f => Meth K C_ "__len__" f) ["self"] 1 (sp_Reader___len__ K C_)) (H_Reader_numbers : CalM P w K mg base CX0 (fun f => Meth K C_ "numbers" f) ["self"] 5 (sp_Reader_numbers K C_)) (H_Reader_waits : CalM P w K mg base CX0 (fun f => Meth K C_ "waits" f) ["self"] 5 (sp_Reader_waits K C_)) : CalE P w K mg base "_law_stands_so" ["_law_reader", "_law_step_here", "_law_past"] 6 (sp__law_stands_so K C_) := by
  obtain ⟨f, fd, F, gF, bF⟩ := A
  obtain ⟨f__law_ends, fd__law_ends, G__law_ends⟩ := H__law_ends
  obtain ⟨f__law_alike, fd__law_alike, G__law_alike⟩ := H__law_alike
  obtain ⟨f_Reader_step, fd_Reader_step, O_Reader_step, ⟨p_Reader_step, MP_Reader_step⟩, B_Reader_step⟩ := H_Reader_step
  obtain ⟨f_Reader_signs, fd_Reader_signs, O_Reader_signs, ⟨p_Reader_signs, MP_Reader_signs⟩, B_Reader_signs⟩ := H_Reader_signs
  obtain ⟨f_Reader___len__, fd_Reader___len__, O_Reader___len__, M_Reader___len__, B_Reader___len__⟩ := H_Reader___len__
  obtain ⟨f_Reader_numbers, fd_Reader_numbers, O_Reader_numbers, M_Reader_numbers, B_Reader_numbers⟩ := H_Reader_numbers
  obtain ⟨f_Reader_waits, fd_Reader_waits, O_Reader_waits, M_Reader_waits, B_Reader_waits⟩ := H_Reader_waits
  refine ⟨f, fd, F.ok sc__law_stands_so (fun vs H Q E h => ?_) (fun cdv A outer s H vs Q E hr h => ?_), gF, F.kp, bF⟩
  · repeat (first | (obtain ⟨rfl, _⟩ := h; rfl) | (obtain ⟨_, h⟩ := h))
  · obtain ⟨r, p, pa, m, l, past, ts, rfl, R, hP, hl, k⟩ := h
    have hsz := sizeLine_eq
    refine ⟨_, (pss_cons (ps_set (i := 3) sc__law_stands_so.nd rfl (.inl rfl) (pe_ix (ix_list_ K) (pv 2) (pe_un un_neg pe_int) (fun _ _ => rfl)))
      (pss_cons (ps_set (i := 4) sc__law_stands_so.nd rfl (.inl rfl) (pe_call G__law_ends.ok (hr.mono (by first | decide | exact Nat.le_refl _)) (by rfl) G__law_ends.g G__law_ends.kp G__law_ends.b .nil pass0 (pa_cons (pv 1) (pa_cons (pv 3) pa_nil))))
      (pss_cons (ps_if (pt_not (pt_val (pe_call G__law_alike.ok (hr.mono (by first | decide | exact Nat.le_refl _)) (by rfl) G__law_alike.g G__law_alike.kp G__law_alike.b .nil pass0 (pa_cons (pe_lst (pa_cons (pe_prop (pv 0) RC.cl MP_Reader_step O_Reader_step (hr.mono (by first | decide | exact Nat.le_refl _)) B_Reader_step .nil pass0 rfl) (pa_cons (pe_prop (pv 0) RC.cl MP_Reader_signs O_Reader_signs (hr.mono (by first | decide | exact Nat.le_refl _)) B_Reader_signs .nil pass0 rfl) (pa_cons (pe_callB (cr_lenO M_Reader___len__ O_Reader___len__ (hr.mono (by first | decide | exact Nat.le_refl _)) B_Reader___len__) (by rfl) B.len_ (by decide +kernel) (pa_cons (pv 0) pa_nil)) pa_nil)))) (pa_cons (pe_lst (pa_cons (pv 1) (pa_cons (pv 3) (pa_cons (pe_op op_sub (pe_callB (call_len_seq_ K) (by rfl) B.len_ (by decide +kernel) (pa_cons (pv 2) pa_nil)) pe_int) pa_nil)))) pa_nil)))))
      (pss_one (ps_ret pe_bl))
      pss_nil)
      (pss_cons (ps_if (pt_not (pt_val (pe_call G__law_alike.ok (hr.mono (by first | decide | exact Nat.le_refl _)) (by rfl) G__law_alike.g G__law_alike.kp G__law_alike.b .nil pass0 (pa_cons (pe_meth0 (pv 0) RC.cl M_Reader_numbers O_Reader_numbers (hr.mono (by first | decide | exact Nat.le_refl _)) B_Reader_numbers .nil pass0) (pa_cons (pe_callTy (call_tuple_of_ K) (by rfl) B.tuple_ (by decide +kernel) (pa_cons (pe_lc (own := [("_law_one", 5)]) (g := gName 5) (tt := tYes) rfl sc__law_stands_so.nd (pi_list (pv 4)) (blkOk_by (own := [("_law_one", 5)]) (N := ["_law_reader", "_law_step_here", "_law_past", "_law_text", "_law_found", "_law_one"]) (sc := defScope s__law_stands_so) (by decide +kernel)) (fun _ _ _ _ _ => (pg_name (i := 5) sc__law_stands_so.nd rfl (.inl rfl))) (fun _ _ _ _ _ => pts_nil) (fun _ _ _ _ _ => (pe_ix (ix_tup_ K) (pv 5) pe_int (fun _ _ => rfl)))) pa_nil)) pa_nil)))))
      (pss_one (ps_ret pe_bl))
      pss_nil)
      (pss_one (ps_ret (pe_call G__law_alike.ok (hr.mono (by first | decide | exact Nat.le_refl _)) (by rfl) G__law_alike.g G__law_alike.kp G__law_alike.b .nil pass0 (pa_cons (pe_meth0 (pv 0) RC.cl M_Reader_waits O_Reader_waits (hr.mono (by first | decide | exact Nat.le_refl _)) B_Reader_waits .nil pass0) (pa_cons (pe_slice sl_str (pv 3) (po_some (pe_ifExp (pt_cmpR (op_neD_ K hr.units) (pv 4) (pe_lst pa_nil) (nomark _)) (pe_ix (ix_tup_ K) (pe_ix (ix_list_ K) (pv 4) (pe_un un_neg pe_int) (fun _ _ => rfl)) pe_int (fun _ _ => rfl)) pe_int)) po_none) pa_nil))))))))), ?_⟩
    have m1 := R.m1
    have m64 := R.m64
    have l4 := R.l4
    have al : atI ((ts ++ [l]).map fun l => V.str (tx l)) (-1) = some (.str (tx l)) := by
      unfold atI
      have e : ixN ((ts ++ [l]).map fun l => V.str (tx l)).length (-1) = some ts.length := by
        unfold ixN
        rw [if_neg (by decide), List.length_map, List.length_append, List.length_singleton, if_pos (by omega)]
        congr 1
        omega
      rw [e]
      show ((ts ++ [l]).map fun l => V.str (tx l))[ts.length]? = _
      rw [List.getElem?_map, List.getElem?_append_right (Nat.le_refl _), Nat.sub_self]
      rfl
    refine ⟨_, rfl, _, rfl, pa, _, _, _, rfl, rfl, hP, al, ?_⟩
    refine ⟨_, rfl, _, rfl, m, l, rfl, m1, m64, by omega, fun D us H1 s1 nD eD hD => ?_⟩
    obtain ⟨dx, ho⟩ := R.o
    have o1 := s1 _ _ ho
    have R1 := R.same s1
    refine ⟨_, rfl, r, dx, _, rfl, o1, r, p, m, l, past, rfl, R1, ?_⟩
    refine ⟨_, rfl, r, dx, _, rfl, o1, r, p, m, l, past, rfl, R1, ?_⟩
    refine ⟨_, rfl, r, dx, _, rfl, o1, r, p, m, l, past, rfl, R1, _, rfl, ?_⟩
    refine ⟨by have := R.p4; omega, (by show 3 ≤ sizeLine; omega), fun A nA => ?_⟩
    have s2 := s1.trans (same_new nA (.lst [.int (m : Nat), .str (tx l), .int (past.length : Nat)]))
    have eA : (upd H1 A (.lst [.int (m : Nat), .str (tx l), .int (past.length : Nat)])) A = some (.lst [.int (m : Nat), .str (tx l), .int (past.length : Nat)]) := upd_same
    have R2 := R.same s2
    have hP2 := s2.seq hP
    have hD2 := hD.same (same_new nA (.lst [.int (m : Nat), .str (tx l), .int (past.length : Nat)]))
    have eD2 := (same_new nA (.lst [.int (m : Nat), .str (tx l), .int (past.length : Nat)])) _ _ eD
    generalize upd H1 A (.lst [.int (m : Nat), .str (tx l), .int (past.length : Nat)]) = H2 at *
    refine ⟨_, rfl, _, rfl, _, rfl, pa, _, rfl, .inl hP2, _, _, rfl, rfl, (by show 3 ≤ sizeLine; omega), fun E nE => ?_⟩
    have el : ((((ts ++ [l]).map fun l => V.str (tx l)).length : Nat) : Int) - 1 = ((past.length : Nat) : Int) := by
      rw [List.length_map, List.length_append, List.length_singleton, hl]
      omega
    dsimp only
    rw [el]
    have s3 := s2.trans (same_new nE (.lst [.int (m : Nat), .str (tx l), .int (past.length : Nat)]))
    have eE : (upd H2 E (.lst [.int (m : Nat), .str (tx l), .int (past.length : Nat)])) E = some (.lst [.int (m : Nat), .str (tx l), .int (past.length : Nat)]) := upd_same
    have eA3 := (same_new nE (.lst [.int (m : Nat), .str (tx l), .int (past.length : Nat)])) _ _ eA
    have eD3 := (same_new nE (.lst [.int (m : Nat), .str (tx l), .int (past.length : Nat)])) _ _ eD2
    have hD3 := hD2.same (same_new nE (.lst [.int (m : Nat), .str (tx l), .int (past.length : Nat)]))
    have R3 := R2.same (same_new nE (.lst [.int (m : Nat), .str (tx l), .int (past.length : Nat)]))
    generalize upd H2 E (.lst [.int (m : Nat), .str (tx l), .int (past.length : Nat)]) = H3 at *
    have dp3 : ∀ {H : Hp}, DpAll K H [.int (m : Nat), .str (tx l), .int (past.length : Nat)] [.int (m : Nat), .str (tx l), .int (past.length : Nat)] := .cons (.int _) (.cons (.str _) (.cons (.int _) .nil))
    refine ⟨_, _, .list [.int (m : Nat), .str (tx l), .int (past.length : Nat)], 4, rfl, rfl, .lst (.inl (.inl eA3)) dp3, .lst (.inl (.inl eE)) dp3, okd_list (by show 3 ≤ 1000000; decide) (okA_cons trivial (okA_cons trivial (okA_cons trivial okA_nil))), fun H4 s4 => ?_⟩
    refine ⟨_, rfl, iteF ?_⟩
    have R4 := R3.same s4
    obtain ⟨dx4, o4⟩ := R4.o
    refine ⟨_, rfl, r, dx4, _, rfl, o4, rd_no _ _ _ (by decide +kernel) (by decide +kernel) (by decide +kernel), r, p, m, l, past, rfl, R4, fun T H5 s5 nT eT => ?_⟩
    have hcl := cuts_len m1 l
    have eD5 := s5 _ _ (s4 _ _ eD3)
    have hD5 := (hD3.same s4).same s5
    refine ⟨_, rfl, D, rfl, ⟨_, .inl (.inl eD5)⟩, fun L nL => ?_⟩
    refine lc_list (K := K) (a := D) (xs := us) (fun i H6 => Same H5 H6 ∧ H6 L = some (.lst (((cuts m l).take i).map fun x => V.int (x.1 : Nat)))) ⟨same_new nL _, by rw [upd_same]; rfl⟩ (fun i H6 _ h6 => .inl (.inl (h6.1 _ _ eD5))) ?_ ?_
    · rintro i x H6 hx6 ⟨s6, eL⟩
      have hi2 : i < (cuts m l).length := hD5.len ▸ (List.getElem?_eq_some_iff.mp hx6).1
      have hy : (cuts m l)[i]? = some (cuts m l)[i] := List.getElem?_eq_getElem hi2
      obtain ⟨u, ta, tb⟩ := hD5.at_ i _ hy
      rw [hx6] at ta
      cases Option.some.inj ta
      refine ⟨rfl, _, rfl, u, _, _, _, rfl, rfl, .inl (.inl (s6 _ _ tb)), at_of (j := 0) rfl rfl, _, eL, ?_, ?_, ?_⟩
      · rw [List.length_map, List.length_take]
        omega
      · intro a o ho
        rw [upd_ne (ne_of_none ho nL)]
        exact s6 a o ho
      · rw [upd_same, take_more hy, List.map_append]
        rfl
    rintro H6 ⟨s6, eL⟩
    rw [hD5.len, List.take_length] at eL
    refine ⟨L, _, rfl, .inl ⟨.inl (.inl eL), fun T2 nT2 => ?_⟩⟩
    have s56 := s6.trans (same_new nT2 (.tup ((cuts m l).map fun x => V.int (x.1 : Nat))))
    have eT2 : (upd H6 T2 (.tup ((cuts m l).map fun x => V.int (x.1 : Nat)))) T2 = some (.tup ((cuts m l).map fun x => V.int (x.1 : Nat))) := upd_same
    have R7 := (R4.same s5).same s56
    have eT7 := s56 _ _ eT
    have eD7 := s56 _ _ eD5
    have hD7 := hD5.same s56
    generalize upd H6 T2 (.tup ((cuts m l).map fun x => V.int (x.1 : Nat))) = H7 at *
    have dpn : ∀ {H : Hp} (ws : List (Nat × Nat)), DpAll K H (ws.map fun x => V.int (x.1 : Nat)) (ws.map fun x => PyData.int (x.1 : Nat)) := fun {H} ws => by
      induction ws with
      | nil => exact .nil
      | cons w ws ih => exact .cons (.int _) ih
    refine ⟨_, _, .tuple ((cuts m l).map fun x => PyData.int (x.1 : Nat)), 4, rfl, rfl, .tup (.inl (.inl eT7)) (dpn _), .tup (.inl (.inl eT2)) (dpn _), okd_tuple (by rw [List.length_map]; omega) (fun d hd => by
      obtain ⟨x, _, rfl⟩ := List.mem_map.mp hd
      trivial), fun H8 s8 => ⟨_, rfl, iteF ?_⟩⟩
    have R8 := R7.same s8
    obtain ⟨dx8, o8⟩ := R8.o
    refine ⟨_, rfl, r, dx8, _, rfl, o8, rd_no _ _ _ (by decide +kernel) (by decide +kernel) (by decide +kernel), r, p, m, l, past, rfl, R8, fun H9 s9 => ?_⟩
    refine ⟨_, rfl, _, rfl, (by show 0 ≤ sizeLine; omega), fun Z nZ => ?_⟩
    have s10 := s9.trans (same_new nZ (.lst []))
    have eD10 := s10 _ _ (s8 _ _ eD7)
    have hD10 := (hD7.same s8).same s10
    have eZ : (upd H9 Z (.lst [])) Z = some (.lst []) := upd_same
    generalize upd H9 Z (.lst []) = H10 at *
    refine ⟨_, _, .lst (.inl (.inl eD10)) (PrAt.dpAll hD10), .lst (.inl (.inl eZ)) .nil, ok_shaped (prD_ok _) (by decide), by decide +kernel, _, rfl, ?_⟩
    rw [eqv_nil]
    have S := s3.trans (s4.trans (s5.trans (s56.trans (s8.trans s10))))
    by_cases c : cuts m l = []
    · have e0 : endOf (cuts m l) = 0 := by rw [c]; rfl
      rw [c]
      refine iteF ?_
      refine ⟨_, rfl, tx l, rfl, by rw [tx_len]; omega, ?_⟩
      rw [show cutS (tx l) (some (0 : Int)) none = tx (l.drop (endOf [])) from cut_from l 0]
      exact ⟨_, _, .str (tx (l.drop (endOf []))), 4, rfl, rfl, .str _, .str _, trivial, fun H11 s11 => k _ (S.trans s11)⟩
    · obtain ⟨t, n, at1, et⟩ := last_ofW hD10 c
      have he : (prD (cuts m l)).isEmpty = false := by
        cases h : cuts m l with
        | nil => exact absurd h c
        | cons a b => rfl
      rw [he]
      refine iteT ?_
      refine ⟨_, rfl, _, rfl, D, _, _, _, rfl, rfl, .inl (.inl eD10), at1, t, _, _, _, rfl, rfl, .inl (.inl et), at_of (j := 1) rfl rfl, _, rfl, tx l, rfl, by rw [tx_len]; omega, ?_⟩
      rw [cut_from]
      exact ⟨_, _, .str (tx (l.drop (endOf (cuts m l)))), 4, rfl, rfl, .str _, .str _, trivial, fun H11 s11 => k _ (S.trans s11)⟩
end

abbrev s_Reader_copy : Stmt := inClass (topS 17) 8
theorem sc_Reader_copy : FnScope ["self", "found"] ["self"] (defScope s_Reader_copy) := ⟨rfl, rfl, rfl, by decide +kernel, rfl, by decide +kernel, by decide +kernel⟩
def sp_Reader_copy (K : PySem.W.Frag) (C : Addr) : Sp := fun vs H Q _ => ∃ (r p : Addr) (m : Nat) (l : List Bool) (past : List Nat), vs = [.ref r] ∧ RdAt C H r p m l past ∧
  ∀ (r' p' : Addr) (H' : Hp), Same H H' → H r' = none → H p' = none → r' ≠ p' → RdAt C H' r' p' m l past → Q (.ref r') H'
section
variable {P : Program} {w : World} {K : PySem.W.Frag} {mg : Str → Option Value} {base : Heap}
theorem ok_Reader_copy {C_ : Addr} (A : AtM K (fun f => Meth K C_ "copy" f) "copy" "Reader.copy" s_Reader_copy ["self"]) (B : Bn mg) (RC : RdC K mg C_) (H_Reader___init__ : CalM P w K mg base (L2.CX P w) (fun f => Mk K C_ f) ["self", "step"] 3 (sp_Reader___init__ K C_)) : CalM P w K mg base CX0 (fun f => Meth K C_ "copy" f) ["self"] 5 (sp_Reader_copy K C_) := by
  obtain ⟨f, fd, F, gF, bF⟩ := A
  obtain ⟨f_Reader___init__, fd_Reader___init__, O_Reader___init__, M_Reader___init__, B_Reader___init__⟩ := H_Reader___init__
  refine ⟨f, fd, F.ok sc_Reader_copy (fun vs H Q E h => ?_) (fun cdv A outer s H vs Q E hr h => ?_), gF, bF⟩
  · repeat (first | (obtain ⟨rfl, _⟩ := h; rfl) | (obtain ⟨_, h⟩ := h))
  · obtain ⟨r, p, m, l, past, rfl, R, k⟩ := h
    obtain ⟨dx, ho⟩ := R.o
    have hsz := sizeLine_eq
    refine ⟨_, (pss_cons (ps_set (i := 1) sc_Reader_copy.nd rfl (.inl rfl) (pe_makeR M_Reader___init__ O_Reader___init__ (hr.mono (by first | decide | exact Nat.le_refl _)) (by rfl) RC.g B_Reader___init__ (fun σ => passAt takes0 σ) (pa_cons (pe_fld (pv 0) rfl) pa_nil)))
      (pss_cons (ps_fld (pv 1) (pe_fld (pv 0) rfl) rfl)
      (pss_cons (ps_fld (pv 1) (pe_callTy (call_list_of_ K) (by rfl) B.list_ (by decide +kernel) (pa_cons (pe_fld (pv 0) rfl) pa_nil)) rfl)
      (pss_one (ps_ret (pv 1)))))), ?_⟩
    refine ⟨_, rfl, r, C_, dx, _, _, rfl, ho, RC.cl, RC.nS, rd_gs _ _ _, ?_⟩
    refine fun x dx1 nx ndx nex => ?_
    have s1 : Same H (upd (upd H dx1 (.own x)) x (.ins C_ dx1 [])) := fun b o e => by
      rw [upd_ne (ne_of_none e nx), upd_ne (ne_of_none e ndx)]
      exact e
    refine ⟨x, dx1, .int (m : Nat), rfl, upd_same, .int _, fun m' em m1 m64 p1 H1 k1 np1 R1 => ⟨rfl, ?_⟩, fun e => ?_⟩
    rotate_left
    · have := isI_yes (n := (m : Int)) (lo := 1) (hi := 64) (by have := R.m1; omega) (by have := R.m64; omega)
      rw [this] at e
      cases e
    have em' : m' = m := by
      have := V.int.inj em
      omega
    subst em'
    have S1 : Same H H1 := fun b o e => k1 b o (ne_of_none e nx) (s1 _ _ e)
    obtain ⟨dx2, o1⟩ := R1.o
    have Ro := S1 _ _ ho
    refine ⟨_, rfl, r, C_, dx, _, _, rfl, Ro, RC.cl, RC.nT, rd_gt _ _ _, _, rfl, x, C_, dx2, _, rfl, o1, RC.cl, RC.nT, (by show 3 < 1000; decide), ?_⟩
    rw [rd_text]
    have S2 : Same H (upd H1 x (.ins C_ dx2 (rdF m' (tx l) p1))) := fun b o e => by
      rw [upd_ne (ne_of_none e nx)]
      exact S1 _ _ e
    have Ro2 := S2 _ _ ho
    have Rp2 := S2 _ _ R.p
    have o2 : (upd H1 x (.ins C_ dx2 (rdF m' (tx l) p1))) x = some (.ins C_ dx2 (rdF m' (tx l) p1)) := upd_same
    generalize upd H1 x (.ins C_ dx2 (rdF m' (tx l) p1)) = H2 at *
    refine ⟨_, rfl, r, C_, dx, _, _, rfl, Ro2, RC.cl, RC.nP, rd_gp _ _ _, p, _, rfl, .inl (.inl (.inl Rp2)), fun q nq => ?_⟩
    have nxq : x ≠ q := ne_of_none o2 nq
    refine ⟨_, rfl, x, C_, dx2, _, rfl, (upd_ne nxq).trans o2, RC.cl, RC.nP, (by show 3 < 1000; decide), ?_⟩
    rw [rd_past]
    refine ⟨_, rfl, k x q _ (fun b o e => ?_) nx (S2.free nq) nxq ⟨⟨dx2, upd_same⟩, ?_, m1, m64, R.l4, R.p4⟩⟩
    · rw [upd_ne (ne_of_none e nx), upd_ne (ne_of_none (S2 _ _ e) nq)]
      exact S2 _ _ e
    · rw [upd_ne (Ne.symm nxq), upd_same]
end

abbrev s_Reader_undo : Stmt := inClass (topS 17) 6
theorem sc_Reader_undo : FnScope ["self"] ["self"] (defScope s_Reader_undo) := ⟨rfl, rfl, rfl, by decide +kernel, rfl, by decide +kernel, by decide +kernel⟩
theorem dpU {K : PySem.W.Frag} {H : Hp} : ∀ (ws : List Nat), DpAll K H (ws.map fun n => V.int (n : Nat)) (ws.map fun n => PyData.int (n : Nat))
  | [] => .nil
  | w :: ws => .cons (.int _) (dpU ws)
theorem shU (ws : List Nat) : SeqAt.shaped (.list (ws.map fun n => PyData.int (n : Nat))) = true := ok_shaped (n := 1) (fun d hd => by
  obtain ⟨x, _, rfl⟩ := List.mem_map.mp hd
  trivial) (by decide)
def sp_Reader_undo (K : PySem.W.Frag) (C : Addr) : Sp := fun vs H Q _ => ∃ (r p : Addr) (m : Nat) (l : List Bool) (past : List Nat), vs = [.ref r] ∧ RdAt C H r p m l past ∧
  (past = [] → ∀ (H' : Hp), Same H H' → Q (.bl false) H') ∧
  (∀ q c, past = q ++ [c] → ∀ (H' : Hp), KeepR r p H H' → RdAt C H' r p m (l.take c) q → Q (.bl true) H')
section
variable {P : Program} {w : World} {K : PySem.W.Frag} {mg : Str → Option Value} {base : Heap}
theorem ok_Reader_undo {C_ : Addr} (A : AtM K (fun f => Meth K C_ "undo" f) "undo" "Reader.undo" s_Reader_undo ["self"]) (B : Bn mg) (RC : RdC K mg C_) : CalM P w K mg base CX0 (fun f => Meth K C_ "undo" f) ["self"] 1 (sp_Reader_undo K C_) := by
  obtain ⟨f, fd, F, gF, bF⟩ := A
  refine ⟨f, fd, F.ok sc_Reader_undo (fun vs H Q E h => ?_) (fun cdv A outer s H vs Q E hr h => ?_), gF, bF⟩
  · repeat (first | (obtain ⟨rfl, _⟩ := h; rfl) | (obtain ⟨_, h⟩ := h))
  · obtain ⟨r, p, m, l, past, rfl, R, k0, k⟩ := h
    obtain ⟨dx, ho⟩ := R.o
    have hsz := sizeLine_eq
    refine ⟨_, (pss_cons (ps_if (pt_cmpR (op_eqD_ K hr.units) (pe_fld (pv 0) rfl) (pe_lst pa_nil) (nomark _))
      (pss_one (ps_ret pe_bl))
      pss_nil)
      (pss_cons (ps_fld (pv 0) (pe_slice sl_str (pe_fld (pv 0) rfl) po_none (po_some (pe_bm0 PySem.F.plainAttrs_list PySem.F.slot_list_pop PySem.F.type_list_pop mt_pop (pe_fld (pv 0) rfl)))) rfl)
      (pss_one (ps_ret pe_bl)))), ?_⟩
    refine ⟨_, rfl, r, C_, dx, _, _, rfl, ho, RC.cl, RC.nP, rd_gp _ _ _, ?_⟩
    refine ⟨(by show 0 ≤ sizeLine; omega), fun E1 nE => ?_⟩
    have s1 := same_new nE (.lst [])
    have o1 := s1 _ _ ho
    have R1 := R.same s1
    have K1 : KeepR r p H (upd H E1 (.lst [])) := KeepR.of s1
    refine ⟨.list (past.map fun n => PyData.int (n : Nat)), .list [], .lst (.inl (.inl R1.p)) (dpU past), .lst (.inl (.inl upd_same)) .nil, shU past, by decide +kernel, _, rfl, ?_⟩
    rw [eqv_nil]
    generalize upd H E1 (.lst []) = H1 at *
    rcases List.eq_nil_or_concat past with e | ⟨q, c, e⟩
    · rw [e]
      exact iteT (k0 e _ s1)
    rw [List.concat_eq_append] at e
    have he : (past.map fun n => PyData.int (n : Nat)).isEmpty = false := by
      rw [e]
      cases q <;> rfl
    rw [he]
    refine iteF ?_
    have hp1 := R1.p
    rw [e, List.map_append] at hp1
    have nrp : r ≠ p := fun z => by
      rw [z] at o1
      rw [o1] at hp1
      cases hp1
    refine ⟨_, rfl, r, C_, dx, _, _, rfl, o1, RC.cl, RC.nT, rd_gt _ _ _, ?_⟩
    refine ⟨_, rfl, r, C_, dx, _, _, rfl, o1, RC.cl, RC.nP, rd_gp _ _ _, ?_⟩
    refine ⟨.inl ⟨rfl, _, .inl (.inl hp1)⟩, p, _, .int (c : Nat), rfl, rfl, hp1, ?_, c, rfl, ?_⟩
    · rw [List.length_append, List.length_map, List.map_cons, List.map_nil, List.length_singleton, Nat.add_sub_cancel, List.getElem?_append_right (by rw [List.length_map]; exact Nat.le_refl _), List.length_map, Nat.sub_self]
      rfl
    have o2 : (upd H1 p (.lst (q.map fun n => V.int (n : Nat)))) r = some (.ins C_ dx (rdF m (tx l) p)) := (upd_ne nrp).trans o1
    refine ⟨tx l, rfl, by rw [tx_len]; have := R.l4; omega, ?_⟩
    rw [cut_to, show ((q.map fun n => V.int (n : Nat)) ++ [c].map fun n => V.int (n : Nat)).dropLast = q.map fun n => V.int (n : Nat) from List.dropLast_concat]
    refine ⟨_, rfl, r, C_, dx, _, rfl, o2, RC.cl, RC.nT, (by show 3 < 1000; decide), ?_⟩
    rw [rd_text]
    have hp4 := R.p4
    rw [e, List.length_append] at hp4
    refine k q c e _ (fun b o h1 h2 hb => ?_) ⟨⟨dx, upd_same⟩, ?_, R.m1, R.m64, by rw [List.length_take]; have := R.l4; omega, by omega⟩
    · rw [upd_ne h1, upd_ne h2]
      exact K1 b o h1 h2 hb
    · rw [upd_ne (Ne.symm nrp), upd_same]
end

abbrev s__law_signs : Stmt := topS 27
theorem sc__law_signs : FnScope ["_law_h", "_law_many", "_law_found", "_law_k"] ["_law_h", "_law_many"] (defScope s__law_signs) := ⟨rfl, rfl, rfl, by decide +kernel, rfl, by decide +kernel, by decide +kernel⟩
def sp__law_signs (K : PySem.W.Frag) : Sp := fun vs H Q _ => ∃ (h q : Addr) (n : Nat), vs = [.ref h, .int (n : Nat)] ∧ LawH H h q ∧ n ≤ 1000 ∧
  ∀ (l : List Bool) (H' : Hp), l.length = n → LawH H' h q → Sm h q H H' → Q (.str (tx l)) H'
theorem one_sign (b : Bool) : (⟨#[sg b]⟩ : Str) = tx [b] := by
  cases b <;> decide +kernel
theorem at_01 (b : Bool) : atI ("01" : Str).cps.toList (if b then 1 else 0) = some (sg b) := by
  cases b <;> decide +kernel
section
variable {P : Program} {w : World} {K : PySem.W.Frag} {mg : Str → Option Value} {base : Heap}
theorem ok__law_signs (A : At K mg "_law_signs" s__law_signs ["_law_h", "_law_many"]) (B : Bn mg) (H__law_next : CalE P w K mg base "_law_next" ["_law_h", "_law_cap"] 1 (sp__law_next K)) : CalE P w K mg base "_law_signs" ["_law_h", "_law_many"] 2 (sp__law_signs K) := by
  obtain ⟨f, fd, F, gF, bF⟩ := A
  obtain ⟨f__law_next, fd__law_next, G__law_next⟩ := H__law_next
  refine ⟨f, fd, F.ok sc__law_signs (fun vs H Q E h => ?_) (fun cdv A outer s H vs Q E hr h => ?_), gF, F.kp, bF⟩
  · repeat (first | (obtain ⟨rfl, _⟩ := h; rfl) | (obtain ⟨_, h⟩ := h))
  · obtain ⟨h, q, n, rfl, L, hn, k⟩ := h
    have hsz := sizeLine_eq
    refine ⟨_, (pss_cons (ps_set (i := 2) sc__law_signs.nd rfl (.inl rfl) pe_str)
      (pss_cons (ps_for PassesOwn.never rfl (pi_range1 (by rfl) B.range_ (pa_cons (pv 1) pa_nil)) (pg_name (i := 3) sc__law_signs.nd rfl (.inl rfl))
      (pss_one (ps_set (i := 2) sc__law_signs.nd rfl (.inl rfl) (pe_op op_add_str (pv 2) (pe_ix ix_str pe_str (pe_call G__law_next.ok (hr.mono (by first | decide | exact Nat.le_refl _)) (by rfl) G__law_next.g G__law_next.kp G__law_next.b .nil pass0 (pa_cons (pv 0) (pa_cons pe_int pa_nil))) (fun _ _ => rfl))))))
      (pss_one (ps_ret (pv 2))))), ?_⟩
    refine ⟨_, rfl, _, rfl, by omega, by omega, ?_⟩
    rw [Int.toNat_natCast]
    refine for_range (lo := 0) (n := n) (fun i σ H2 => ∃ v3 l, σ = [some (.ref h), some (.int (n : Nat)), some (.str (tx l)), v3] ∧ l.length = i ∧ LawH H2 h q ∧ Sm h q H H2) ⟨_, [], by rw [← tx_nil]; rfl, rfl, L, Sm.refl _ _ _⟩ ?_ ?_
    · rintro i σ H2 hi ⟨v3, l, rfl, hl, L2, S2⟩
      refine ⟨_, rfl, _, rfl, h, q, 2, rfl, L2, by decide, by decide, fun z H3 z0 z1 L3 S3 => ?_⟩
      obtain ⟨b, rfl⟩ : ∃ b : Bool, z = (if b then 1 else 0) := by
        by_cases c : z = 1
        · exact ⟨true, by rw [c]; rfl⟩
        · exact ⟨false, by show z = 0; omega⟩
      refine ⟨_, _, _, rfl, rfl, (by show 2 ≤ sizeLine; omega), at_01 b, ?_⟩
      refine ⟨_, _, rfl, rfl, ?_, ?_⟩
      · rw [tx_len]
        show l.length + 1 ≤ sizeLine
        omega
      · refine ⟨some (.int (0 + (i : Int))), l ++ [b], ?_, by rw [List.length_append, hl]; rfl, L3, S2.trans S3⟩
        rw [one_sign, tx_app]
        rfl
    · rintro σ H2 ⟨v3, l, rfl, hl, L2, S2⟩
      exact ⟨_, rfl, k l H2 hl L2 S2⟩
end

abbrev s__law_due : Stmt := topS 31
theorem sc__law_due : FnScope ["_law_step_here", "_law_text", "_law_signs_here", "_law_sign", "_law_one"] ["_law_step_here", "_law_text", "_law_signs_here"] (defScope s__law_due) := ⟨rfl, rfl, rfl, by decide +kernel, rfl, by decide +kernel, by decide +kernel⟩
theorem AnyV.same {K : PySem.W.Frag} {H H' : Hp} (s : Same H H') {x : V} (h : AnyV K H x) : AnyV K H' x := by
  cases h with
  | non => exact .non
  | bl b => exact .bl b
  | int i => exact .int i
  | str z => exact .str z
  | lst h => exact .lst (TyX_same s h)
  | tup h => exact .tup (TyX_same s h)
  | dct h => exact .dct (TyX_same s h)
def sp__law_due (K : PySem.W.Frag) : Sp := fun vs H Q _ => ∃ (m : Nat) (l : List Bool) (x : V), vs = [.int (m : Nat), .str (tx l), x] ∧ 1 ≤ m ∧ m ≤ 64 ∧ l.length ≤ 4000 ∧ AnyV K H x ∧ (∀ z, x = .str z → z.length ≤ 100000 ∧ ∀ c ∈ z.cps.toList, PyData.strOk ⟨#[c]⟩ = true) ∧
  (isT x = false → ∀ (H' : Hp), Same H H' → Q (.str "text") H') ∧
  (∀ s : List Bool, x = .str (tx s) → s.length ≤ 4000 → (4000 < l.length + s.length → ∀ (H' : Hp), Same H H' → Q (.str "full") H') ∧
    (l.length + s.length ≤ 4000 → ∀ (T : Addr) (H' : Hp), Same H H' → H T = none → H' T = some (.tup (((cuts m (l ++ s)).map fun x => V.int (x.1 : Nat)).drop (cuts m l).length)) → Q (.ref T) H'))
section
variable {P : Program} {w : World} {K : PySem.W.Frag} {mg : Str → Option Value} {base : Heap}
theorem ok__law_due (A : At K mg "_law_due" s__law_due ["_law_step_here", "_law_text", "_law_signs_here"]) (B : Bn mg) (H__law_ends : CalE P w K mg base "_law_ends" ["_law_step_here", "_law_text"] 3 (sp__law_ends K)) : CalE P w K mg base "_law_due" ["_law_step_here", "_law_text", "_law_signs_here"] 4 (sp__law_due K) := by
  obtain ⟨f, fd, F, gF, bF⟩ := A
  obtain ⟨f__law_ends, fd__law_ends, G__law_ends⟩ := H__law_ends
  refine ⟨f, fd, F.ok sc__law_due (fun vs H Q E h => ?_) (fun cdv A outer s H vs Q E hr h => ?_), gF, F.kp, bF⟩
  · repeat (first | (obtain ⟨rfl, _⟩ := h; rfl) | (obtain ⟨_, h⟩ := h))
  · obtain ⟨m, l, x, rfl, m1, m64, l4, hx, hz, kB, k⟩ := h
    have hsz := sizeLine_eq
    refine ⟨_, (pss_cons (ps_if (PW.pt (pw_or (pt_not (pt_val (pe_callB (call_isi_ K) (by rfl) B.isinstance_ (by decide +kernel) (pa_cons (pv 2) (pa_cons (pe_bltn (v := .ty "str") (by rfl) B.str_ (by decide +kernel) rfl) pa_nil))))) (pw_or (pt_cmpR op_gt (pe_callB call_len_str_ (by rfl) B.len_ (by decide +kernel) (pa_cons (pv 2) pa_nil)) pe_int (nomark _)) (pw_or1 (pt_cmpR (op_neD_ K hr.units) (pe_lc (own := [("_law_sign", 3)]) (g := gName 3) (tt := _) rfl sc__law_due.nd (pi_str (pv 2)) (blkOk_by (own := [("_law_sign", 3)]) (N := ["_law_step_here", "_law_text", "_law_signs_here", "_law_sign", "_law_one"]) (sc := defScope s__law_due) (by decide +kernel)) (fun _ _ _ _ _ => (pg_name (i := 3) sc__law_due.nd rfl (.inl rfl))) (fun _ _ _ _ _ => (pts_one (pt_cmpR op_notIn_sign (pv 3) pe_str (by rfl)))) (fun _ _ _ _ _ => (pv 3))) (pe_lst pa_nil) (nomark _))))))
      (pss_one (ps_ret pe_str))
      pss_nil)
      (pss_cons (ps_if (pt_cmpR op_gt (pe_op op_add (pe_callB call_len_str_ (by rfl) B.len_ (by decide +kernel) (pa_cons (pv 1) pa_nil)) (pe_callB call_len_str_ (by rfl) B.len_ (by decide +kernel) (pa_cons (pv 2) pa_nil))) pe_int (nomark _))
      (pss_one (ps_ret pe_str))
      pss_nil)
      (pss_one (ps_ret (pe_callTy (call_tuple_of_ K) (by rfl) B.tuple_ (by decide +kernel) (pa_cons (pe_slice (sl_list_ K) (pe_lc (own := [("_law_one", 4)]) (g := gName 4) (tt := tYes) rfl sc__law_due.nd (pi_list (pe_call G__law_ends.ok (hr.mono (by first | decide | exact Nat.le_refl _)) (by rfl) G__law_ends.g G__law_ends.kp G__law_ends.b .nil pass0 (pa_cons (pv 0) (pa_cons (pe_op op_add_str (pv 1) (pv 2)) pa_nil)))) (blkOk_by (own := [("_law_one", 4)]) (N := ["_law_step_here", "_law_text", "_law_signs_here", "_law_sign", "_law_one"]) (sc := defScope s__law_due) (by decide +kernel)) (fun _ _ _ _ _ => (pg_name (i := 4) sc__law_due.nd rfl (.inl rfl))) (fun _ _ _ _ _ => pts_nil) (fun _ _ _ _ _ => (pe_ix (ix_tup_ K) (pv 4) pe_int (fun _ _ => rfl)))) (po_some (pe_callB (call_len_seq_ K) (by rfl) B.len_ (by decide +kernel) (pa_cons (pe_call G__law_ends.ok (hr.mono (by first | decide | exact Nat.le_refl _)) (by rfl) G__law_ends.g G__law_ends.kp G__law_ends.b .nil pass0 (pa_cons (pv 0) (pa_cons (pv 1) pa_nil))) pa_nil))) po_none) pa_nil)))))), ?_⟩
    cases hx with
    | str z =>
      obtain ⟨hz, hc⟩ := hz z rfl
      refine ⟨_, rfl, _, _, _, _, true, rfl, .ty _, .base (.str _), kit_ty (by decide +kernel), _, rfl, iteF ?_⟩
      refine ⟨_, rfl, _, rfl, by omega, _, _, rfl, rfl, _, rfl, ?_⟩
      by_cases c : (4000 : Int) < (z.length : Int)
      · refine iteDT c (iteT (kB ?_ _ (.refl _)))
        show (decide (z.length ≤ 4000) && _) = false
        rw [decide_eq_false (by omega), Bool.false_and]
      have e1 : isT (.str z) = z.cps.toList.all sgOk := by
        show (decide (z.length ≤ 4000) && _) = _
        rw [decide_eq_true (by omega), Bool.true_and]
      refine iteDF c ?_
      refine ⟨_, rfl, _, rfl, fun D nD => ?_⟩
      refine lc_str (x := z) (fun i H2 => Same H H2 ∧ H2 D = some (.lst (((z.cps.toList.take i).filter fun c => !sgOk c).map fun c => V.str ⟨#[c]⟩))) ⟨same_new nD _, upd_same⟩ ?_ ?_
      · rintro i c H2 hci ⟨s2, e2⟩
        refine ⟨rfl, _, rfl, c, _, rfl, rfl, _, rfl, ?_⟩
        cases hs : sgOk c with
        | true =>
          rw [show (!decide (c ∈ ("01" : Str).cps.toList)) = false from congrArg Bool.not hs]
          refine iteF ⟨s2, ?_⟩
          rw [e2, take_more hci, List.filter_append, List.filter_cons_of_neg (by rw [hs]; decide), List.filter_nil, List.append_nil]
        | false =>
          rw [show (!decide (c ∈ ("01" : Str).cps.toList)) = true from congrArg Bool.not hs]
          refine iteT ⟨_, rfl, _, e2, ?_, ?_, ?_⟩
          · have h1 := List.length_filter_le (fun c => !sgOk c) (z.cps.toList.take i)
            rw [List.length_map]
            have h3 : z.cps.size = z.length := rfl
            have h4 : (z.cps.toList.take i).length ≤ z.cps.toList.length := by
              rw [List.length_take]
              exact Nat.min_le_right _ _
            have h5 : z.cps.toList.length = z.cps.size := Array.length_toList
            omega
          · intro a o ho
            rw [upd_ne (ne_of_none ho nD)]
            exact s2 a o ho
          · rw [upd_same, take_more hci, List.filter_append, List.filter_cons_of_pos (by rw [hs]; rfl), List.filter_nil, List.map_append]
            rfl
      rintro H2 ⟨s2, e2⟩
      rw [show z.cps.size = z.cps.toList.length from (Array.length_toList).symm, List.take_length] at e2
      refine ⟨(by show 0 ≤ sizeLine; omega), fun E nE => ?_⟩
      have s3 := same_new nE (.lst [])
      obtain ⟨fs, hfs⟩ : ∃ fs, z.cps.toList.filter (fun c => !sgOk c) = fs := ⟨_, rfl⟩
      rw [hfs] at e2
      have dps : ∀ {H : Hp} (fs : List Nat), DpAll K H (fs.map fun c => V.str ⟨#[c]⟩) (fs.map fun c => PyData.str ⟨#[c]⟩) := fun {H} fs => by
        induction fs with
        | nil => exact .nil
        | cons c fs ih => exact .cons (.str _) ih
      have okf : ∀ d ∈ fs.map (fun c => PyData.str ⟨#[c]⟩), OkN 0 d := fun d hd => by
        obtain ⟨c, hcf, rfl⟩ := List.mem_map.mp hd
        rw [← hfs] at hcf
        exact hc c (List.mem_filter.mp hcf).1
      refine ⟨.list (fs.map fun c => PyData.str ⟨#[c]⟩), .list [], .lst (.inl (.inl (s3 _ _ e2))) (dps fs), .lst (.inl (.inl upd_same)) .nil, ok_shaped (n := 1) okf (by decide), by decide +kernel, _, rfl, ?_⟩
      rw [eqv_nil]
      have S3 := s2.trans s3
      generalize upd H2 E (.lst []) = H3 at *
      cases e : isT (.str z) with
      | false =>
        have hne : fs ≠ [] := fun q => by
          rw [e1] at e
          rw [q, List.filter_eq_nil_iff] at hfs
          have : z.cps.toList.all sgOk = true := List.all_eq_true.mpr fun c hc => by
            have := hfs c hc
            cases h : sgOk c with
            | true => rfl
            | false => rw [h] at this; exact absurd rfl this
          rw [this] at e
          cases e
        have hf : (fs.map fun c => PyData.str ⟨#[c]⟩).isEmpty = false := by
          cases fs with
          | nil => exact absurd rfl hne
          | cons a b => rfl
        rw [hf]
        exact iteT (kB e _ S3)
      | true =>
        have hnil : fs = [] := by
          rw [e1] at e
          rw [← hfs, List.filter_eq_nil_iff]
          intro c hc
          rw [List.all_eq_true.mp e c hc]
          decide
        subst hnil
        refine iteF ?_
        obtain ⟨s, es, hs4⟩ := isT_tx e
        cases es
        obtain ⟨kF, kG⟩ := k s rfl hs4
        refine ⟨_, rfl, _, rfl, by rw [tx_len]; omega, _, rfl, _, rfl, by rw [tx_len]; omega, _, _, rfl, rfl, _, _, rfl, rfl, _, rfl, ?_⟩
        rw [tx_len, tx_len]
        by_cases c2 : 4000 < l.length + s.length
        · exact iteDT (by omega) (kF c2 _ S3)
        refine iteDF (by omega) ?_
        have kG := kG (by omega)
        refine ⟨_, rfl, _, rfl, _, rfl, _, _, rfl, rfl, by rw [tx_len, tx_len]; omega, m, l ++ s, by rw [tx_app]; rfl, m1, m64, by rw [List.length_append]; omega, fun D2 us H4 s4 nD2 eD2 hP => ?_⟩
        have hcl := cuts_len m1 (l ++ s)
        rw [List.length_append] at hcl
        refine ⟨D2, rfl, ⟨_, .inl (.inl eD2)⟩, fun L nL => ?_⟩
        refine lc_list (K := K) (a := D2) (xs := us) (fun i H5 => Same H4 H5 ∧ H5 L = some (.lst (((cuts m (l ++ s)).take i).map fun x => V.int (x.1 : Nat)))) ⟨same_new nL _, by rw [upd_same]; rfl⟩ (fun i H5 _ h5 => .inl (.inl (h5.1 _ _ eD2))) ?_ ?_
        · rintro i x H5 hx5 ⟨s5, eL⟩
          have hi2 : i < (cuts m (l ++ s)).length := hP.len ▸ (List.getElem?_eq_some_iff.mp hx5).1
          have hy : (cuts m (l ++ s))[i]? = some (cuts m (l ++ s))[i] := List.getElem?_eq_getElem hi2
          obtain ⟨u, ta, tb⟩ := hP.at_ i _ hy
          rw [hx5] at ta
          cases Option.some.inj ta
          refine ⟨rfl, _, rfl, u, _, _, _, rfl, rfl, .inl (.inl (s5 _ _ tb)), at_of (j := 0) rfl rfl, _, eL, ?_, ?_, ?_⟩
          · rw [List.length_map, List.length_take]
            omega
          · intro a o ho
            rw [upd_ne (ne_of_none ho nL)]
            exact s5 a o ho
          · rw [upd_same, take_more hy, List.map_append]
            rfl
        rintro H5 ⟨s5, eL⟩
        rw [hP.len, List.take_length] at eL
        refine ⟨_, rfl, _, rfl, m, l, rfl, m1, m64, by omega, fun D6 us6 H6 s6 nD6 eD6 hP6 => ?_⟩
        refine ⟨D6, _, rfl, .inl (.inl (.inl eD6)), _, rfl, L, _, rfl, .inl (.inl (s6 _ _ eL)), fun p np => ?_⟩
        rw [hP6.len]
        refine ⟨p, _, rfl, .inl ⟨.inl (.inl upd_same), fun T nT => ?_⟩⟩
        have s7 := S3.trans (s4.trans (s5.trans (s6.trans (same_new np (.lst (cutV ((cuts m (l ++ s)).map fun x => V.int (x.1 : Nat)) (some ((cuts m l).length : Int)) none))))))
        refine kG T _ (s7.trans (same_new nT _)) (s7.free nT) ?_
        rw [upd_same, cutV_from]
    | non => exact ⟨_, rfl, _, _, _, _, false, rfl, .ty _, .base .non, kit_ty (by decide +kernel), _, rfl, iteT (kB rfl _ (.refl _))⟩
    | bl b => exact ⟨_, rfl, _, _, _, _, false, rfl, .ty _, .base (.bl b), kit_ty (by decide +kernel), _, rfl, iteT (kB rfl _ (.refl _))⟩
    | int i => exact ⟨_, rfl, _, _, _, _, false, rfl, .ty _, .base (.int i), kit_ty (by decide +kernel), _, rfl, iteT (kB rfl _ (.refl _))⟩
    | lst h => exact ⟨_, rfl, _, _, _, _, false, rfl, .ty _, h, kit_ty (by decide +kernel), _, rfl, iteT (kB rfl _ (.refl _))⟩
    | tup h => exact ⟨_, rfl, _, _, _, _, false, rfl, .ty _, h, kit_ty (by decide +kernel), _, rfl, iteT (kB rfl _ (.refl _))⟩
    | dct h => exact ⟨_, rfl, _, _, _, _, false, rfl, .ty _, h, kit_ty (by decide +kernel), _, rfl, iteT (kB rfl _ (.refl _))⟩
end

abbrev s__law_made : Stmt := topS 30
theorem sc__law_made : FnScope ["_law_step_here", "_law_found", "error"] ["_law_step_here"] (defScope s__law_made) := ⟨rfl, rfl, rfl, by decide +kernel, rfl, by decide +kernel, by decide +kernel⟩
def sp__law_made (K : PySem.W.Frag) (C : Addr) : Sp := fun vs H Q _ => ∃ x : V, vs = [x] ∧ AnyV K H x ∧ isI x 1 64 = false ∧ ∀ H', Same H H' → Q (.bl true) H'
section
variable {P : Program} {w : World} {K : PySem.W.Frag} {mg : Str → Option Value} {base : Heap}
theorem ok__law_made {C_ : Addr} (A : At K mg "_law_made" s__law_made ["_law_step_here"]) (B : Bn mg) (RC : RdC K mg C_) (H_Reader___init__ : CalM P w K mg base (L2.CX P w) (fun f => Mk K C_ f) ["self", "step"] 3 (sp_Reader___init__ K C_)) (HT_BadStep : ∃ C, ExT K mg "BadStep" C) (HT_StepError : ∃ C, ExT K mg "StepError" C) (HE_BadStep : ∀ C, ClsAt K "BadStep" C → ExcC K C) (HK_BadStep_StepError : ∀ C D, ClsAt K "BadStep" C → ClsAt K "StepError" D → PySem.W.kitOne K (.ref C) (.ref D) = some true) : CalE P w K mg base "_law_made" ["_law_step_here"] 5 (sp__law_made K C_) := by
  obtain ⟨f, fd, F, gF, bF⟩ := A
  obtain ⟨f_Reader___init__, fd_Reader___init__, O_Reader___init__, M_Reader___init__, B_Reader___init__⟩ := H_Reader___init__
  obtain ⟨A_BadStep, T_BadStep⟩ := HT_BadStep
  obtain ⟨A_StepError, T_StepError⟩ := HT_StepError
  have E_BadStep := HE_BadStep _ T_BadStep.n
  have KT_BadStep_StepError := HK_BadStep_StepError _ _ T_BadStep.n T_StepError.n
  refine ⟨f, fd, F.ok sc__law_made (fun vs H Q E h => ?_) (fun cdv A outer s H vs Q E hr h => ?_), gF, F.kp, bF⟩
  · repeat (first | (obtain ⟨rfl, _⟩ := h; rfl) | (obtain ⟨_, h⟩ := h))
  · obtain ⟨x, rfl, hx, hi, k⟩ := h
    refine ⟨_, (pss_cons (ps_set (i := 1) sc__law_made.nd rfl (.inl rfl) pe_bl)
      (pss_cons (ps_try_as (i := 2) (Wout := fun _ _ _ _ => False) rfl rfl sc__law_made.nd rfl rfl ⟨rfl, by decide, .inl T_BadStep.g⟩ takes0 (fun W pn xe tk po => (pss_one (ps_expr (pe_makeR M_Reader___init__ O_Reader___init__ (hr.mono (by first | decide | exact Nat.le_refl _)) (by rfl) RC.g B_Reader___init__ (fun σ => passAt tk σ) (pa_cons (pv 0) pa_nil))))) (fun a_ oe cls d pn hz hf => (pss_one (ps_set (i := 1) sc__law_made.nd rfl (.inl rfl) (pe_callB (call_isX E_BadStep hz hf) (by rfl) B.isinstance_ (by decide +kernel) (pa_cons (pv 2) (pa_cons (pe_glob (v := .ref A_StepError) (by rfl) T_StepError.g rfl) pa_nil)))))))
      (pss_one (ps_ret (pv 1))))), ?_⟩
    refine ⟨_, rfl, fun r dx nr ndx nrd => ?_⟩
    have s1 : Same H (upd (upd H dx (.own r)) r (.ins C_ dx [])) := fun b o e => by
      rw [upd_ne (ne_of_none e nr), upd_ne (ne_of_none e ndx)]
      exact e
    have hx1 := AnyV.same s1 hx
    refine ⟨r, dx, x, rfl, upd_same, hx1, fun m em m1 m64 => ?_, fun _ D hD => ?_⟩
    · rw [em, isI_yes (by omega) (by omega)] at hi
      cases hi
    · cases ClsAt.one hD T_BadStep.n
      refine ⟨true, T_BadStep.te, fun _ a0 na => ?_, fun q => nomatch q⟩
      refine ⟨_, rfl, rfl, rfl, _, _, true, rfl, fun u hu => hu, KT_BadStep_StepError, ?_⟩
      exact ⟨_, rfl, k _ s1⟩
end

abbrev s_check_text : Stmt := topS 11
theorem sc_check_text : FnScope ["thing", "sign"] ["thing"] (defScope s_check_text) := ⟨rfl, rfl, rfl, by decide +kernel, rfl, by decide +kernel, by decide +kernel⟩
def sp_check_text (K : PySem.W.Frag) : Sp := fun vs H Q E => ∃ x : V, vs = [x] ∧ AnyV K H x ∧ (∀ z, x = .str z → z.length ≤ 100000) ∧ (isT x = true → ∀ H', Same H H' → Q .non H') ∧ (isT x = false → ∀ (C : Addr) (H' : Hp), ClsAt K "BadText" C → Same H H' → E (.ref C) none H')
section
variable {P : Program} {w : World} {K : PySem.W.Frag} {mg : Str → Option Value} {base : Heap}
theorem ok_check_text (A : At K mg "check_text" s_check_text ["thing"]) (B : Bn mg) (K_MOST_TEXT : ∃ v, mg "MOST_TEXT" = some v ∧ RelV (.int 4000) v) (HT_BadText : ∃ C, ExT K mg "BadText" C) : CalX P w K mg base "check_text" ["thing"] 1 (sp_check_text K) := by
  obtain ⟨f, fd, F, gF, bF⟩ := A
  obtain ⟨v_MOST_TEXT, C_MOST_TEXT⟩ := K_MOST_TEXT
  obtain ⟨A_BadText, T_BadText⟩ := HT_BadText
  refine ⟨f, fd, F.okX sc_check_text (fun vs H Q E h => ?_) (fun cdv A outer s H vs Q E hr h => ?_), gF, F.kp, bF⟩
  · repeat (first | (obtain ⟨rfl, _⟩ := h; rfl) | (obtain ⟨_, h⟩ := h))
  · obtain ⟨x, rfl, hx, hz, k, kR⟩ := h
    obtain ⟨_, rfl⟩ := C_MOST_TEXT.2
    have hsz := sizeLine_eq
    refine ⟨_, (pss_one (ps_if (PW.pt (pw_or (pt_not (pt_val (pe_callB (call_isi_ K) (by rfl) B.isinstance_ (by decide +kernel) (pa_cons (pv 0) (pa_cons (pe_bltn (v := .ty "str") (by rfl) B.str_ (by decide +kernel) rfl) pa_nil))))) (pw_or (pt_cmpR op_gt (pe_callB call_len_str_ (by rfl) B.len_ (by decide +kernel) (pa_cons (pv 0) pa_nil)) (pe_glob (by rfl) C_MOST_TEXT.1 C_MOST_TEXT.2) (nomark _)) (pw_or1 (pt_not (pt_val (pe_callB (cr_all_ K rfl) (by rfl) B.all_ (by decide +kernel) (pa_cons (pe_lc (own := [("sign", 1)]) (g := gName 1) (tt := tYes) rfl sc_check_text.nd (pi_str (pv 0)) (blkOk_by (own := [("sign", 1)]) (N := ["thing", "sign"]) (sc := defScope s_check_text) (by decide +kernel)) (fun _ _ _ _ _ => (pg_name (i := 1) sc_check_text.nd rfl (.inl rfl))) (fun _ _ _ _ _ => pts_nil) (fun _ _ _ _ _ => (pe_cmpR op_in_sign (pv 1) pe_str (by rfl)))) pa_nil))))))))
      (pss_one (ps_raise0 (takes_of rfl rfl rfl rfl) T_BadText (by rfl)))
      pss_nil)), ?_⟩
    cases hx with
    | str z =>
      have hz := hz z rfl
      refine ⟨_, rfl, _, _, _, _, true, rfl, .ty _, .base (.str _), kit_ty (by decide +kernel), _, rfl, iteF ?_⟩
      refine ⟨_, rfl, _, rfl, by omega, _, _, rfl, rfl, _, rfl, ?_⟩
      by_cases c : (4000 : Int) < (z.length : Int)
      · refine iteDT c (iteT (kR ?_ _ _ T_BadText.n (.refl _)))
        show (decide (z.length ≤ 4000) && _) = false
        rw [decide_eq_false (by omega), Bool.false_and]
      have e1 : isT (.str z) = z.cps.toList.all sgOk := by
        show (decide (z.length ≤ 4000) && _) = _
        rw [decide_eq_true (by omega), Bool.true_and]
      refine iteDF c ?_
      refine ⟨_, rfl, _, rfl, fun D nD => ?_⟩
      refine lc_str (x := z) (fun i H2 => Same H H2 ∧ H2 D = some (.lst (((z.cps.toList.take i).map sgOk).map V.bl))) ⟨same_new nD _, upd_same⟩ ?_ ?_
      · rintro i c H2 hc ⟨s2, e2⟩
        have hi := (List.getElem?_eq_some_iff.mp hc).1
        have hlen : z.cps.toList.length = z.length := by rw [Array.length_toList]; rfl
        refine ⟨rfl, _, rfl, c, _, rfl, rfl, _, e2, ?_, ?_, ?_⟩
        · rw [List.length_map, List.length_map, List.length_take]
          omega
        · intro a o ho
          rw [upd_ne (ne_of_none ho nD)]
          exact s2 a o ho
        · rw [upd_same, take_more hc, List.map_append, List.map_append]
          rfl
      rintro H2 ⟨s2, e2⟩
      rw [show z.cps.size = z.cps.toList.length from (Array.length_toList).symm, List.take_length] at e2
      refine ⟨D, _, rfl, .inl (.inl e2), ?_⟩
      have e3 : ((z.cps.toList.map sgOk).all id) = isT (.str z) := by
        rw [e1, List.all_map]
        rfl
      rw [e3]
      cases e : isT (.str z) with
      | true => exact ⟨_, rfl, iteF (k e _ s2)⟩
      | false => exact ⟨_, rfl, iteT (kR e _ _ T_BadText.n s2)⟩
    | non => exact ⟨_, rfl, _, _, _, _, false, rfl, .ty _, .base .non, kit_ty (by decide +kernel), _, rfl, iteT (kR rfl _ _ T_BadText.n (.refl _))⟩
    | bl b => exact ⟨_, rfl, _, _, _, _, false, rfl, .ty _, .base (.bl b), kit_ty (by decide +kernel), _, rfl, iteT (kR rfl _ _ T_BadText.n (.refl _))⟩
    | int i => exact ⟨_, rfl, _, _, _, _, false, rfl, .ty _, .base (.int i), kit_ty (by decide +kernel), _, rfl, iteT (kR rfl _ _ T_BadText.n (.refl _))⟩
    | lst h => exact ⟨_, rfl, _, _, _, _, false, rfl, .ty _, h, kit_ty (by decide +kernel), _, rfl, iteT (kR rfl _ _ T_BadText.n (.refl _))⟩
    | tup h => exact ⟨_, rfl, _, _, _, _, false, rfl, .ty _, h, kit_ty (by decide +kernel), _, rfl, iteT (kR rfl _ _ T_BadText.n (.refl _))⟩
    | dct h => exact ⟨_, rfl, _, _, _, _, false, rfl, .ty _, h, kit_ty (by decide +kernel), _, rfl, iteT (kR rfl _ _ T_BadText.n (.refl _))⟩
end

abbrev s_Reader_tell : Stmt := inClass (topS 17) 4
theorem sc_Reader_tell : FnScope ["self", "signs", "known"] ["self", "signs"] (defScope s_Reader_tell) := ⟨rfl, rfl, rfl, by decide +kernel, rfl, by decide +kernel, by decide +kernel⟩
def sp_Reader_tell (K : PySem.W.Frag) (C : Addr) : Sp := fun vs H Q E => ∃ (r p : Addr) (m : Nat) (l : List Bool) (past : List Nat) (x : V), vs = [.ref r, x] ∧ RdAt C H r p m l past ∧ past.length < 100 ∧ AnyV K H x ∧ (∀ z, x = .str z → z.length ≤ 100000) ∧
  (isT x = false → ∀ (D : Addr) (H' : Hp), ClsAt K "BadText" D → Same H H' → E (.ref D) none H') ∧
  (∀ s : List Bool, x = .str (tx s) → s.length ≤ 4000 → (4000 < l.length + s.length → ∀ (D : Addr) (H' : Hp), ClsAt K "Full" D → Same H H' → E (.ref D) none H') ∧
    (l.length + s.length ≤ 4000 → ∀ (T : Addr) (H' : Hp), KeepR r p H H' → RdAt C H' r p m (l ++ s) (past ++ [l.length]) → SqT K H' T (((cuts m (l ++ s)).map fun x => V.int (x.1 : Nat)).drop (cuts m l).length) → Q (.ref T) H'))
section
variable {P : Program} {w : World} {K : PySem.W.Frag} {mg : Str → Option Value} {base : Heap}
theorem ok_Reader_tell {C_ : Addr} (A : AtM K (fun f => Meth K C_ "tell" f) "tell" "Reader.tell" s_Reader_tell ["self", "signs"]) (B : Bn mg) (RC : RdC K mg C_) (H_check_text : CalX P w K mg base "check_text" ["thing"] 1 (sp_check_text K)) (H_Reader_numbers : CalM P w K mg base CX0 (fun f => Meth K C_ "numbers" f) ["self"] 5 (sp_Reader_numbers K C_)) (K_MOST_TEXT : ∃ v, mg "MOST_TEXT" = some v ∧ RelV (.int 4000) v) (HT_Full : ∃ C, ExT K mg "Full" C) : CalM P w K mg base (L2.CX P w) (fun f => Meth K C_ "tell" f) ["self", "signs"] 6 (sp_Reader_tell K C_) := by
  obtain ⟨f, fd, F, gF, bF⟩ := A
  obtain ⟨f_check_text, fd_check_text, G_check_text⟩ := H_check_text
  obtain ⟨f_Reader_numbers, fd_Reader_numbers, O_Reader_numbers, M_Reader_numbers, B_Reader_numbers⟩ := H_Reader_numbers
  obtain ⟨v_MOST_TEXT, C_MOST_TEXT⟩ := K_MOST_TEXT
  obtain ⟨A_Full, T_Full⟩ := HT_Full
  refine ⟨f, fd, F.okX sc_Reader_tell (fun vs H Q E h => ?_) (fun cdv A outer s H vs Q E hr h => ?_), gF, bF⟩
  · repeat (first | (obtain ⟨rfl, _⟩ := h; rfl) | (obtain ⟨_, h⟩ := h))
  · obtain ⟨r, p, m, l, past, x, rfl, R, hp, hx, hz, kB, k⟩ := h
    obtain ⟨dx, ho⟩ := R.o
    have hsz := sizeLine_eq
    refine ⟨_, (pss_cons (ps_expr (pe_callS G_check_text.ok (hr.mono (by first | decide | exact Nat.le_refl _)) (by rfl) G_check_text.g G_check_text.kp G_check_text.b (fun σ => passAt (takes_of rfl rfl rfl rfl) σ) (pa_cons (pv 1) pa_nil)))
      (pss_cons (ps_if (pt_cmpR op_gt (pe_op op_add (pe_callB call_len_str_ (by rfl) B.len_ (by decide +kernel) (pa_cons (pe_fld (pv 0) rfl) pa_nil)) (pe_callB call_len_str_ (by rfl) B.len_ (by decide +kernel) (pa_cons (pv 1) pa_nil))) (pe_glob (by rfl) C_MOST_TEXT.1 C_MOST_TEXT.2) (nomark _))
      (pss_one (ps_raise0 (takes_of rfl rfl rfl rfl) T_Full (by rfl)))
      pss_nil)
      (pss_cons (ps_set (i := 2) sc_Reader_tell.nd rfl (.inl rfl) (pe_callB (call_len_seq_ K) (by rfl) B.len_ (by decide +kernel) (pa_cons (pe_meth0 (pv 0) RC.cl M_Reader_numbers O_Reader_numbers (hr.mono (by first | decide | exact Nat.le_refl _)) B_Reader_numbers .nil pass0) pa_nil)))
      (pss_cons (ps_expr (pe_bm PySem.F.plainAttrs_list PySem.F.slot_list_append PySem.F.type_list_append mt_append (pe_fld (pv 0) rfl) (pa_cons (pe_callB call_len_str_ (by rfl) B.len_ (by decide +kernel) (pa_cons (pe_fld (pv 0) rfl) pa_nil)) pa_nil)))
      (pss_cons (ps_fldaug (pv 0) (pv 1) in_addSS)
      (pss_one (ps_ret (pe_slice (sl_tupA_ K) (pe_meth0 (pv 0) RC.cl M_Reader_numbers O_Reader_numbers (hr.mono (by first | decide | exact Nat.le_refl _)) B_Reader_numbers .nil pass0) (po_some (pv 2)) po_none)))))))), ?_⟩
    refine ⟨_, rfl, x, rfl, hx, hz, fun e H1 s1 => ?_, fun e D H1 hD s1 => kB e D H1 hD s1⟩
    obtain ⟨s, rfl, hs4⟩ := isT_tx e
    obtain ⟨kF, kG⟩ := k s rfl hs4
    have hl4 := R.l4
    have o1 := s1 _ _ ho
    refine ⟨_, rfl, r, C_, dx, _, _, rfl, o1, RC.cl, RC.nT, rd_gt _ _ _, ?_⟩
    refine ⟨tx l, rfl, by rw [tx_len]; omega, _, rfl, tx s, rfl, by rw [tx_len]; omega, _, _, rfl, rfl, _, _, rfl, rfl, _, rfl, ?_⟩
    rw [tx_len, tx_len]
    by_cases c : 4000 < l.length + s.length
    · exact iteDT (by omega) (kF c _ _ T_Full.n s1)
    refine iteDF (by omega) ?_
    have kG := kG (by omega)
    have R1 := R.same s1
    refine ⟨_, rfl, r, dx, _, rfl, o1, rd_no _ _ _ (by decide +kernel) (by decide +kernel) (by decide +kernel), r, p, m, l, past, rfl, R1, fun T H2 s2 nT eT => ?_⟩
    refine ⟨T, _, rfl, .inr (.inl (.inl eT)), ?_⟩
    rw [List.length_map]
    have o2 := s2 _ _ o1
    have R2 := R1.same s2
    have s02 := s1.trans s2
    clear eT
    refine ⟨_, rfl, r, C_, dx, _, _, rfl, o2, RC.cl, RC.nP, rd_gp _ _ _, ?_⟩
    refine ⟨.inl ⟨rfl, _, .inl (.inl R2.p)⟩, _, rfl, r, C_, dx, _, _, rfl, o2, RC.cl, RC.nT, rd_gt _ _ _, ?_⟩
    refine ⟨tx l, rfl, by rw [tx_len]; omega, ?_⟩
    refine ⟨p, _, _, rfl, rfl, R2.p, by rw [List.length_map]; omega, ?_⟩
    have nrp : r ≠ p := fun z => by
      have h1 := R2.p
      rw [← z, o2] at h1
      cases h1
    have o3 : (upd H2 p (.lst (past.map (fun n => V.int (n : Nat)) ++ [V.int ((tx l).length : Nat)]))) r = some (.ins C_ dx (rdF m (tx l) p)) := (upd_ne nrp).trans o2
    refine ⟨_, rfl, r, C_, dx, _, _, rfl, o3, RC.cl, RC.nT, rd_gt _ _ _, ?_⟩
    refine ⟨_, rfl, _, _, rfl, rfl, by rw [tx_len, tx_len]; omega, ?_⟩
    rw [tx_app, tx_len]
    have o3' : (upd H2 p (.lst (past.map (fun n => V.int (n : Nat)) ++ [V.int (l.length : Nat)]))) r = some (.ins C_ dx (rdF m (tx l) p)) := (upd_ne nrp).trans o2
    have p3 : (upd H2 p (.lst (past.map (fun n => V.int (n : Nat)) ++ [V.int (l.length : Nat)]))) p = some (.lst ((past ++ [l.length]).map fun n => V.int (n : Nat))) := by
      rw [upd_same, List.map_append]
      rfl
    have k3 : KeepR r p H (upd H2 p (.lst (past.map (fun n => V.int (n : Nat)) ++ [V.int (l.length : Nat)]))) := fun b o n1 n2 h => by
      rw [upd_ne n2]
      exact s02 _ _ h
    generalize upd H2 p (.lst (past.map (fun n => V.int (n : Nat)) ++ [V.int (l.length : Nat)])) = H3 at *
    refine ⟨dx, _, o3', (by show 3 < 1000; decide), ?_⟩
    rw [rd_text]
    have R4 : RdAt C_ (upd H3 r (.ins C_ dx (rdF m (tx (l ++ s)) p))) r p m (l ++ s) (past ++ [l.length]) :=
      ⟨⟨dx, upd_same⟩, (upd_ne (Ne.symm nrp)).trans p3, R.m1, R.m64, by rw [List.length_append]; omega, by rw [List.length_append, List.length_singleton]; omega⟩
    have k4 : KeepR r p H (upd H3 r (.ins C_ dx (rdF m (tx (l ++ s)) p))) := fun b o n1 n2 h => by
      rw [upd_ne n1]
      exact k3 b o n1 n2 h
    generalize upd H3 r (.ins C_ dx (rdF m (tx (l ++ s)) p)) = H4 at *
    obtain ⟨dx4, o4⟩ := R4.o
    refine ⟨_, rfl, r, dx4, _, rfl, o4, rd_no _ _ _ (by decide +kernel) (by decide +kernel) (by decide +kernel), r, p, m, _, _, rfl, R4, fun T2 H5 s5 nT2 eT2 => ?_⟩
    have k5 : KeepR r p H H5 := k4.trans (KeepR.of s5)
    have R5 := R4.same s5
    refine ⟨_, rfl, _, rfl, T2, _, rfl, .inl (.inl eT2), fun c => ?_, fun _ p2 np2 => ?_⟩
    · refine kG T2 H5 k5 R5 ?_
      have e : ((cuts m (l ++ s)).map fun x => V.int (x.1 : Nat)).drop (cuts m l).length = (cuts m (l ++ s)).map fun x => V.int (x.1 : Nat) := by
        have c1 := c.1
        rw [HT.sIx_nat] at c1
        rcases Nat.eq_zero_or_pos (cuts m l).length with z | z
        · rw [z, List.drop_zero]
        · have : ((cuts m (l ++ s)).map fun x => V.int (x.1 : Nat)) = [] := List.length_eq_zero_iff.mp (by omega)
          rw [this, List.drop_nil]
      rw [e]
      exact .inl (.inl eT2)
    · have s6 := same_new np2 (.tup (cutV ((cuts m (l ++ s)).map fun x => V.int (x.1 : Nat)) (some ((cuts m l).length : Int)) none))
      refine kG p2 _ (k5.trans (KeepR.of s6)) (R5.same s6) ?_
      rw [← cutV_from]
      exact .inl (.inl upd_same)
end

abbrev s__law_told : Stmt := topS 29
theorem sc__law_told : FnScope ["_law_reader", "_law_signs_here", "_law_found", "error"] ["_law_reader", "_law_signs_here"] (defScope s__law_told) := ⟨rfl, rfl, rfl, by decide +kernel, rfl, by decide +kernel, by decide +kernel⟩
def sp__law_told (K : PySem.W.Frag) (C : Addr) : Sp := fun vs H Q _ => ∃ (r p : Addr) (m : Nat) (l : List Bool) (past : List Nat) (x : V), vs = [.ref r, x] ∧ RdAt C H r p m l past ∧ past.length < 100 ∧ AnyV K H x ∧ (∀ z, x = .str z → z.length ≤ 100000) ∧
  (isT x = false → ∀ (H' : Hp), Same H H' → Q (.str "text") H') ∧
  (∀ s : List Bool, x = .str (tx s) → s.length ≤ 4000 → (4000 < l.length + s.length → ∀ (H' : Hp), Same H H' → Q (.str "full") H') ∧
    (l.length + s.length ≤ 4000 → ∀ (T : Addr) (H' : Hp), KeepR r p H H' → RdAt C H' r p m (l ++ s) (past ++ [l.length]) → SqT K H' T (((cuts m (l ++ s)).map fun x => V.int (x.1 : Nat)).drop (cuts m l).length) → Q (.ref T) H'))
section
variable {P : Program} {w : World} {K : PySem.W.Frag} {mg : Str → Option Value} {base : Heap}
theorem ok__law_told {C_ : Addr} (A : At K mg "_law_told" s__law_told ["_law_reader", "_law_signs_here"]) (B : Bn mg) (RC : RdC K mg C_) (H_Reader_tell : CalM P w K mg base (L2.CX P w) (fun f => Meth K C_ "tell" f) ["self", "signs"] 6 (sp_Reader_tell K C_)) (HT_BadText : ∃ C, ExT K mg "BadText" C) (HT_Full : ∃ C, ExT K mg "Full" C) (HT_StepError : ∃ C, ExT K mg "StepError" C) (HE_Full : ∀ C, ClsAt K "Full" C → ExcC K C) (HE_BadText : ∀ C, ClsAt K "BadText" C → ExcC K C) (HK_Full_StepError : ∀ C D, ClsAt K "Full" C → ClsAt K "StepError" D → PySem.W.kitOne K (.ref C) (.ref D) = some true) (HK_BadText_StepError : ∀ C D, ClsAt K "BadText" C → ClsAt K "StepError" D → PySem.W.kitOne K (.ref C) (.ref D) = some true) (HN_Full_BadText : ∀ C D, ClsAt K "Full" C → ClsAt K "BadText" D → PySem.W.exmOne K (.ref C) (.ref D) = some false) : CalE P w K mg base "_law_told" ["_law_reader", "_law_signs_here"] 7 (sp__law_told K C_) := by
  obtain ⟨f, fd, F, gF, bF⟩ := A
  obtain ⟨f_Reader_tell, fd_Reader_tell, O_Reader_tell, M_Reader_tell, B_Reader_tell⟩ := H_Reader_tell
  obtain ⟨A_BadText, T_BadText⟩ := HT_BadText
  obtain ⟨A_Full, T_Full⟩ := HT_Full
  obtain ⟨A_StepError, T_StepError⟩ := HT_StepError
  have E_Full := HE_Full _ T_Full.n
  have E_BadText := HE_BadText _ T_BadText.n
  have KT_Full_StepError := HK_Full_StepError _ _ T_Full.n T_StepError.n
  have KT_BadText_StepError := HK_BadText_StepError _ _ T_BadText.n T_StepError.n
  have XN_Full_BadText := HN_Full_BadText _ _ T_Full.n T_BadText.n
  refine ⟨f, fd, F.ok sc__law_told (fun vs H Q E h => ?_) (fun cdv A outer s H vs Q E hr h => ?_), gF, F.kp, bF⟩
  · repeat (first | (obtain ⟨rfl, _⟩ := h; rfl) | (obtain ⟨_, h⟩ := h))
  · obtain ⟨r, p, m, l, past, x, rfl, R, hp, hx, hz, kB, k⟩ := h
    refine ⟨_, (pss_cons (ps_set (i := 2) sc__law_told.nd rfl (.inl rfl) pe_non)
      (pss_cons (ps_try_names (Wout := fun _ _ _ _ => False) rfl rfl sc__law_told.nd takes0 (.cons (i := 3) rfl rfl ⟨rfl, by decide, .inl T_BadText.g⟩ (fun a_ oe cls d pn hz hf => (pss_one (ps_set (i := 2) sc__law_told.nd rfl (.inl rfl) (pe_ifExp (pt_val (pe_callB (call_isX E_BadText hz hf) (by rfl) B.isinstance_ (by decide +kernel) (pa_cons (pv 3) (pa_cons (pe_glob (v := .ref A_StepError) (by rfl) T_StepError.g rfl) pa_nil)))) pe_str pe_non))))
      (.cons (i := 3) rfl rfl ⟨rfl, by decide, .inl T_Full.g⟩ (fun a_ oe cls d pn hz hf => (pss_one (ps_set (i := 2) sc__law_told.nd rfl (.inl rfl) (pe_ifExp (pt_val (pe_callB (call_isX E_Full hz hf) (by rfl) B.isinstance_ (by decide +kernel) (pa_cons (pv 3) (pa_cons (pe_glob (v := .ref A_StepError) (by rfl) T_StepError.g rfl) pa_nil)))) pe_str pe_non))))
      .nil))
      (fun W pn xe tk po => (pss_one (ps_set (i := 2) sc__law_told.nd rfl (.inl rfl) (pe_methR (pv 0) RC.cl M_Reader_tell O_Reader_tell (hr.mono (by first | decide | exact Nat.le_refl _)) B_Reader_tell (fun σ => passAt tk σ) (pa_cons (pv 1) pa_nil))))))
      (pss_one (ps_ret (pv 2))))), ?_⟩
    obtain ⟨dx, ho⟩ := R.o
    refine ⟨_, rfl, r, dx, _, rfl, ho, rd_no _ _ _ (by decide +kernel) (by decide +kernel) (by decide +kernel), _, rfl, r, p, m, l, past, x, rfl, R, hp, hx, hz, fun e D H1 hD s1 => ?_, fun s es hs => ⟨fun c D H1 hD s1 => ?_, fun c T H1 k1 R1 eT => ?_⟩⟩
    · cases ClsAt.one hD T_BadText.n
      refine ⟨true, T_BadText.te, fun _ a0 na => ?_, fun q => nomatch q⟩
      refine ⟨_, rfl, rfl, rfl, _, _, true, rfl, fun u hu => hu, KT_BadText_StepError, ?_⟩
      exact ⟨_, rfl, iteT ⟨_, rfl, kB e _ s1⟩⟩
    · cases ClsAt.one hD T_Full.n
      refine ⟨false, XN_Full_BadText, (fun q => by cases q), fun _ => ?_⟩
      refine ⟨true, T_Full.te, fun _ a0 na => ?_, fun q => nomatch q⟩
      refine ⟨_, rfl, rfl, rfl, _, _, true, rfl, fun u hu => hu, KT_Full_StepError, ?_⟩
      exact ⟨_, rfl, iteT ⟨_, rfl, (k s es hs).1 c _ s1⟩⟩
    · exact ⟨_, rfl, (k s es hs).2 c T H1 k1 R1 eT⟩
end

abbrev s__law_row : Stmt := topS 26
theorem sc__law_row : FnScope ["_law_h", "_law_step_here", "_law_found", "_law_k"] ["_law_h", "_law_step_here"] (defScope s__law_row) := ⟨rfl, rfl, rfl, by decide +kernel, rfl, by decide +kernel, by decide +kernel⟩
def sp__law_row (K : PySem.W.Frag) : Sp := fun vs H Q _ => ∃ (h q : Addr) (m : Nat), vs = [.ref h, .int (m : Nat)] ∧ LawH H h q ∧ 1 ≤ m ∧ m ≤ 64 ∧
  ∀ (T : Addr) (ns : List Nat) (H' : Hp), ns.length ≤ 10 → (∀ n ∈ ns, n < 20 * m) → LawH H' h q → Sm h q H H' → H T = none → H' T = some (.tup (ns.map fun n => V.int (n : Nat))) → Q (.ref T) H'
theorem Sm.free {h q : Addr} {H H' : Hp} (s : Sm h q H H') {l : Addr} (hl : H' l = Option.none) (hh : H h = Option.none → H' h = Option.none) (hq : H q = Option.none → H' q = Option.none) (nh : H' h ≠ Option.none) (nq : H' q ≠ Option.none) : H l = Option.none := by
  cases e : H l with
  | none => rfl
  | some o =>
    have n1 : l ≠ h := fun z => nh (z ▸ hl)
    have n2 : l ≠ q := fun z => nq (z ▸ hl)
    rw [s l o e n1 n2] at hl
    cases hl
theorem LawH.h_ne {H : Hp} {h q : Addr} (L : LawH H h q) : H h ≠ Option.none ∧ H q ≠ Option.none := by
  obtain ⟨_, st, ix, cells, a, b, _⟩ := L
  exact ⟨fun z => (by rw [a] at z; cases z), fun z => (by rw [b] at z; cases z)⟩
theorem Sm.free' {h q : Addr} {H H' : Hp} (s : Sm h q H H') (L : LawH H' h q) {l : Addr} (hl : H' l = Option.none) : H l = Option.none := by
  obtain ⟨a, b⟩ := L.h_ne
  cases e : H l with
  | none => rfl
  | some o =>
    rw [s l o e (fun z => a (z ▸ hl)) (fun z => b (z ▸ hl))] at hl
    cases hl
section
variable {P : Program} {w : World} {K : PySem.W.Frag} {mg : Str → Option Value} {base : Heap}
theorem ok__law_row (A : At K mg "_law_row" s__law_row ["_law_h", "_law_step_here"]) (B : Bn mg) (H__law_pick : CalE P w K mg base "_law_pick" ["_law_h", "_law_things"] 2 (sp__law_pick K)) (H__law_next : CalE P w K mg base "_law_next" ["_law_h", "_law_cap"] 1 (sp__law_next K)) : CalE P w K mg base "_law_row" ["_law_h", "_law_step_here"] 3 (sp__law_row K) := by
  obtain ⟨f, fd, F, gF, bF⟩ := A
  obtain ⟨f__law_pick, fd__law_pick, G__law_pick⟩ := H__law_pick
  obtain ⟨f__law_next, fd__law_next, G__law_next⟩ := H__law_next
  refine ⟨f, fd, F.ok sc__law_row (fun vs H Q E h => ?_) (fun cdv A outer s H vs Q E hr h => ?_), gF, F.kp, bF⟩
  · repeat (first | (obtain ⟨rfl, _⟩ := h; rfl) | (obtain ⟨_, h⟩ := h))
  · obtain ⟨h, q, m, rfl, L, m1, m64, k⟩ := h
    have hsz := sizeLine_eq
    refine ⟨_, (pss_cons (ps_set (i := 2) sc__law_row.nd rfl (.inl rfl) (pe_lst pa_nil))
      (pss_cons (ps_for PassesOwn.never rfl (pi_range1 (by rfl) B.range_ (pa_cons (pe_call G__law_pick.ok (hr.mono (by first | decide | exact Nat.le_refl _)) (by rfl) G__law_pick.g G__law_pick.kp G__law_pick.b .nil pass0 (pa_cons (pv 0) (pa_cons (pe_lst (pa_cons pe_int (pa_cons pe_int (pa_cons pe_int (pa_cons pe_int pa_nil))))) pa_nil))) pa_nil)) (pg_name (i := 3) sc__law_row.nd rfl (.inl rfl))
      (pss_one (ps_expr (pe_bm PySem.F.plainAttrs_list PySem.F.slot_list_append PySem.F.type_list_append mt_append (pv 2) (pa_cons (pe_call G__law_next.ok (hr.mono (by first | decide | exact Nat.le_refl _)) (by rfl) G__law_next.g G__law_next.kp G__law_next.b .nil pass0 (pa_cons (pv 0) (pa_cons (pe_op op_mul (pe_call G__law_pick.ok (hr.mono (by first | decide | exact Nat.le_refl _)) (by rfl) G__law_pick.g G__law_pick.kp G__law_pick.b .nil pass0 (pa_cons (pv 0) (pa_cons (pe_lst (pa_cons pe_int (pa_cons pe_int (pa_cons pe_int pa_nil)))) pa_nil))) (pv 1)) pa_nil))) pa_nil)))))
      (pss_one (ps_ret (pe_callTy (call_tuple_of_ K) (by rfl) B.tuple_ (by decide +kernel) (pa_cons (pv 2) pa_nil)))))), ?_⟩
    refine ⟨(by show 0 ≤ sizeLine; omega), fun D nD => ?_⟩
    have s0 := same_new nD (.lst [])
    have e0 := @upd_same H D (.lst [])
    have L0 := L.same s0
    obtain ⟨hnh, hnq⟩ := L.h_ne
    have nDh : D ≠ h := fun z => hnh (z ▸ nD)
    have nDq : D ≠ q := fun z => hnq (z ▸ nD)
    have S0 : Sm h q H (upd H D (.lst [])) := Sm.of s0
    generalize upd H D (.lst []) = H0 at *
    refine ⟨_, rfl, (by show 4 ≤ sizeLine; omega), fun t nt => pickI L0 nt (fun z => by cases z) (by show 4 ≤ 1000; decide) fun x hx H1 L1 S1 => ?_⟩
    obtain ⟨c, rfl, c10⟩ : ∃ c : Nat, x = .int (c : Nat) ∧ c ≤ 10 := by
      simp only [List.mem_cons, List.not_mem_nil, or_false] at hx
      rcases hx with rfl | rfl | rfl | rfl
      · exact ⟨0, rfl, by decide⟩
      · exact ⟨1, rfl, by decide⟩
      · exact ⟨3, rfl, by decide⟩
      · exact ⟨10, rfl, by decide⟩
    refine ⟨_, rfl, by omega, by omega, for_range (lo := 0) (n := c) (fun i σ H2 => ∃ (ns : List Nat) (v3 : Option V), σ = [some (.ref h), some (.int (m : Nat)), some (.ref D), v3] ∧ ns.length = i ∧ (∀ n ∈ ns, n < 20 * m) ∧ LawH H2 h q ∧ Sm h q H H2 ∧ H2 D = some (.lst (ns.map fun n => V.int (n : Nat)))) ⟨[], none, rfl, rfl, (fun n hn => by cases hn), L1, S0.trans S1, S1 _ _ e0 nDh nDq⟩ ?_ ?_⟩
    · rintro i σ H2 hi ⟨ns, v3, rfl, hlen, hns, L2, S2, eD⟩
      refine ⟨_, rfl, .inl ⟨rfl, _, .inl (.inl eD)⟩, _, rfl, _, rfl, (by show 3 ≤ sizeLine; omega), fun t nt => pickI L2 nt (fun z => by cases z) (by show 3 ≤ 1000; decide) fun x hx H3 L3 S3 => ?_⟩
      obtain ⟨c, rfl, c0, c20⟩ : ∃ c : Nat, x = .int (c : Nat) ∧ 1 ≤ c ∧ c ≤ 20 := by
        simp only [List.mem_cons, List.not_mem_nil, or_false] at hx
        rcases hx with rfl | rfl | rfl
        · exact ⟨2, rfl, by decide, by decide⟩
        · exact ⟨5, rfl, by decide, by decide⟩
        · exact ⟨20, rfl, by decide, by decide⟩
      have hcm : c * m ≤ 20 * m := Nat.mul_le_mul_right _ c20
      have hcm1 : 1 ≤ c * m := Nat.mul_le_mul c0 m1
      refine ⟨_, rfl, _, _, rfl, rfl, .inl (by omega), h, q, ((c * m : Nat) : Int), ?_, L3, by omega, by omega, fun z H4 z0 z1 L4 S4 => ?_⟩
      · show [V.ref h, V.int ((c : Int) * (m : Int))] = _
        rw [← Int.natCast_mul]
      obtain ⟨y, rfl⟩ : ∃ y : Nat, z = (y : Int) := ⟨z.toNat, by omega⟩
      have eD4 := S4 _ _ (S3 _ _ eD nDh nDq) nDh nDq
      refine ⟨D, _, _, rfl, rfl, eD4, by rw [List.length_map]; omega, ?_⟩
      refine ⟨ns ++ [y], _, rfl, by rw [List.length_append, hlen]; rfl, ?_, ?_, ?_, ?_⟩
      · intro n hn
        rcases List.mem_append.mp hn with hn | hn
        · exact hns n hn
        · rw [List.mem_singleton.mp hn]
          omega
      · obtain ⟨ne, st, ix, cells, a, b, d⟩ := L4
        exact ⟨ne, st, ix, cells, by rw [upd_ne (Ne.symm nDh)]; exact a, by rw [upd_ne (Ne.symm nDq)]; exact b, d⟩
      · intro b o ho nb1 nb2
        rw [upd_ne (ne_of_none ho nD)]
        exact S4 _ _ (S3 _ _ (S2 _ _ ho nb1 nb2) nb1 nb2) nb1 nb2
      · rw [upd_same, List.map_append]
        rfl
    · rintro σ H2 ⟨ns, v3, rfl, hlen, hns, L2, S2, eD⟩
      refine ⟨_, rfl, D, _, rfl, .inl ⟨.inl (.inl eD), fun T nT => ?_⟩⟩
      have s5 := same_new nT (.tup (ns.map fun n => V.int (n : Nat)))
      exact k T ns _ (by omega) hns (L2.same s5) (S2.trans (Sm.of s5)) (S2.free' L2 nT) upd_same
end

abbrev s_law : Stmt := topS 33
theorem sc_law : FnScope ["_law_script", "_law_h", "_law_step_here", "_law_reader", "_law_side", "_law_past", "_law_kept", "_law_turn", "_law_kind", "_law_twin", "_law_signs_here", "_law_due_here", "_law_bad", "_law_number", "_law_one"] ["_law_script"] (defScope s_law) := ⟨rfl, rfl, rfl, by decide +kernel, rfl, by decide +kernel, by decide +kernel⟩
def sp_law (K : PySem.W.Frag) : Sp := fun vs H Q _ => ∃ (a : Addr) (ns : List Int), vs = [.ref a] ∧ SqL K H a (ns.map V.int) ∧ ns.length ≤ 63 ∧ ∀ H', Q (.bl true) H'
theorem mk_reader {K : PySem.W.Frag} {C : Addr} {H : Hp} {m : Nat} (m1 : 1 ≤ m) (m64 : m ≤ 64) {x dx : Addr} (nx : H x = none) (ndx : H dx = none) (nex : dx ≠ x) {Q : VK} {E : XK}
    (k : ∀ (p : Addr) (H' : Hp), Same H H' → H p = none → x ≠ p → RdAt C H' x p m [] [] → Q .non H') : sp_Reader___init__ K C [.ref x, .int (m : Nat)] (upd (upd H dx (.own x)) x (.ins C dx [])) Q E := by
  have s1 : Same H (upd (upd H dx (.own x)) x (.ins C dx [])) := fun b o e => by
    rw [upd_ne (ne_of_none e nx), upd_ne (ne_of_none e ndx)]
    exact e
  refine ⟨x, dx, .int (m : Nat), rfl, upd_same, .int _, fun m' em m1 m64 p1 H1 k1 np1 R1 => ?_, fun e => ?_⟩
  · have em' : m' = m := by
      have := V.int.inj em
      omega
    subst em'
    have nxp : x ≠ p1 := fun z => by
      rw [← z, upd_same] at np1
      cases np1
    exact k p1 H1 (fun b o e => k1 b o (ne_of_none e nx) (s1 _ _ e)) (s1.free np1) nxp R1
  · have := isI_yes (n := (m : Int)) (lo := 1) (hi := 64) (by omega) (by omega)
    rw [this] at e
    cases e
theorem seq_anyG {A B : TS} {D : Ends} {r : VK} {b c : List (Option V) → Hp → Prop} {σ : List (Option V)} {H : Hp} (G : List (Option V) → Hp → Prop) (hA : ∀ D' : Ends, (∀ σ' H', G σ' H' → D'.nx σ' H') → A D' σ H) (k : ∀ σ' H', G σ' H' → B D σ' H') : tNext { nx := tSeq A B D, rt := r, bk := b, ct := c } σ H := hA _ k
theorem to_nil {σ : List (Option V)} {H : Hp} {Q : List V → Hp → Prop} (h : Q [] H) : tNil σ H Q := h
theorem undo_any {K : PySem.W.Frag} {C : Addr} {H : Hp} {m n : Nat} {x : Rdr} (ok : RdrOk C H m n x) {Q : VK} {E : XK}
    (k : ∀ (b : Bool) (ts : List (List Bool)) (l : List Bool) (H' : Hp), b = decide (0 < x.ts.length) → KeepR x.r x.p H H' → RdAt C H' x.r x.p m l (ts.map List.length) → Told (ts ++ [l]) → (x.ts ++ [x.l]).take (max 1 x.ts.length) = ts ++ [l] → ts.length ≤ x.ts.length → Q (.bl b) H') :
    sp_Reader_undo K C [.ref x.r] H Q E := by
  refine ⟨x.r, x.p, m, x.l, _, rfl, ok.at_, fun e H' s => ?_, fun q c e H' kr R => ?_⟩
  · have e' : x.ts = [] := List.map_eq_nil_iff.mp e
    refine k false x.ts x.l H' (by rw [e']; rfl) (KeepR.of s) (ok.at_.same s) ok.told (by rw [e']; rfl) (Nat.le_refl _)
  · rcases List.eq_nil_or_concat x.ts with e' | ⟨ts, l, e'⟩
    · rw [e'] at e
      cases q <;> cases e
    rw [List.concat_eq_append] at e'
    have tl := ok.told
    rw [e'] at tl
    obtain ⟨t1, t2⟩ := tl.back
    rw [e', List.map_append] at e
    obtain ⟨e1, e2⟩ := snoc_inj e
    subst e1 e2
    rw [t2] at R
    refine k true ts l H' (by rw [e', List.length_append, List.length_singleton]; exact (decide_eq_true (by omega)).symm) kr R t1 ?_ (by rw [e', List.length_append]; omega)
    rw [e', List.length_append, List.length_singleton, Nat.max_eq_right (by omega), List.take_left']
    rw [List.length_append, List.length_singleton]
theorem atL {ts : List (List Bool)} (l : List Bool) : atI ((ts ++ [l]).map fun l => V.str (tx l)) (-1) = some (.str (tx l)) := by
  unfold atI
  have e : ixN ((ts ++ [l]).map fun l => V.str (tx l)).length (-1) = some ts.length := by
    unfold ixN
    rw [if_neg (by decide), List.length_map, List.length_append, List.length_singleton, if_pos (by omega)]
    congr 1
    omega
  rw [e]
  show ((ts ++ [l]).map fun l => V.str (tx l))[ts.length]? = _
  rw [List.getElem?_map, List.getElem?_append_right (Nat.le_refl _), Nat.sub_self]
  rfl
theorem cutV_to (xs : List V) (k : Nat) : cutV xs none (some (k : Int)) = xs.take k := by
  unfold cutV
  rw [HT.sIx_nat, HT.sIx_none]
  by_cases h : k ≤ xs.length
  · rw [Nat.min_eq_left h]
    rfl
  · have e : xs.take k = xs := List.take_of_length_le (by omega)
    rw [Nat.min_eq_right (by omega), e]
    show (xs.drop 0).take xs.length = xs
    rw [List.drop_zero, List.take_length]
/-- a text that may be told -/
def ZOk (x : V) : Prop := ∀ z, x = .str z → z.length ≤ 100000 ∧ ∀ c ∈ z.cps.toList, PyData.strOk ⟨#[c]⟩ = true
theorem zok_tx {l : List Bool} (h : l.length ≤ 100000) : ZOk (.str (tx l)) := fun z e => by
  cases e
  refine ⟨by rw [tx_len]; exact h, fun c hc => ?_⟩
  rw [tx_list] at hc
  obtain ⟨b, _, rfl⟩ := List.mem_map.mp hc
  cases b <;> decide +kernel
theorem seq_anyS {A B : TS} {D : Ends} {σ : List (Option V)} {H : Hp} (G : List (Option V) → Hp → Prop) (hA : ∀ D' : Ends, (∀ σ' H', G σ' H' → D'.nx σ' H') → A D' σ H) (k : ∀ σ' H', G σ' H' → B D σ' H') : tSeq A B D σ H := hA _ k
theorem isT_is {s : List Bool} (h : s.length ≤ 4000) : isT (.str (tx s)) = true := by
  show (decide ((tx s).length ≤ 4000) && (tx s).cps.toList.all sgOk) = true
  rw [tx_len, decide_eq_true h, Bool.true_and, tx_list, List.all_eq_true]
  intro c hc
  obtain ⟨b, _, rfl⟩ := List.mem_map.mp hc
  cases b <;> decide +kernel
/-- signs that a reader refuses, and how -/
def NoZ (z : V) (n : Nat) (wd : Str) : Prop := (isT z = false ∧ wd = "text") ∨ ∃ s : List Bool, z = .str (tx s) ∧ s.length ≤ 4000 ∧ 4000 < n + s.length ∧ wd = "full"
theorem no_or (z : V) (n : Nat) : (∃ wd, NoZ z n wd) ∨ ∃ s : List Bool, z = .str (tx s) ∧ s.length ≤ 4000 ∧ n + s.length ≤ 4000 := by
  cases e : isT z with
  | false => exact .inl ⟨_, .inl ⟨e, rfl⟩⟩
  | true =>
    obtain ⟨s, rfl, hs⟩ := isT_tx e
    by_cases c : 4000 < n + s.length
    · exact .inl ⟨_, .inr ⟨s, rfl, hs, c, rfl⟩⟩
    · exact .inr ⟨s, rfl, hs, by omega⟩
theorem due_no {K : PySem.W.Frag} {H : Hp} {m : Nat} {l : List Bool} {z : V} {wd : Str} (no : NoZ z l.length wd) (m1 : 1 ≤ m) (m64 : m ≤ 64) (l4 : l.length ≤ 4000) (hz : AnyV K H z) (zz : ZOk z) {Q : VK} {E : XK}
    (k : ∀ H', Same H H' → Q (.str wd) H') : sp__law_due K [.int (m : Nat), .str (tx l), z] H Q E := by
  refine ⟨m, l, z, rfl, m1, m64, l4, hz, zz, fun e H' s => ?_, fun s es hs => ⟨fun c H' s' => ?_, fun c => ?_⟩⟩
  · rcases no with ⟨_, rfl⟩ | ⟨s', rfl, h4, _, _⟩
    · exact k H' s
    · rw [isT_is h4] at e
      cases e
  · rcases no with ⟨e, rfl⟩ | ⟨s2, _, _, _, rfl⟩
    · rw [es, isT_is hs] at e
      cases e
    · exact k H' s'
  · rcases no with ⟨e, rfl⟩ | ⟨s2, e2, _, c2, rfl⟩
    · rw [es, isT_is hs] at e
      cases e
    · rw [es] at e2
      cases tx_inj (V.str.inj e2)
      omega
theorem told_no {K : PySem.W.Frag} {C : Addr} {H : Hp} {m n : Nat} {x : Rdr} {z : V} {wd : Str} (no : NoZ z x.l.length wd) (ok : RdrOk C H m n x) (hn : n < 100) (hz : AnyV K H z) (zz : ZOk z) {Q : VK} {E : XK}
    (k : ∀ H', Same H H' → Q (.str wd) H') : sp__law_told K C [.ref x.r, z] H Q E := by
  refine ⟨x.r, x.p, m, x.l, _, z, rfl, ok.at_, by rw [List.length_map]; exact Nat.lt_of_le_of_lt ok.few hn, hz, fun y e => (zz y e).1, fun e H' s => ?_, fun s es hs => ⟨fun c H' s' => ?_, fun c => ?_⟩⟩
  · rcases no with ⟨_, rfl⟩ | ⟨s', rfl, h4, _, _⟩
    · exact k H' s
    · rw [isT_is h4] at e
      cases e
  · rcases no with ⟨e, rfl⟩ | ⟨s2, _, _, _, rfl⟩
    · rw [es, isT_is hs] at e
      cases e
    · exact k H' s'
  · rcases no with ⟨e, rfl⟩ | ⟨s2, e2, _, c2, rfl⟩
    · rw [es, isT_is hs] at e
      cases e
    · rw [es] at e2
      cases tx_inj (V.str.inj e2)
      omega
theorem due_yes {K : PySem.W.Frag} {H : Hp} {m : Nat} {l s : List Bool} (h4 : s.length ≤ 4000) (c : l.length + s.length ≤ 4000) (m1 : 1 ≤ m) (m64 : m ≤ 64) {Q : VK} {E : XK}
    (k : ∀ (T : Addr) (H' : Hp), Same H H' → H T = none → H' T = some (.tup (((cuts m (l ++ s)).map fun x => V.int (x.1 : Nat)).drop (cuts m l).length)) → Q (.ref T) H') : sp__law_due K [.int (m : Nat), .str (tx l), .str (tx s)] H Q E := by
  refine ⟨m, l, _, rfl, m1, m64, by omega, .str _, zok_tx (by omega), fun e => ?_, fun s2 es hs => ⟨fun c2 => ?_, fun _ T H' s' nT eT => ?_⟩⟩
  · rw [isT_is h4] at e
    cases e
  · cases tx_inj (V.str.inj es)
    omega
  · cases tx_inj (V.str.inj es)
    exact k T H' s' nT eT
theorem told_yes {K : PySem.W.Frag} {C : Addr} {H : Hp} {m n : Nat} {x : Rdr} {s : List Bool} (h4 : s.length ≤ 4000) (c : x.l.length + s.length ≤ 4000) (ok : RdrOk C H m n x) (hn : n < 100) {Q : VK} {E : XK}
    (k : ∀ (T : Addr) (H' : Hp), KeepR x.r x.p H H' → RdAt C H' x.r x.p m (x.l ++ s) ((x.ts ++ [x.l]).map List.length) → SqT K H' T (((cuts m (x.l ++ s)).map fun x => V.int (x.1 : Nat)).drop (cuts m x.l).length) → Q (.ref T) H') : sp__law_told K C [.ref x.r, .str (tx s)] H Q E := by
  refine ⟨x.r, x.p, m, x.l, _, _, rfl, ok.at_, by rw [List.length_map]; exact Nat.lt_of_le_of_lt ok.few hn, .str _, fun y e => (zok_tx (by omega) y e).1, fun e => ?_, fun s2 es hs => ⟨fun c2 => ?_, fun _ T H' k1 R1 eT => ?_⟩⟩
  · rw [isT_is h4] at e
    cases e
  · cases tx_inj (V.str.inj es)
    omega
  · cases tx_inj (V.str.inj es)
    exact k T H' k1 (by rw [List.map_append]; exact R1) eT
theorem repS_tx (l : List Bool) (n : Nat) : repS (tx l) n = tx (List.replicate n l).flatten := by
  apply str_ext
  unfold repS
  rw [tx_list]
  simp only [tx_list]
  rw [List.map_flatten, List.map_replicate]
theorem pairedGet {α β : Type} {R : α → β → Prop} {as : List α} {bs : List β} (h : Paired R as bs) : ∀ {i : Nat} {a : α}, as[i]? = some a → ∃ b, bs[i]? = some b ∧ R a b := by
  induction h with
  | nil => exact fun e => by cases e
  | cons z t ih =>
    intro i a e
    cases i with
    | zero =>
      cases Option.some.inj (by simpa using e)
      exact ⟨_, rfl, z⟩
    | succ i =>
      obtain ⟨b, e1, e2⟩ := ih (by simpa using e)
      exact ⟨b, by simpa using e1, e2⟩
section
variable {P : Program} {w : World} {K : PySem.W.Frag} {mg : Str → Option Value} {base : Heap}
theorem ok_law {C_ : Addr} {f : Addr} {fd : FuncData} (F : Fun K "law" "law" s_law f fd) (B : Bn mg) (RC : RdC K mg C_) (H__law_mix : CalE P w K mg base "_law_mix" ["_law_script", "_law_seed"] 1 (sp__law_mix K)) (H__law_step : CalE P w K mg base "_law_step" ["_law_h"] 3 (sp__law_step K)) (H_Reader___init__ : CalM P w K mg base (L2.CX P w) (fun f => Mk K C_ f) ["self", "step"] 3 (sp_Reader___init__ K C_)) (H__law_next : CalE P w K mg base "_law_next" ["_law_h", "_law_cap"] 1 (sp__law_next K)) (H__law_pick : CalE P w K mg base "_law_pick" ["_law_h", "_law_things"] 2 (sp__law_pick K)) (H__law_alike : CalE P w K mg base "_law_alike" ["_law_found", "_law_due_here"] 5 (sp__law_alike K)) (H_Reader_undo : CalM P w K mg base CX0 (fun f => Meth K C_ "undo" f) ["self"] 1 (sp_Reader_undo K C_)) (H_Reader_copy : CalM P w K mg base CX0 (fun f => Meth K C_ "copy" f) ["self"] 5 (sp_Reader_copy K C_)) (H__law_signs : CalE P w K mg base "_law_signs" ["_law_h", "_law_many"] 2 (sp__law_signs K)) (H__law_row : CalE P w K mg base "_law_row" ["_law_h", "_law_step_here"] 3 (sp__law_row K)) (H__law_word : CalE P w K mg base "_law_word" ["_law_step_here", "_law_number"] 2 (sp__law_word K)) (H__law_due : CalE P w K mg base "_law_due" ["_law_step_here", "_law_text", "_law_signs_here"] 4 (sp__law_due K)) (H__law_told : CalE P w K mg base "_law_told" ["_law_reader", "_law_signs_here"] 7 (sp__law_told K C_)) (H__law_stands_so : CalE P w K mg base "_law_stands_so" ["_law_reader", "_law_step_here", "_law_past"] 6 (sp__law_stands_so K C_)) (H__law_made : CalE P w K mg base "_law_made" ["_law_step_here"] 5 (sp__law_made K C_)) : FnOk P w K mg base CX0 8 f fd ["_law_script"] (sp_law K) := by
  obtain ⟨f__law_mix, fd__law_mix, G__law_mix⟩ := H__law_mix
  obtain ⟨f__law_step, fd__law_step, G__law_step⟩ := H__law_step
  obtain ⟨f_Reader___init__, fd_Reader___init__, O_Reader___init__, M_Reader___init__, B_Reader___init__⟩ := H_Reader___init__
  obtain ⟨f__law_next, fd__law_next, G__law_next⟩ := H__law_next
  obtain ⟨f__law_pick, fd__law_pick, G__law_pick⟩ := H__law_pick
  obtain ⟨f__law_alike, fd__law_alike, G__law_alike⟩ := H__law_alike
  obtain ⟨f_Reader_undo, fd_Reader_undo, O_Reader_undo, M_Reader_undo, B_Reader_undo⟩ := H_Reader_undo
  obtain ⟨f_Reader_copy, fd_Reader_copy, O_Reader_copy, M_Reader_copy, B_Reader_copy⟩ := H_Reader_copy
  obtain ⟨f__law_signs, fd__law_signs, G__law_signs⟩ := H__law_signs
  obtain ⟨f__law_row, fd__law_row, G__law_row⟩ := H__law_row
  obtain ⟨f__law_word, fd__law_word, G__law_word⟩ := H__law_word
  obtain ⟨f__law_due, fd__law_due, G__law_due⟩ := H__law_due
  obtain ⟨f__law_told, fd__law_told, G__law_told⟩ := H__law_told
  obtain ⟨f__law_stands_so, fd__law_stands_so, G__law_stands_so⟩ := H__law_stands_so
  obtain ⟨f__law_made, fd__law_made, G__law_made⟩ := H__law_made
  refine F.ok sc_law (fun vs H Q E h => ?_) (fun cdv A outer s H vs Q E hr h => ?_)
  · obtain ⟨a, ns, rfl, _⟩ := h
    rfl
  obtain ⟨a, ns, rfl, hS, hlen, k⟩ := h
  have hsz := sizeLine_eq
  refine ⟨_, (pss_cons (ps_set (i := 1) sc_law.nd rfl (.inl rfl) (pe_call G__law_mix.ok (hr.mono (by first | decide | exact Nat.le_refl _)) (by rfl) G__law_mix.g G__law_mix.kp G__law_mix.b .nil pass0 (pa_cons (pv 0) (pa_cons pe_int pa_nil))))
      (pss_cons (ps_set (i := 2) sc_law.nd rfl (.inr rfl) (pe_call G__law_step.ok (hr.mono (by first | decide | exact Nat.le_refl _)) (by rfl) G__law_step.g G__law_step.kp G__law_step.b .nil pass0 (pa_cons (pv 1) pa_nil)))
      (pss_cons (ps_asg (pe_tup (pa_cons (pe_makeR M_Reader___init__ O_Reader___init__ (hr.mono (by first | decide | exact Nat.le_refl _)) (by rfl) RC.g B_Reader___init__ (fun σ => passAt takes0 σ) (pa_cons (pv 2) pa_nil)) (pa_cons (pe_makeR M_Reader___init__ O_Reader___init__ (hr.mono (by first | decide | exact Nat.le_refl _)) (by rfl) RC.g B_Reader___init__ (fun σ => passAt takes0 σ) (pa_cons (pv 2) pa_nil)) (pa_cons (pe_lst (pa_cons pe_str pa_nil)) (pa_cons (pe_lst pa_nil) pa_nil))))) (pg_tup (by rfl) (pgs_cons (pg_name (i := 3) sc_law.nd rfl (.inl rfl)) (pgs_cons (pg_name (i := 4) sc_law.nd rfl (.inl rfl)) (pgs_cons (pg_name (i := 5) sc_law.nd rfl (.inl rfl)) (pgs_cons (pg_name (i := 6) sc_law.nd rfl (.inl rfl)) pgs_nil))))))
      (pss_cons (ps_for PassesOwn.never rfl (pi_range1 (by rfl) B.range_ (pa_cons (pe_op op_add pe_int (pe_call G__law_next.ok (hr.mono (by first | decide | exact Nat.le_refl _)) (by rfl) G__law_next.g G__law_next.kp G__law_next.b .nil pass0 (pa_cons (pv 1) (pa_cons pe_int pa_nil)))) pa_nil)) (pg_name (i := 7) sc_law.nd rfl (.inl rfl))
      (pss_cons (ps_set (i := 8) sc_law.nd rfl (.inl rfl) (pe_call G__law_pick.ok (hr.mono (by first | decide | exact Nat.le_refl _)) (by rfl) G__law_pick.g G__law_pick.kp G__law_pick.b .nil pass0 (pa_cons (pv 1) (pa_cons (pe_lst (pa_cons pe_str (pa_cons pe_str (pa_cons pe_str (pa_cons pe_str (pa_cons pe_str (pa_cons pe_str pa_nil))))))) pa_nil))))
      (pss_cons (ps_if (pt_cmpR op_eq (pv 8) pe_str (nomark _))
      (pss_cons (ps_if (pt_not (pt_val (pe_call G__law_alike.ok (hr.mono (by first | decide | exact Nat.le_refl _)) (by rfl) G__law_alike.g G__law_alike.kp G__law_alike.b .nil pass0 (pa_cons (pe_meth0 (pv 3) RC.cl M_Reader_undo O_Reader_undo (hr.mono (by first | decide | exact Nat.le_refl _)) B_Reader_undo .nil pass0) (pa_cons (pe_cmpR op_gt (pe_callB (call_len_seq_ K) (by rfl) B.len_ (by decide +kernel) (pa_cons (pv 5) pa_nil)) pe_int (nomark _)) pa_nil)))))
      (pss_one (ps_ret pe_bl))
      pss_nil)
      (pss_one (ps_set (i := 5) sc_law.nd rfl (.inl rfl) (pe_slice (sl_list_ K) (pv 5) po_none (po_some (pe_callB (call_max2 rfl) (by rfl) B.max_ (by decide +kernel) (pa_cons pe_int (pa_cons (pe_op op_sub (pe_callB (call_len_seq_ K) (by rfl) B.len_ (by decide +kernel) (pa_cons (pv 5) pa_nil)) pe_int) pa_nil))))))))
      (pss_one (ps_if (pt_cmpR op_eq (pv 8) pe_str (nomark _))
      (pss_cons (ps_set (i := 9) sc_law.nd rfl (.inl rfl) (pe_meth0 (pv 3) RC.cl M_Reader_copy O_Reader_copy (hr.mono (by first | decide | exact Nat.le_refl _)) B_Reader_copy .nil pass0))
      (pss_cons (ps_if (PW.pt (pw_or (pt_cmpR (op_eqI_ K hr.units) (pv 3) (pv 2) (nomark _)) (pw_or (pt_cmpR (op_eqI_ K hr.units) (pv 3) (pe_ix (ix_list_ K) (pv 5) (pe_un un_neg pe_int) (fun _ _ => rfl)) (nomark _)) (pw_or1 (pt_cmpR (op_eqI_ K hr.units) (pv 3) (pe_tup (pa_cons (pv 2) pa_nil)) (nomark _))))))
      (pss_one (ps_ret pe_bl))
      pss_nil)
      (pss_cons (ps_if (pt_cmpR op_eq (pe_call G__law_next.ok (hr.mono (by first | decide | exact Nat.le_refl _)) (by rfl) G__law_next.g G__law_next.kp G__law_next.b .nil pass0 (pa_cons (pv 1) (pa_cons pe_int pa_nil))) pe_int (nomark _))
      (pss_one (ps_par (i := 3) (j := 9) (by rfl) sc_law.nd rfl rfl (by decide) rfl rfl (pa_cons (pv 9) (pa_cons (pv 3) pa_nil)) (by rfl)))
      pss_nil)
      (pss_one (ps_expr (pe_bm PySem.F.plainAttrs_list PySem.F.slot_list_append PySem.F.type_list_append mt_append (pv 6) (pa_cons (pe_tup (pa_cons (pv 9) (pa_cons (pv 5) pa_nil))) pa_nil)))))))
      (pss_cons (ps_set (i := 10) sc_law.nd rfl (.inl rfl) (pe_call G__law_signs.ok (hr.mono (by first | decide | exact Nat.le_refl _)) (by rfl) G__law_signs.g G__law_signs.kp G__law_signs.b .nil pass0 (pa_cons (pv 1) (pa_cons (pe_call G__law_next.ok (hr.mono (by first | decide | exact Nat.le_refl _)) (by rfl) G__law_next.g G__law_next.kp G__law_next.b .nil pass0 (pa_cons (pv 1) (pa_cons pe_int pa_nil))) pa_nil))))
      (pss_cons (ps_if (pt_cmpR op_eq (pv 8) pe_str (nomark _))
      (pss_one (ps_set (i := 10) sc_law.nd rfl (.inl rfl) (pe_join_ K pe_str (pe_lc (own := [("_law_number", 13)]) (g := gName 13) (tt := tYes) rfl sc_law.nd (pi_tup (pe_call G__law_row.ok (hr.mono (by first | decide | exact Nat.le_refl _)) (by rfl) G__law_row.g G__law_row.kp G__law_row.b .nil pass0 (pa_cons (pv 1) (pa_cons (pv 2) pa_nil)))) (blkOk_by (own := [("_law_number", 13)]) (N := ["_law_script", "_law_h", "_law_step_here", "_law_reader", "_law_side", "_law_past", "_law_kept", "_law_turn", "_law_kind", "_law_twin", "_law_signs_here", "_law_due_here", "_law_bad", "_law_number", "_law_one"]) (sc := defScope s_law) (by decide +kernel)) (fun _ _ _ _ _ => (pg_name (i := 13) sc_law.nd rfl (.inl rfl))) (fun _ _ _ _ _ => pts_nil) (fun _ _ _ _ _ => (pe_call G__law_word.ok (hr.mono (by first | decide | exact Nat.le_refl _)) (by rfl) G__law_word.g G__law_word.kp G__law_word.b .nil pass0 (pa_cons (pv 2) (pa_cons (pv 13) pa_nil))))))))
      pss_nil)
      (pss_cons (ps_if (pt_cmpR op_eq (pv 8) pe_str (nomark _))
      (pss_one (ps_set (i := 10) sc_law.nd rfl (.inl rfl) (pe_call G__law_pick.ok (hr.mono (by first | decide | exact Nat.le_refl _)) (by rfl) G__law_pick.g G__law_pick.kp G__law_pick.b .nil pass0 (pa_cons (pv 1) (pa_cons (pe_lst (pa_cons pe_non (pa_cons pe_str (pa_cons pe_str (pa_cons pe_int (pa_cons (pe_tup (pa_cons pe_str pa_nil)) (pa_cons (pe_op op_mul_str pe_str pe_int) (pa_cons (pe_op op_mul_str pe_str pe_int) (pa_cons (pe_lst (pa_cons pe_str pa_nil)) (pa_cons pe_dnewK pa_nil)))))))))) pa_nil)))))
      pss_nil)
      (pss_cons (ps_set (i := 11) sc_law.nd rfl (.inl rfl) (pe_call G__law_due.ok (hr.mono (by first | decide | exact Nat.le_refl _)) (by rfl) G__law_due.g G__law_due.kp G__law_due.b .nil pass0 (pa_cons (pv 2) (pa_cons (pe_ix (ix_list_ K) (pv 5) (pe_un un_neg pe_int) (fun _ _ => rfl)) (pa_cons (pv 10) pa_nil)))))
      (pss_cons (ps_if (pt_not (pt_val (pe_call G__law_alike.ok (hr.mono (by first | decide | exact Nat.le_refl _)) (by rfl) G__law_alike.g G__law_alike.kp G__law_alike.b .nil pass0 (pa_cons (pe_call G__law_told.ok (hr.mono (by first | decide | exact Nat.le_refl _)) (by rfl) G__law_told.g G__law_told.kp G__law_told.b .nil pass0 (pa_cons (pv 3) (pa_cons (pv 10) pa_nil))) (pa_cons (pv 11) pa_nil)))))
      (pss_one (ps_ret pe_bl))
      pss_nil)
      (pss_one (ps_set (i := 5) sc_law.nd rfl (.inl rfl) (pe_op op_cat (pv 5) (pe_ifExp (pt_val (pe_callB (call_isi_ K) (by rfl) B.isinstance_ (by decide +kernel) (pa_cons (pv 11) (pa_cons (pe_bltn (v := .ty "tuple") (by rfl) B.tuple_ (by decide +kernel) rfl) pa_nil)))) (pe_lst (pa_cons (pe_op op_add_str (pe_ix (ix_list_ K) (pv 5) (pe_un un_neg pe_int) (fun _ _ => rfl)) (pv 10)) pa_nil)) (pe_lst pa_nil)))))))))))))
      (pss_one (ps_if (pt_not (pt_val (pe_call G__law_stands_so.ok (hr.mono (by first | decide | exact Nat.le_refl _)) (by rfl) G__law_stands_so.g G__law_stands_so.kp G__law_stands_so.b .nil pass0 (pa_cons (pv 3) (pa_cons (pv 2) (pa_cons (pv 5) pa_nil))))))
      (pss_one (ps_ret pe_bl))
      pss_nil)))))
      (pss_cons (ps_if (pt_cmpR (op_neD_ K hr.units) (pe_lc (own := [("_law_one", 14)]) (g := gName 14) (tt := _) rfl sc_law.nd (pi_list (pv 6)) (blkOk_by (own := [("_law_one", 14)]) (N := ["_law_script", "_law_h", "_law_step_here", "_law_reader", "_law_side", "_law_past", "_law_kept", "_law_turn", "_law_kind", "_law_twin", "_law_signs_here", "_law_due_here", "_law_bad", "_law_number", "_law_one"]) (sc := defScope s_law) (by decide +kernel)) (fun _ _ _ _ _ => (pg_name (i := 14) sc_law.nd rfl (.inl rfl))) (fun _ _ _ _ _ => (pts_one (pt_not (pt_val (pe_call G__law_stands_so.ok (hr.mono (by first | decide | exact Nat.le_refl _)) (by rfl) G__law_stands_so.g G__law_stands_so.kp G__law_stands_so.b .nil pass0 (pa_cons (pe_ix (ix_tup_ K) (pv 14) pe_int (fun _ _ => rfl)) (pa_cons (pv 2) (pa_cons (pe_ix (ix_tup_ K) (pv 14) pe_int (fun _ _ => rfl)) pa_nil)))))))) (fun _ _ _ _ _ => (pv 14))) (pe_lst pa_nil) (nomark _))
      (pss_one (ps_ret pe_bl))
      pss_nil)
      (pss_cons (ps_setLc (i := 12) (own := [("_law_one", 14)]) (g := gName 14) (tt := _) rfl sc_law.nd rfl rfl (sw_true rfl rfl rfl (by decide +kernel)) (pi_list (pe_lst (pa_cons pe_int (pa_cons pe_int (pa_cons pe_non (pa_cons pe_bl (pa_cons pe_str (pa_cons (pe_un un_neg pe_int) pa_nil)))))))) (blkOk_by (own := [("_law_one", 14)]) (N := ["_law_script", "_law_h", "_law_step_here", "_law_reader", "_law_side", "_law_past", "_law_kept", "_law_turn", "_law_kind", "_law_twin", "_law_signs_here", "_law_due_here", "_law_bad", "_law_number", "_law_one"]) (sc := defScope s_law) (by decide +kernel)) (fun _ _ _ _ _ => (pg_name (i := 14) sc_law.nd rfl (.inl rfl))) (fun _ _ _ _ _ => (pts_one (pt_not (pt_val (pe_call G__law_made.ok (hr.mono (by first | decide | exact Nat.le_refl _)) (by rfl) G__law_made.g G__law_made.kp G__law_made.b .nil pass0 (pa_cons (pv 14) pa_nil)))))) (fun _ _ _ _ _ => (pv 14)))
      (pss_one (ps_ret (pe_and (pe_cmpR (op_eqD_ K hr.units) (pv 12) (pe_lst pa_nil) (nomark _)) (pe_one (pe_call G__law_stands_so.ok (hr.mono (by first | decide | exact Nat.le_refl _)) (by rfl) G__law_stands_so.g G__law_stands_so.kp G__law_stands_so.b .nil pass0 (pa_cons (pv 4) (pa_cons (pv 2) (pa_cons (pe_lst (pa_cons pe_str pa_nil)) pa_nil)))))))))))))), ?_⟩
  refine ⟨_, rfl, a, ns, 13, rfl, hS, hlen, fun h q H1 s1 n1 n2 L1 => ?_⟩
  refine ⟨_, rfl, h, q, rfl, L1, fun m H2 m1 m64 L2 S2 => ?_⟩
  refine ⟨_, rfl, fun r dx nr ndx nrd => mk_reader m1 m64 nr ndx nrd fun p H3 s3 np nrp R3 => ⟨rfl, ?_⟩⟩
  refine ⟨_, rfl, fun r2 dx2 nr2 ndx2 nrd2 => mk_reader m1 m64 nr2 ndx2 nrd2 fun p2 H4 s4 np2 nrp2 R4 => ⟨rfl, ?_⟩⟩
  refine ⟨(by show 1 ≤ sizeLine; omega), fun pa npa => ⟨(by show 0 ≤ sizeLine; omega), fun ka nka => ?_⟩⟩
  have nkp : ka ≠ pa := fun z => by
    rw [z, upd_same] at nka
    cases nka
  have s5 := (same_new npa (.lst [.str ""])).trans (same_new nka (.lst []))
  have nka4 := (same_new npa (.lst [.str ""])).free nka
  have epa : (upd (upd H4 pa (.lst [.str ""])) ka (.lst [])) pa = some (.lst [.str ""]) := by rw [upd_ne (Ne.symm nkp), upd_same]
  have eka : (upd (upd H4 pa (.lst [.str ""])) ka (.lst [])) ka = some (.lst []) := upd_same
  have K1 : KI C_ (upd (upd H4 pa (.lst [.str ""])) ka (.lst [])) m 0 h q ka [] [⟨r, p, pa, [], []⟩, ⟨r2, p2, pa, [], []⟩] [] := by
    have Ra := (R3.same s4).same s5
    have Rb := R4.same s5
    obtain ⟨xs, ys, e1, e2⟩ := L2.srcs
    have f1 := s3 _ _ e1
    have f2 := s3 _ _ e2
    have g1 := s4 _ _ f1
    have g2 := s4 _ _ f2
    obtain ⟨dx, o⟩ := R3.o
    have o4 := s4 _ _ o
    have p4 := s4 _ _ R3.p
    obtain ⟨dx2, o2⟩ := R4.o
    refine ⟨((L2.same s3).same s4).same s5, fun x hx => ?_, (fun x hx => nomatch hx), List.pairwise_cons.mpr ⟨fun y hy => ?_, List.pairwise_singleton _ _⟩, fun x hx y hy => ?_, fun x hx => ?_, eka, .nil, ?_⟩
    · rcases List.mem_cons.mp hx with rfl | hx
      · exact ⟨Ra, .nil, by rw [epa, tx_nil]; rfl, Nat.le_refl _⟩
      · cases List.mem_singleton.mp hx
        exact ⟨Rb, .nil, by rw [epa, tx_nil]; rfl, Nat.le_refl _⟩
    · cases List.mem_singleton.mp hy
      exact ⟨ne_of_none o nr2, ne_of_none R3.p np2⟩
    · have e : y.pa = pa := by
        rcases List.mem_cons.mp hy with rfl | hy
        · rfl
        · cases List.mem_singleton.mp hy
          rfl
      rw [e]
      rcases List.mem_cons.mp hx with rfl | hx
      · exact ne_of_none p4 npa
      · cases List.mem_singleton.mp hx
        exact ne_of_none R4.p npa
    · have e : x.pa = pa ∧ (x.p = p ∨ x.p = p2) := by
        rcases List.mem_cons.mp hx with rfl | hx
        · exact ⟨rfl, .inl rfl⟩
        · cases List.mem_singleton.mp hx
          exact ⟨rfl, .inr rfl⟩
      rw [e.1]
      refine ⟨?_, ?_, ?_, (ne_of_none g1 npa).symm, (ne_of_none g2 npa).symm, nkp.symm⟩
      · rcases e.2 with e | e <;> rw [e]
        · exact (ne_of_none e1 np).symm
        · exact (ne_of_none f1 np2).symm
      · rcases e.2 with e | e <;> rw [e]
        · exact (ne_of_none e2 np).symm
        · exact (ne_of_none f2 np2).symm
      · rcases e.2 with e | e <;> rw [e]
        · exact ne_of_none p4 nka4
        · exact ne_of_none R4.p nka4
    · exact ⟨(ne_of_none g1 nka4).symm, (ne_of_none g2 nka4).symm⟩
  clear R3 R4 eka epa
  generalize upd (upd H4 pa (.lst [.str ""])) ka (.lst []) = H5 at *
  refine ⟨(by show 4 ≤ sizeLine; omega), fun t nt => ?_⟩
  have K2 := K1.same (same_new nt (.tup [.ref r, .ref r2, .ref pa, .ref ka]))
  have et : (upd H5 t (.tup [.ref r, .ref r2, .ref pa, .ref ka])) t = some (.tup [.ref r, .ref r2, .ref pa, .ref ka]) := upd_same
  generalize upd H5 t (.tup [.ref r, .ref r2, .ref pa, .ref ka]) = H6 at *
  refine ⟨t, _, rfl, .inl (.inl et), rfl, ?_⟩
  refine ⟨_, _, rfl, _, _, rfl, _, _, rfl, _, _, rfl, rfl, ?_⟩
  clear et K1 nt
  refine ⟨_, rfl, h, q, 8, rfl, K2.L, by decide, by decide, fun y H7 y0 y1 L7 S7 => ?_⟩
  have K3 := K2.draw L7 S7
  obtain ⟨n, en, hn⟩ : ∃ n : Nat, (3 : Int) + y = (n : Int) ∧ n ≤ 10 := ⟨3 + y.toNat, by omega, by omega⟩
  refine ⟨_, _, rfl, rfl, _, rfl, by rw [en]; omega, by rw [en]; omega, ?_⟩
  rw [en, Int.toNat_natCast]
  obtain ⟨Sd, hSd⟩ : ∃ Sd : Rdr, Sd = ⟨r2, p2, pa, [], []⟩ := ⟨_, rfl⟩
  have er2 : r2 = Sd.r := by rw [hSd]
  rw [← hSd] at K3
  rw [er2]
  have hSd2 : Sd.ts = [] ∧ Sd.l = [] := by
    rw [hSd]
    exact ⟨rfl, rfl⟩
  clear K2 hSd
  refine for_range (lo := 0) (n := n) (fun i σ H' => ∃ (x : Rdr) (ks : List Addr) (all kept : List Rdr) (v7 v8 v9 v10 v11 v12 v13 v14 : Option V), σ = [some (.ref a), some (.ref h), some (.int (m : Nat)), some (.ref x.r), some (.ref Sd.r), some (.ref x.pa), some (.ref ka), v7, v8, v9, v10, v11, v12, v13, v14] ∧ KI C_ H' m i h q ka ks (x :: all) kept ∧ (∀ y ∈ kept, y ∈ all) ∧ Sd ∈ all ∧ kept.length ≤ i) ⟨⟨r, p, pa, [], []⟩, [], [Sd], [], _, _, _, _, _, _, _, _, rfl, K3, (fun y hy => nomatch hy), .head _, Nat.le_refl _⟩ ?_ ?_
  · clear K3
    rintro i σ H8 hi ⟨x, ks, all, kept, v7, v8, v9, v10, v11, v12, v13, v14, rfl, K4, hk, hs, hkl⟩
    refine ⟨_, rfl, (by show 6 ≤ sizeLine; omega), fun t nt => pickI K4.L nt (fun z => by cases z) (by show 6 ≤ 1000; decide) fun kd hkd H9 L9 S9 => ?_⟩
    obtain ⟨kd, rfl⟩ : ∃ s : Str, kd = .str s := by
      simp only [List.mem_cons, List.not_mem_nil, or_false] at hkd
      rcases hkd with rfl | rfl | rfl | rfl | rfl | rfl <;> exact ⟨_, rfl⟩
    clear hkd
    have K5 := K4.draw L9 S9
    clear K4 S9 L9 nt
    refine seq_anyG (fun σ H' => ∃ (x : Rdr) (ks : List Addr) (all kept : List Rdr) (v7 v8 v9 v10 v11 v12 v13 v14 : Option V), σ = [some (.ref a), some (.ref h), some (.int (m : Nat)), some (.ref x.r), some (.ref Sd.r), some (.ref x.pa), some (.ref ka), v7, v8, v9, v10, v11, v12, v13, v14] ∧ KI C_ H' m (i + 1) h q ka ks (x :: all) kept ∧ (∀ y ∈ kept, y ∈ all) ∧ Sd ∈ all ∧ kept.length ≤ i + 1) (fun D' hD' => ?_) (fun σ9 H10 hG => ?_)
    rotate_left
    · obtain ⟨x, ks, all, kept, v7, v8, v9, v10, v11, v12, v13, v14, rfl, K6, hk, hs, hkl⟩ := hG
      have ok6 := K6.ok x (.head _)
      refine ⟨_, rfl, _, rfl, _, rfl, x.r, x.p, x.pa, m, x.l, _, x.ts, rfl, ok6.at_, .inl (.inl ok6.past), (List.length_map _).symm, fun H11 s11 => ⟨_, rfl, iteF ?_⟩⟩
      exact ⟨x, ks, all, kept, _, _, _, _, _, _, _, _, rfl, K6.same s11, hk, hs, hkl⟩
    have okx := K5.ok x (.head _)
    obtain ⟨dx, o⟩ := okx.at_.o
    have hR := okx.at_
    refine ⟨_, rfl, rfl, _, rfl, ?_⟩
    refine ite2 (fun _ => ?_) (fun _ => ?_)
    · -- undo
      refine ⟨_, rfl, x.r, dx, _, rfl, o, rd_no _ _ _ (by decide +kernel) (by decide +kernel) (by decide +kernel), ?_⟩
      refine to_nil (undo_any okx fun b ts l H10 eb kr R10 T10 et hl => ?_)
      have pa10 : H10 x.pa = some (.lst ((x.ts ++ [x.l]).map fun l => V.str (tx l))) := kr _ _ (fun z => ins_ne o okx.past z.symm) (fun z => K5.pp x (.head _) x (.head _) z.symm) okx.past
      refine ⟨_, rfl, x.pa, _, rfl, .inl (.inl (.inl pa10)), _, _, rfl, rfl, ?_⟩
      have eb2 : decide ((1 : Int) < ((((x.ts ++ [x.l]).map fun l => V.str (tx l)).length : Nat) : Int)) = b := by
        rw [eb, List.length_map, List.length_append, List.length_singleton]
        exact decide_eq_decide.mpr ⟨fun z => by omega, fun z => by omega⟩
      dsimp only
      rw [eb2]
      refine ⟨_, _, .bool b, 4, rfl, rfl, .bl _, .bl _, trivial, fun H11 s11 => ⟨_, rfl, iteF ?_⟩⟩
      have pa11 := s11 _ _ pa10
      refine ⟨_, rfl, _, rfl, x.pa, _, rfl, .inl (.inl (.inl pa11)), _, _, rfl, rfl, _, _, rfl, _, rfl, x.pa, _, rfl, .inl (.inl pa11), fun pz npz => ?_⟩
      have ecut : cutV ((x.ts ++ [x.l]).map fun l => V.str (tx l)) none (some (if (1 : Int) < ((((x.ts ++ [x.l]).map fun l => V.str (tx l)).length : Nat) : Int) - 1 then ((((x.ts ++ [x.l]).map fun l => V.str (tx l)).length : Nat) : Int) - 1 else 1)) = (ts ++ [l]).map fun l => V.str (tx l) := by
        have em : (if (1 : Int) < ((((x.ts ++ [x.l]).map fun l => V.str (tx l)).length : Nat) : Int) - 1 then ((((x.ts ++ [x.l]).map fun l => V.str (tx l)).length : Nat) : Int) - 1 else 1) = ((max 1 x.ts.length : Nat) : Int) := by
          rw [List.length_map, List.length_append, List.length_singleton]
          split <;> omega
        rw [em, cutV_to, ← List.map_take, et]
      dsimp only
      rw [show (some (if ((((x.ts ++ [x.l]).map fun l => V.str (tx l)).length : Nat) : Int) - 1 > 1 then ((((x.ts ++ [x.l]).map fun l => V.str (tx l)).length : Nat) : Int) - 1 else 1)) = (some (if (1 : Int) < ((((x.ts ++ [x.l]).map fun l => V.str (tx l)).length : Nat) : Int) - 1 then ((((x.ts ++ [x.l]).map fun l => V.str (tx l)).length : Nat) : Int) - 1 else 1)) from rfl, ecut]
      have s12 := s11.trans (same_new npz (.lst ((ts ++ [l]).map fun l => V.str (tx l))))
      have kr12 := kr.trans (KeepR.of s12)
      have ez : (upd H11 pz (.lst ((ts ++ [l]).map fun l => V.str (tx l)))) pz = some (.lst ((ts ++ [l]).map fun l => V.str (tx l))) := upd_same
      have npz9 : ∀ b u, b ≠ x.r → b ≠ x.p → H9 b = some u → b ≠ pz := fun b u n1 n2 e => ne_of_none (s11 _ _ (kr b u n1 n2 e)) npz
      have R12 := R10.same s12
      have nzr : x.p ≠ pz := ne_of_none (s11 _ _ R10.p) npz
      generalize upd H11 pz (.lst ((ts ++ [l]).map fun l => V.str (tx l))) = H12 at *
      have lst_r : ∀ {b : Addr} {zs : List V}, H9 b = some (.lst zs) → b ≠ x.r := fun e z => ins_ne o (z ▸ e) rfl
      obtain ⟨xs9, ys9, eh9, eq9⟩ := K5.L.srcs
      have phx := K5.ph x (.head _)
      have nxr := List.pairwise_cons.mp K5.nr
      refine hD' _ _ ⟨⟨x.r, x.p, pz, ts, l⟩, ks, all, kept, _, _, _, _, _, _, _, _, rfl, K5.chg hk kr12 ⟨R12, T10, ez, by have := okx.few; show ts.length ≤ i + 1; omega⟩ rfl rfl (by omega) (fun y hy => ?_) ⟨?_, ?_, ?_⟩, hk, hs, by omega⟩
      · rcases List.mem_cons.mp hy with rfl | hy
        · exact nzr
        · have hp := (K5.ok y (.tail _ hy)).at_.p
          exact npz9 _ _ (lst_r hp) (fun z => (nxr.1 y hy).2 z.symm) hp
      · exact (npz9 _ _ (lst_r eh9) (fun z => phx.1 z.symm) eh9).symm
      · exact (npz9 _ _ (lst_r eq9) (fun z => phx.2.1 z.symm) eq9).symm
      · exact (npz9 _ _ (lst_r K5.ek) (fun z => phx.2.2.1 z.symm) K5.ek).symm
    refine ⟨_, rfl, rfl, _, rfl, ?_⟩
    refine ite2 (fun _ => ?_) (fun _ => ?_)
    · -- copy
      refine ⟨_, rfl, x.r, dx, _, rfl, o, rd_no _ _ _ (by decide +kernel) (by decide +kernel) (by decide +kernel), x.r, x.p, m, x.l, _, rfl, hR, fun r' p' H10 s10 nr' np' nrp' R10 => ?_⟩
      have pa10 := s10 _ _ okx.past
      have K6 : KI C_ H10 m i h q ka ks (⟨r', p', x.pa, x.ts, x.l⟩ :: x :: all) kept := K5.new s10 ⟨R10, okx.told, pa10, okx.few⟩ nr' np' ⟨x, .head _, rfl⟩ (by simp)
      have o10 := s10 _ _ o
      refine ⟨_, rfl, _, rfl, x.r, C_, dx, _, rfl, o10, RC.e, .inl ⟨_, rfl⟩, _, rfl, iteF ?_⟩
      refine ⟨_, rfl, _, rfl, _, rfl, x.pa, _, _, _, rfl, rfl, .inl (.inl pa10), atL _, x.r, C_, dx, _, rfl, o10, RC.e, .inr (.inl ⟨_, rfl⟩), _, rfl, iteF ?_⟩
      refine ⟨_, rfl, _, rfl, (by show 1 ≤ sizeLine; omega), fun t nt => ⟨x.r, C_, dx, _, rfl, same_new nt _ _ _ o10, RC.e, .inr (.inr ⟨t, _, rfl, .inl (.inl upd_same)⟩), _, rfl, iteF ?_⟩⟩
      have K7 := K6.same (same_new nt (.tup [.int (m : Nat)]))
      clear K6 pa10 o10 R10
      generalize upd H10 t (.tup [.int (m : Nat)]) = H11 at *
      refine seq_anyG (fun σ H' => ∃ (x' tw : Rdr) (v7 v8 v10 v11 v12 v13 v14 : Option V), σ = [some (.ref a), some (.ref h), some (.int (m : Nat)), some (.ref x'.r), some (.ref Sd.r), some (.ref x'.pa), some (.ref ka), v7, v8, some (.ref tw.r), v10, v11, v12, v13, v14] ∧ KI C_ H' m i h q ka ks (x' :: tw :: all) kept ∧ tw.pa = x'.pa) (fun D2 hD2 => ?_) (fun σ9 H12 hG => ?_)
      · refine ⟨_, rfl, h, q, 2, rfl, K7.L, by decide, by decide, fun z H12 z0 z1 L12 S12 => ?_⟩
        have K8 := K7.draw L12 S12
        refine ⟨rfl, _, rfl, ite2 (fun _ => ?_) (fun _ => ?_)⟩
        · refine ⟨_, rfl, _, rfl, _, _, rfl, ?_⟩
          exact hD2 _ _ ⟨⟨r', p', x.pa, x.ts, x.l⟩, x, _, _, _, _, _, _, _, rfl, K8, rfl⟩
        · exact hD2 _ _ ⟨x, ⟨r', p', x.pa, x.ts, x.l⟩, _, _, _, _, _, _, _, rfl, K8.perm (.swap _ _ _), rfl⟩
      · obtain ⟨x', tw, v7, v8, v10, v11, v12, v13, v14, rfl, K9, epa⟩ := hG
        have hlen9 := K9.et.length
        refine ⟨_, rfl, .inl ⟨rfl, _, .inl (.inl K9.ek)⟩, _, rfl, _, rfl, (by show 2 ≤ sizeLine; omega), fun t nt => ?_⟩
        have et : (upd H12 t (.tup [.ref tw.r, .ref tw.pa])) t = some (.tup [.ref tw.r, .ref tw.pa]) := upd_same
        rw [← epa]
        have K10 := K9.same (same_new nt (.tup [.ref tw.r, .ref tw.pa]))
        dsimp only
        generalize upd H12 t (.tup [.ref tw.r, .ref tw.pa]) = H13 at *
        refine ⟨ka, _, _, rfl, rfl, K10.ek, by rw [List.length_map]; omega, ?_⟩
        refine hD' _ _ ⟨x', ks ++ [t], tw :: all, kept ++ [tw], _, _, _, _, _, _, _, _, by rw [epa], ⟨(K10.push (.tail _ (.head _)) et).L, fun y hy => (K10.push (.tail _ (.head _)) et).ok y hy |>.more (by omega), (K10.push (.tail _ (.head _)) et).sub, K10.nr, K10.pp, K10.ph, (K10.push (.tail _ (.head _)) et).ek, (K10.push (.tail _ (.head _)) et).et, K10.kh⟩, fun y hy => ?_, .tail _ hs, by rw [List.length_append, List.length_singleton]; omega⟩
        rcases List.mem_append.mp hy with hy | hy
        · exact .tail _ (hk y hy)
        · cases List.mem_singleton.mp hy
          exact .head _
    · -- signs, words, odd
      clear o hR
      refine ⟨_, rfl, _, rfl, h, q, 12, rfl, K5.L, by decide, by decide, fun y H10 y0 y1 L10 S10 => ?_⟩
      have K6 := K5.draw L10 S10
      obtain ⟨c, rfl⟩ : ∃ c : Nat, y = (c : Int) := ⟨y.toNat, by omega⟩
      refine ⟨h, q, c, rfl, L10, by omega, fun l0 H11 ll0 L11 S11 => ?_⟩
      have K7 := K6.draw L11 S11
      refine seq_anyG (fun σ H' => ∃ (z : V) (v7 v9 v11 v12 v13 v14 : Option V), σ = [some (.ref a), some (.ref h), some (.int (m : Nat)), some (.ref x.r), some (.ref Sd.r), some (.ref x.pa), some (.ref ka), v7, some (.str kd), v9, some z, v11, v12, v13, v14] ∧ KI C_ H' m i h q ka ks (x :: all) kept ∧ AnyV K H' z ∧ ZOk z) (fun D2 hD2 => ?_) (fun σ12 H12 hG => ?_)
      · refine ⟨_, rfl, rfl, _, rfl, ?_⟩
        refine ite2 (fun _ => ?_) (fun _ => ?_)
        · refine ⟨⟨_, rfl⟩, _, rfl, _, rfl, h, q, m, rfl, L11, m1, m64, fun T ns H12 nl nb L12 S12 nT eT => ?_⟩
          have K8 := K7.draw L12 S12
          have lm : (ns.map fun n => V.int (n : Nat)).length = ns.length := List.length_map _
          have hdm : ∀ z ∈ ns, z / m ≤ 20 := fun z hz => Nat.le_of_lt (Nat.div_lt_of_lt_mul (by rw [Nat.mul_comm]; exact nb z hz))
          have hrl := row_le (m := m) (c := 20) m64 (ns := ns) hdm
          have hrl2 : ns.length * (20 + 7) ≤ 10 * 27 := Nat.mul_le_mul_right _ nl
          have l0 : ("" : Str).length = 0 := by decide +kernel
          refine ⟨T, rfl, ⟨_, .inl (.inl eT)⟩, fun D nD => ?_⟩
          refine lc_tup (K := K) (a := T) (xs := ns.map fun n => V.int (n : Nat)) (fun j H6 => Same H12 H6 ∧ H6 D = some (.lst ((((ns.take j).map (wordB m)).map tx).map V.str))) ⟨same_new nD _, upd_same⟩ (fun j H6 _ h6 => .inl (.inl (h6.1 _ _ eT))) ?_ ?_
          · rintro j x H6 hx ⟨s6, eD⟩
            obtain ⟨z, hz, rfl⟩ : ∃ z, ns[j]? = some z ∧ x = V.int (z : Nat) := by
              rw [List.getElem?_map] at hx
              cases e : ns[j]? with
              | none => rw [e] at hx; cases hx
              | some z => rw [e] at hx; exact ⟨z, rfl, (Option.some.inj hx).symm⟩
            have hj : j < ns.length := (List.getElem?_eq_some_iff.mp hz).1
            refine ⟨rfl, _, rfl, _, rfl, m, z, rfl, m1, m64, by have := hdm z (List.mem_of_getElem? hz); omega, ?_⟩
            refine ⟨_, eD, ?_, ?_, ?_⟩
            · rw [List.length_map, List.length_map, List.length_map, List.length_take]
              omega
            · intro b o ho
              rw [upd_ne (ne_of_none ho nD)]
              exact s6 b o ho
            · rw [upd_same, take_more hz, List.map_append, List.map_append, List.map_append]
              rfl
          rintro H6 ⟨s6, eD⟩
          rw [lm, List.take_length] at eD
          refine ⟨_, D, _, rfl, rfl, .inl (.inl (.inl eD)), ?_, ?_⟩
          · rw [join_len, l0, Nat.mul_zero, Nat.add_zero]
            show (rowB m ns).length ≤ _
            omega
          rw [join_tx]
          exact hD2 _ _ ⟨.str (tx (rowB m ns)), _, _, _, _, _, _, rfl, K8.same s6, .str _, zok_tx (by omega)⟩
        · exact hD2 _ _ ⟨.str (tx l0), _, _, _, _, _, _, rfl, K7, .str _, zok_tx (by omega)⟩
      · obtain ⟨z, v7, v9, v11, v12, v13, v14, rfl, K8, hz, zz⟩ := hG
        refine seq_anyS (fun σ H' => ∃ (z : V) (v7 v8 v9 v11 v12 v13 v14 : Option V), σ = [some (.ref a), some (.ref h), some (.int (m : Nat)), some (.ref x.r), some (.ref Sd.r), some (.ref x.pa), some (.ref ka), v7, v8, v9, some z, v11, v12, v13, v14] ∧ KI C_ H' m i h q ka ks (x :: all) kept ∧ AnyV K H' z ∧ ZOk z) (fun D2 hD2 => ?_) (fun σ13 H13 hG => ?_)
        · refine ⟨_, rfl, rfl, _, rfl, ?_⟩
          refine ite2 (fun _ => ?_) (fun _ => hD2 _ _ ⟨z, _, _, _, _, _, _, _, rfl, K8, hz, zz⟩)
          refine ⟨_, rfl, (by show 1 ≤ sizeLine; omega), fun t1 nt1 => ?_⟩
          refine ⟨_, _, rfl, rfl, by decide, by decide, by decide +kernel, _, _, rfl, rfl, by decide, by decide, by decide +kernel, (by show 1 ≤ sizeLine; omega), fun t2 nt2 => ?_⟩
          refine fun t3 nt3 => ⟨(by show 9 ≤ sizeLine; omega), fun t nt => ?_⟩
          have s1 := same_new nt1 (.tup [.str "0"])
          have s2 := same_new nt2 (.lst [.str "0"])
          have s3 := same_new nt3 (.dK [])
          have e1 : (upd H12 t1 (.tup [.str "0"])) t1 = some (.tup [.str "0"]) := upd_same
          have e2 : (upd (upd H12 t1 (.tup [.str "0"])) t2 (.lst [.str "0"])) t2 = some (.lst [.str "0"]) := upd_same
          have e3 : (upd (upd (upd H12 t1 (.tup [.str "0"])) t2 (.lst [.str "0"])) t3 (.dK [])) t3 = some (.dK []) := upd_same
          have K11 := ((K8.same s1).same s2).same s3
          have f1 := s3 _ _ (s2 _ _ e1)
          have f2 := s3 _ _ e2
          have n1 : t1 ≠ h ∧ t1 ≠ q := ⟨fun z => K8.L.nn.1 (z ▸ nt1), fun z => K8.L.nn.2 (z ▸ nt1)⟩
          have n2 : t2 ≠ h ∧ t2 ≠ q := ⟨fun z => (K8.same s1).L.nn.1 (z ▸ nt2), fun z => (K8.same s1).L.nn.2 (z ▸ nt2)⟩
          have n3 : t3 ≠ h ∧ t3 ≠ q := ⟨fun z => ((K8.same s1).same s2).L.nn.1 (z ▸ nt3), fun z => ((K8.same s1).same s2).L.nn.2 (z ▸ nt3)⟩
          generalize upd (upd (upd H12 t1 (.tup [.str "0"])) t2 (.lst [.str "0"])) t3 (.dK []) = H13 at *
          refine pickI K11.L nt (fun z => by cases z) (by show 9 ≤ 1000; decide) fun y hy H14 L14 S14 => ?_
          have hyz : AnyV K H14 y ∧ ZOk y := by
            simp only [List.mem_cons, List.not_mem_nil, or_false] at hy
            rcases hy with rfl | rfl | rfl | rfl | rfl | rfl | rfl | rfl | rfl
            · exact ⟨.non, fun z e => nomatch e⟩
            · exact ⟨.str _, fun z e => by cases e; exact ⟨by decide +kernel, by decide +kernel⟩⟩
            · exact ⟨.str _, fun z e => by cases e; exact ⟨by decide +kernel, by decide +kernel⟩⟩
            · exact ⟨.int _, fun z e => nomatch e⟩
            · exact ⟨.tup (.base (.tup (S14 _ _ f1 n1.1 n1.2))), fun z e => nomatch e⟩
            · refine ⟨.str _, ?_⟩
              rw [tx_one, repS_tx]
              exact zok_tx (by rw [List.length_flatten, List.map_replicate, List.sum_replicate_nat]; decide)
            · refine ⟨.str _, ?_⟩
              rw [show ("10" : Str) = tx [true, false] by decide +kernel, repS_tx]
              exact zok_tx (by rw [List.length_flatten, List.map_replicate, List.sum_replicate_nat]; decide)
            · exact ⟨.lst (.base (.lst (S14 _ _ f2 n2.1 n2.2))), fun z e => nomatch e⟩
            · exact ⟨.dct (.base (.dK (S14 _ _ e3 n3.1 n3.2))), fun z e => nomatch e⟩
          exact hD2 _ _ ⟨y, _, _, _, _, _, _, _, rfl, K11.draw L14 S14, hyz.1, hyz.2⟩
        · obtain ⟨z, v7, v8, v9, v11, v12, v13, v14, rfl, K9, hz, zz⟩ := hG
          have ok9 := K9.ok x (.head _)
          have m1' := ok9.at_.m1
          refine ⟨_, rfl, _, rfl, _, rfl, x.pa, _, _, _, rfl, rfl, .inl (.inl ok9.past), atL _, _, rfl, ?_⟩
          rcases no_or z x.l.length with ⟨wd, no⟩ | ⟨s, rfl, hs4, hls⟩
          · refine to_nil (due_no no m1' m64 ok9.at_.l4 hz zz fun H14 s14 => ?_)
            have K10 := K9.same s14
            have ok10 := K10.ok x (.head _)
            refine ⟨_, rfl, _, rfl, to_nil (told_no no ok10 (by omega) (AnyV.same s14 hz) zz fun H15 s15 => ?_)⟩
            refine ⟨_, rfl, _, _, .str wd, 4, rfl, rfl, .str _, .str _, trivial, fun H16 s16 => ⟨_, rfl, iteF ?_⟩⟩
            have K11 := (K10.same s15).same s16
            have ok11 := K11.ok x (.head _)
            refine ⟨_, rfl, _, rfl, _, _, _, _, false, rfl, .ty _, .base (.str _), kit_ty (by decide +kernel), _, rfl, iteF ?_⟩
            refine ⟨(by show 0 ≤ sizeLine; omega), fun e ne => ?_⟩
            have s17 := same_new ne (.lst [])
            have K12 := K11.same s17
            have ok12 := K12.ok x (.head _)
            have hf12 := ok12.few
            have ee : (upd H16 e (.lst [])) e = some (.lst []) := upd_same
            generalize upd H16 e (.lst []) = H17 at *
            refine ⟨x.pa, e, _, _, rfl, rfl, ok12.past, ee, by rw [List.length_map, List.length_append]; show x.ts.length + 1 + 0 ≤ sizeLine; omega, fun pz npz => ?_⟩
            have s18 := same_new npz (.lst ((x.ts ++ [x.l]).map (fun l => V.str (tx l)) ++ []))
            have ez : (upd H17 pz (.lst ((x.ts ++ [x.l]).map (fun l => V.str (tx l)) ++ []))) pz = some (.lst ((x.ts ++ [x.l]).map (fun l => V.str (tx l)))) := by rw [upd_same, List.append_nil]
            have K13 := K12.same s18
            have ok13 := K13.ok x (.head _)
            obtain ⟨xs9, ys9, eh9, eq9⟩ := K12.L.srcs
            refine hD' _ _ ⟨⟨x.r, x.p, pz, x.ts, x.l⟩, ks, all, kept, _, _, _, _, _, _, _, _, rfl, K12.chg hk (KeepR.of s18) ⟨ok13.at_, ok13.told, ez, by show x.ts.length ≤ i + 1; omega⟩ rfl rfl (by omega) (fun y hy => ne_of_none (K12.ok y hy).at_.p npz) ⟨(ne_of_none eh9 npz).symm, (ne_of_none eq9 npz).symm, (ne_of_none K12.ek npz).symm⟩, hk, hs, by omega⟩
          · refine to_nil (due_yes hs4 hls m1' m64 fun T H14 s14 nT eT => ?_)
            have K10 := K9.same s14
            have ok10 := K10.ok x (.head _)
            refine ⟨_, rfl, _, rfl, to_nil (told_yes hs4 hls ok10 (by omega) fun T2 H15 kr R15 eT2 => ?_)⟩
            obtain ⟨dx10, o10⟩ := ok10.at_.o
            have p10 := ok10.at_.p
            have nxr := List.pairwise_cons.mp K10.nr
            have phx := K10.ph x (.head _)
            have eT15 := kr _ _ (fun z => ins_nt o10 eT z.symm) (fun z => tup_nl eT p10 z) eT
            have pa15 := kr _ _ (fun z => ins_ne o10 ok10.past z.symm) (fun z => K10.pp x (.head _) x (.head _) z.symm) ok10.past
            obtain ⟨ws, hws⟩ : ∃ ws, (cuts m (x.l ++ s)).drop (cuts m x.l).length = ws := ⟨_, rfl⟩
            rw [← List.map_drop, hws] at eT15 eT2
            have hwl : ws.length ≤ 4000 := by
              have h1 := cuts_len m1' (x.l ++ s)
              rw [List.length_append] at h1
              rw [← hws, List.length_drop]
              omega
            have dpn : ∀ {H : Hp} (ws : List (Nat × Nat)), DpAll K H (ws.map fun x => V.int (x.1 : Nat)) (ws.map fun x => PyData.int (x.1 : Nat)) := fun {H} ws => by
              induction ws with
              | nil => exact .nil
              | cons w ws ih => exact .cons (.int _) ih
            refine ⟨_, rfl, _, _, .tuple (ws.map fun x => PyData.int (x.1 : Nat)), 4, rfl, rfl, .tup eT2 (dpn _), .tup (.inl (.inl eT15)) (dpn _), okd_tuple (by rw [List.length_map]; omega) (fun d hd => by
              obtain ⟨x, _, rfl⟩ := List.mem_map.mp hd
              trivial), fun H16 s16 => ⟨_, rfl, iteF ?_⟩⟩
            have pa16 := s16 _ _ pa15
            have hf10 := ok10.few
            refine ⟨_, rfl, _, rfl, _, _, _, _, true, rfl, .ty _, .base (.tup (s16 _ _ eT15)), kit_ty (by decide +kernel), _, rfl, iteT ?_⟩
            refine ⟨_, rfl, _, rfl, x.pa, _, _, _, rfl, rfl, .inl (.inl pa16), atL _, _, rfl, _, _, rfl, rfl, by rw [tx_len, tx_len]; omega, (by show 1 ≤ sizeLine; omega), fun e ne => ?_⟩
            rw [tx_app]
            have s17 := s16.trans (same_new ne (.lst [.str (tx (x.l ++ s))]))
            have ee : (upd H16 e (.lst [.str (tx (x.l ++ s))])) e = some (.lst [.str (tx (x.l ++ s))]) := upd_same
            generalize upd H16 e (.lst [.str (tx (x.l ++ s))]) = H17 at *
            refine ⟨x.pa, e, _, _, rfl, rfl, s17 _ _ pa15, ee, by rw [List.length_map, List.length_append]; show x.ts.length + 1 + 1 ≤ sizeLine; omega, fun pz npz => ?_⟩
            have s18 := s17.trans (same_new npz (.lst ((x.ts ++ [x.l]).map (fun l => V.str (tx l)) ++ [.str (tx (x.l ++ s))])))
            have ez : (upd H17 pz (.lst ((x.ts ++ [x.l]).map (fun l => V.str (tx l)) ++ [.str (tx (x.l ++ s))]))) pz = some (.lst (((x.ts ++ [x.l]) ++ [x.l ++ s]).map fun l => V.str (tx l))) := by
              rw [upd_same, List.map_append (l₁ := x.ts ++ [x.l])]
              rfl
            have lst_r : ∀ {b : Addr} {zs : List V}, H14 b = some (.lst zs) → b ≠ x.r := fun e z => ins_ne o10 (z ▸ e) rfl
            have npz9 : ∀ {b : Addr} {zs : List V}, H14 b = some (.lst zs) → b ≠ x.p → b ≠ pz := fun {b zs} e n2 => ne_of_none (s17 _ _ (kr _ _ (lst_r e) n2 e)) npz
            obtain ⟨xs9, ys9, eh9, eq9⟩ := K10.L.srcs
            have R18 := R15.same s18
            have kr18 := kr.trans (KeepR.of s18)
            have nzr : x.p ≠ pz := ne_of_none (s17 _ _ R15.p) npz
            dsimp only
            generalize upd H17 pz (.lst ((x.ts ++ [x.l]).map (fun l => V.str (tx l)) ++ [.str (tx (x.l ++ s))])) = H18 at *
            refine hD' _ _ ⟨⟨x.r, x.p, pz, x.ts ++ [x.l], x.l ++ s⟩, ks, all, kept, _, _, _, _, _, _, _, _, rfl, K10.chg hk kr18 ⟨R18, ok10.told.more, ez, by show (x.ts ++ [x.l]).length ≤ i + 1; rw [List.length_append, List.length_singleton]; omega⟩ rfl rfl (by omega) (fun y hy => ?_) ⟨?_, ?_, ?_⟩, hk, hs, by omega⟩
            · rcases List.mem_cons.mp hy with rfl | hy
              · exact nzr
              · exact npz9 (K10.ok y (.tail _ hy)).at_.p (fun z => (nxr.1 y hy).2 z.symm)
            · exact (npz9 eh9 (fun z => phx.1 z.symm)).symm
            · exact (npz9 eq9 (fun z => phx.2.1 z.symm)).symm
            · exact (npz9 K10.ek (fun z => phx.2.2.1 z.symm)).symm
  · rintro σ H8 ⟨x, ks, all, kept, v7, v8, v9, v10, v11, v12, v13, v14, rfl, K4, hk, hs, hkl⟩
    refine ⟨_, rfl, ka, rfl, ⟨_, .inl (.inl K4.ek)⟩, fun D nD => ?_⟩
    have stands : ∀ {H' : Hp} (y : Rdr), Same H8 H' → y ∈ x :: all → ∀ {Q : VK} {E : XK}, (∀ H'', Same H' H'' → Q (.bl true) H'') → sp__law_stands_so K C_ [.ref y.r, .int (m : Nat), .ref y.pa] H' Q E := fun {H'} y s hy {Q E} k => by
      have oky := (K4.same s).ok y hy
      exact ⟨y.r, y.p, y.pa, m, y.l, _, y.ts, rfl, oky.at_, .inl (.inl oky.past), (List.length_map _).symm, k⟩
    refine lc_list (K := K) (a := ka) (xs := ks.map V.ref) (fun j H6 => Same H8 H6 ∧ H6 D = some (.lst [])) ⟨same_new nD _, upd_same⟩ (fun j H6 _ h6 => .inl (.inl (h6.1 _ _ K4.ek))) ?_ ?_
    · rintro j u H6 hu ⟨s6, eD⟩
      obtain ⟨t, y, rfl, hy, et⟩ : ∃ t y, u = V.ref t ∧ y ∈ kept ∧ H8 t = some (.tup [.ref y.r, .ref y.pa]) := by
        rw [List.getElem?_map] at hu
        cases e : ks[j]? with
        | none => rw [e] at hu; cases hu
        | some t =>
          rw [e] at hu
          obtain ⟨y, e1, e2⟩ := pairedGet K4.et e
          exact ⟨t, y, (Option.some.inj hu).symm, List.mem_of_getElem? e1, e2⟩
      refine ⟨rfl, _, rfl, t, _, _, _, rfl, rfl, .inl (.inl (s6 _ _ et)), at_of (j := 0) rfl rfl, _, rfl, _, rfl, t, _, _, _, rfl, rfl, .inl (.inl (s6 _ _ et)), at_of (j := 1) rfl rfl, to_nil (stands y s6 (.tail _ (hk y hy)) fun H7 s7 => ⟨_, rfl, iteF ⟨s6.trans s7, s7 _ _ eD⟩⟩)⟩
    rintro H6 ⟨s6, eD⟩
    refine ⟨(by show 0 ≤ sizeLine; omega), fun E1 nE => ?_⟩
    have s7 := s6.trans (same_new nE (.lst []))
    refine ⟨.list [], .list [], .lst (.inl (.inl (same_new nE (.lst []) _ _ eD))) .nil, .lst (.inl (.inl upd_same)) .nil, by decide +kernel, by decide +kernel, _, rfl, ?_⟩
    rw [eqv_nil]
    refine iteF ?_
    generalize upd H6 E1 (.lst []) = H7 at *
    refine ⟨_, rfl, (by show 6 ≤ sizeLine; omega), fun B2 nB => ⟨B2, rfl, ⟨_, .inl (.inl upd_same)⟩, fun D2 nD2 => ?_⟩⟩
    dsimp only
    have s8 := s7.trans (same_new nB (.lst [.int 0, .int 65, .non, .bl true, .str "3", .int (-1)]))
    have eB : (upd H7 B2 (.lst [.int 0, .int 65, .non, .bl true, .str "3", .int (-1)])) B2 = some (.lst [.int 0, .int 65, .non, .bl true, .str "3", .int (-1)]) := upd_same
    generalize upd H7 B2 (.lst [.int 0, .int 65, .non, .bl true, .str "3", .int (-1)]) = H9 at *
    refine lc_list (K := K) (a := B2) (xs := [.int 0, .int 65, .non, .bl true, .str "3", .int (-1)]) (fun j H6 => Same H9 H6 ∧ H6 D2 = some (.lst [])) ⟨same_new nD2 _, upd_same⟩ (fun j H6 _ h6 => .inl (.inl (h6.1 _ _ eB))) ?_ ?_
    · rintro j u H10 hu ⟨s10, eD2⟩
      have hu := List.mem_of_getElem? hu
      have hbad : (∀ {H : Hp}, AnyV K H u) ∧ isI u 1 64 = false := by
        simp only [List.mem_cons, List.not_mem_nil, or_false] at hu
        rcases hu with rfl | rfl | rfl | rfl | rfl | rfl
        · exact ⟨.int _, by decide⟩
        · exact ⟨.int _, by decide⟩
        · exact ⟨.non, rfl⟩
        · exact ⟨.bl _, rfl⟩
        · exact ⟨.str _, rfl⟩
        · exact ⟨.int _, by decide⟩
      refine ⟨rfl, _, rfl, to_nil ⟨u, rfl, hbad.1, hbad.2, fun H11 s11 => ⟨_, rfl, iteF ⟨s10.trans s11, s11 _ _ eD2⟩⟩⟩⟩
    rintro H10 ⟨s10, eD2⟩
    refine ⟨_, rfl, (by show 0 ≤ sizeLine; omega), fun E2 nE2 => ?_⟩
    have s11 := s10.trans (same_new nE2 (.lst []))
    refine ⟨.list [], .list [], .lst (.inl (.inl (same_new nE2 (.lst []) _ _ eD2))) .nil, .lst (.inl (.inl upd_same)) .nil, by decide +kernel, by decide +kernel, _, rfl, ?_⟩
    generalize upd H10 E2 (.lst []) = H11 at *
    refine iteT ?_
    refine ⟨_, rfl, _, rfl, (by show 1 ≤ sizeLine; omega), fun F2 nF2 => ?_⟩
    have S := (s8.trans s11).trans (same_new nF2 (.lst [.str ""]))
    have okS := (K4.same S).ok Sd (.tail _ hs)
    have h2 := okS.at_
    rw [hSd2.1, hSd2.2] at h2
    refine to_nil ⟨Sd.r, Sd.p, F2, m, [], [], [], rfl, h2, .inl (.inl ?_), rfl, fun H13 _ => k H13⟩
    rw [upd_same, tx_nil]
    rfl
end
end St
namespace St
open PySem PySem.Spec PyProof.Rows L2
theorem all_mk {l : PySem.W.OpenLaw} {w : World} {K : PySem.W.Frag} {h : Heap} {mg : Str → Option Value} {fa : Addr} (X : K.In h) (G : h.Ns mainGlobals mg) (hfa : mg "law" = some (.ref fa))
    {C_ : Addr} (cC : PySem.W.nsIn K mainGlobals "Reader" = some (some (.ref C_))) (cpg : PySem.W.plainGet K C_ Str.empty = true) (chd : PySem.W.hasDictIn K C_ = true) (cpo : PySem.W.plainOver K C_ = true) (csa : PySem.W.findIn K (.ref C_) "__setattr__" = some (some (.builtin "object.__setattr__"))) (cmk : PySem.W.makesIn K C_ = true) (ckc : PySem.W.keepIn K (.ref C_) = true)
    (cem : PySem.W.mroIn K C_ (.type "object") = some true) (cee : PySem.W.findIn K (.ref C_) "__eq__" = some (some (.builtin "object.__eq__"))) (cet : PySem.W.subIn K (.ref C_) (.type "tuple") = some false)
    (cnsize : PySem.W.findIn K (.ref C_) "size" = some none)
    (cntext : PySem.W.findIn K (.ref C_) "text" = some none)
    (cnpast : PySem.W.findIn K (.ref C_) "past" = some none)
    {f0 : Addr} {od0 an0 : Option Addr} {sl0 : Array (Option Value)} {oc0 kV0 dc0 pm0 cd0 ct0 : Value}
    (a0 : PySem.W.nsIn K mainGlobals "_law_mix" = some (some (.ref f0)))
    (l0 : K.lookup f0 = some ⟨oc0, od0, .func (PySem.W.fnOf "_law_mix" "_law_mix" (defArgs s__law_mix) (defBody s__law_mix) (defScope s__law_mix) .none kV0 dc0 pm0 an0 cd0 ct0), sl0⟩) (c0 : PySem.W.codeIn K cd0 "_law_mix" = true) (k0 : PySem.W.keepIn K (.ref f0) = true)
    {f1 : Addr} {od1 an1 : Option Addr} {sl1 : Array (Option Value)} {oc1 kV1 dc1 pm1 cd1 ct1 : Value}
    (a1 : PySem.W.nsIn K mainGlobals "_law_next" = some (some (.ref f1)))
    (l1 : K.lookup f1 = some ⟨oc1, od1, .func (PySem.W.fnOf "_law_next" "_law_next" (defArgs s__law_next) (defBody s__law_next) (defScope s__law_next) .none kV1 dc1 pm1 an1 cd1 ct1), sl1⟩) (c1 : PySem.W.codeIn K cd1 "_law_next" = true) (k1 : PySem.W.keepIn K (.ref f1) = true)
    {f2 : Addr} {od2 an2 : Option Addr} {sl2 : Array (Option Value)} {oc2 kV2 dc2 pm2 cd2 ct2 : Value}
    (a2 : PySem.W.nsIn K mainGlobals "_law_pick" = some (some (.ref f2)))
    (l2 : K.lookup f2 = some ⟨oc2, od2, .func (PySem.W.fnOf "_law_pick" "_law_pick" (defArgs s__law_pick) (defBody s__law_pick) (defScope s__law_pick) .none kV2 dc2 pm2 an2 cd2 ct2), sl2⟩) (c2 : PySem.W.codeIn K cd2 "_law_pick" = true) (k2 : PySem.W.keepIn K (.ref f2) = true)
    {f3 : Addr} {od3 an3 : Option Addr} {sl3 : Array (Option Value)} {oc3 kV3 dc3 pm3 cd3 ct3 : Value}
    (a3 : PySem.W.nsIn K mainGlobals "_law_step" = some (some (.ref f3)))
    (l3 : K.lookup f3 = some ⟨oc3, od3, .func (PySem.W.fnOf "_law_step" "_law_step" (defArgs s__law_step) (defBody s__law_step) (defScope s__law_step) .none kV3 dc3 pm3 an3 cd3 ct3), sl3⟩) (c3 : PySem.W.codeIn K cd3 "_law_step" = true) (k3 : PySem.W.keepIn K (.ref f3) = true)
    {f4 : Addr} {od4 an4 : Option Addr} {sl4 : Array (Option Value)} {oc4 kV4 dc4 pm4 cd4 ct4 : Value}
    (a4 : PySem.W.nsIn K mainGlobals "is_integer" = some (some (.ref f4)))
    (l4 : K.lookup f4 = some ⟨oc4, od4, .func (PySem.W.fnOf "is_integer" "is_integer" (defArgs s_is_integer) (defBody s_is_integer) (defScope s_is_integer) .none kV4 dc4 pm4 an4 cd4 ct4), sl4⟩) (c4 : PySem.W.codeIn K cd4 "is_integer" = true) (k4 : PySem.W.keepIn K (.ref f4) = true)
    {f5 : Addr} {od5 an5 : Option Addr} {sl5 : Array (Option Value)} {oc5 kV5 dc5 pm5 cd5 ct5 : Value}
    (a5 : PySem.W.nsIn K mainGlobals "check_step" = some (some (.ref f5)))
    (l5 : K.lookup f5 = some ⟨oc5, od5, .func (PySem.W.fnOf "check_step" "check_step" (defArgs s_check_step) (defBody s_check_step) (defScope s_check_step) .none kV5 dc5 pm5 an5 cd5 ct5), sl5⟩) (c5 : PySem.W.codeIn K cd5 "check_step" = true) (k5 : PySem.W.keepIn K (.ref f5) = true)
    {f6 : Addr} {od6 an6 : Option Addr} {sl6 : Array (Option Value)} {oc6 kV6 dc6 pm6 cd6 ct6 : Value}
    (a6 : PySem.W.findIn K (.ref C_) "__init__" = some (some (.ref f6))) (i6 : PySem.W.isFn K (.ref f6) = true)
    (l6 : K.lookup f6 = some ⟨oc6, od6, .func (PySem.W.fnOf "__init__" "Reader.__init__" (defArgs s_Reader___init__) (defBody s_Reader___init__) (defScope s_Reader___init__) .none kV6 dc6 pm6 an6 cd6 ct6), sl6⟩) (c6 : PySem.W.codeIn K cd6 "Reader.__init__" = true) (k6 : PySem.W.keepIn K (.ref f6) = true)
    {f7 : Addr} {od7 an7 : Option Addr} {sl7 : Array (Option Value)} {oc7 kV7 dc7 pm7 cd7 ct7 : Value}
    (a7 : PySem.W.nsIn K mainGlobals "_law_double" = some (some (.ref f7)))
    (l7 : K.lookup f7 = some ⟨oc7, od7, .func (PySem.W.fnOf "_law_double" "_law_double" (defArgs s__law_double) (defBody s__law_double) (defScope s__law_double) .none kV7 dc7 pm7 an7 cd7 ct7), sl7⟩) (c7 : PySem.W.codeIn K cd7 "_law_double" = true) (k7 : PySem.W.keepIn K (.ref f7) = true)
    {f8 : Addr} {od8 an8 : Option Addr} {sl8 : Array (Option Value)} {oc8 kV8 dc8 pm8 cd8 ct8 : Value}
    (a8 : PySem.W.nsIn K mainGlobals "_law_word" = some (some (.ref f8)))
    (l8 : K.lookup f8 = some ⟨oc8, od8, .func (PySem.W.fnOf "_law_word" "_law_word" (defArgs s__law_word) (defBody s__law_word) (defScope s__law_word) .none kV8 dc8 pm8 an8 cd8 ct8), sl8⟩) (c8 : PySem.W.codeIn K cd8 "_law_word" = true) (k8 : PySem.W.keepIn K (.ref f8) = true)
    {f9 : Addr} {od9 an9 : Option Addr} {sl9 : Array (Option Value)} {oc9 kV9 dc9 pm9 cd9 ct9 : Value}
    (a9 : PySem.W.nsIn K mainGlobals "_law_ends" = some (some (.ref f9)))
    (l9 : K.lookup f9 = some ⟨oc9, od9, .func (PySem.W.fnOf "_law_ends" "_law_ends" (defArgs s__law_ends) (defBody s__law_ends) (defScope s__law_ends) .none kV9 dc9 pm9 an9 cd9 ct9), sl9⟩) (c9 : PySem.W.codeIn K cd9 "_law_ends" = true) (k9 : PySem.W.keepIn K (.ref f9) = true)
    {f10 : Addr} {od10 an10 : Option Addr} {sl10 : Array (Option Value)} {oc10 kV10 dc10 pm10 cd10 ct10 : Value}
    (a10 : PySem.W.nsIn K mainGlobals "_law_alike" = some (some (.ref f10)))
    (l10 : K.lookup f10 = some ⟨oc10, od10, .func (PySem.W.fnOf "_law_alike" "_law_alike" (defArgs s__law_alike) (defBody s__law_alike) (defScope s__law_alike) .none kV10 dc10 pm10 an10 cd10 ct10), sl10⟩) (c10 : PySem.W.codeIn K cd10 "_law_alike" = true) (k10 : PySem.W.keepIn K (.ref f10) = true)
    {f11 : Addr} {od11 an11 : Option Addr} {sl11 : Array (Option Value)} {oc11 kV11 dc11 pm11 cd11 ct11 : Value}
    (a11 : PySem.W.nsIn K mainGlobals "power_of_two" = some (some (.ref f11)))
    (l11 : K.lookup f11 = some ⟨oc11, od11, .func (PySem.W.fnOf "power_of_two" "power_of_two" (defArgs s_power_of_two) (defBody s_power_of_two) (defScope s_power_of_two) .none kV11 dc11 pm11 an11 cd11 ct11), sl11⟩) (c11 : PySem.W.codeIn K cd11 "power_of_two" = true) (k11 : PySem.W.keepIn K (.ref f11) = true)
    {f12 : Addr} {od12 an12 : Option Addr} {sl12 : Array (Option Value)} {oc12 kV12 dc12 pm12 cd12 ct12 : Value}
    (a12 : PySem.W.nsIn K mainGlobals "wide" = some (some (.ref f12)))
    (l12 : K.lookup f12 = some ⟨oc12, od12, .func (PySem.W.fnOf "wide" "wide" (defArgs s_wide) (defBody s_wide) (defScope s_wide) .none kV12 dc12 pm12 an12 cd12 ct12), sl12⟩) (c12 : PySem.W.codeIn K cd12 "wide" = true) (k12 : PySem.W.keepIn K (.ref f12) = true)
    {f13 : Addr} {od13 an13 : Option Addr} {sl13 : Array (Option Value)} {oc13 kV13 dc13 pm13 cd13 ct13 : Value}
    (a13 : PySem.W.nsIn K mainGlobals "first_end" = some (some (.ref f13)))
    (l13 : K.lookup f13 = some ⟨oc13, od13, .func (PySem.W.fnOf "first_end" "first_end" (defArgs s_first_end) (defBody s_first_end) (defScope s_first_end) .none kV13 dc13 pm13 an13 cd13 ct13), sl13⟩) (c13 : PySem.W.codeIn K cd13 "first_end" = true) (k13 : PySem.W.keepIn K (.ref f13) = true)
    {f14 : Addr} {od14 an14 : Option Addr} {sl14 : Array (Option Value)} {oc14 kV14 dc14 pm14 cd14 ct14 : Value}
    (a14 : PySem.W.nsIn K mainGlobals "cut_by" = some (some (.ref f14)))
    (l14 : K.lookup f14 = some ⟨oc14, od14, .func (PySem.W.fnOf "cut_by" "cut_by" (defArgs s_cut_by) (defBody s_cut_by) (defScope s_cut_by) .none kV14 dc14 pm14 an14 cd14 ct14), sl14⟩) (c14 : PySem.W.codeIn K cd14 "cut_by" = true) (k14 : PySem.W.keepIn K (.ref f14) = true)
    {f15 : Addr} {od15 an15 : Option Addr} {sl15 : Array (Option Value)} {oc15 kV15 dc15 pm15 cd15 ct15 : Value}
    (a15 : PySem.W.findIn K (.ref C_) "waits" = some (some (.ref f15))) (i15 : PySem.W.isFn K (.ref f15) = true)
    (l15 : K.lookup f15 = some ⟨oc15, od15, .func (PySem.W.fnOf "waits" "Reader.waits" (defArgs s_Reader_waits) (defBody s_Reader_waits) (defScope s_Reader_waits) .none kV15 dc15 pm15 an15 cd15 ct15), sl15⟩) (c15 : PySem.W.codeIn K cd15 "Reader.waits" = true) (k15 : PySem.W.keepIn K (.ref f15) = true)
    {f16 : Addr} {od16 an16 : Option Addr} {sl16 : Array (Option Value)} {oc16 kV16 dc16 pm16 cd16 ct16 : Value}
    (a16 : PySem.W.findIn K (.ref C_) "numbers" = some (some (.ref f16))) (i16 : PySem.W.isFn K (.ref f16) = true)
    (l16 : K.lookup f16 = some ⟨oc16, od16, .func (PySem.W.fnOf "numbers" "Reader.numbers" (defArgs s_Reader_numbers) (defBody s_Reader_numbers) (defScope s_Reader_numbers) .none kV16 dc16 pm16 an16 cd16 ct16), sl16⟩) (c16 : PySem.W.codeIn K cd16 "Reader.numbers" = true) (k16 : PySem.W.keepIn K (.ref f16) = true)
    {f17 : Addr} {od17 an17 : Option Addr} {sl17 : Array (Option Value)} {oc17 kV17 dc17 pm17 cd17 ct17 : Value}
    {p17 : Addr} {r17 : List Value} (pa17 : PySem.W.findIn K (.ref C_) "step" = some (some (.ref p17))) (pg17 : PySem.W.specialIn K (.ref p17) "__get__" = some (some (.builtin "property.__get__"))) (pt17 : PySem.W.takesIn K (.ref p17) = some true) (pr17 : PySem.W.recIn K p17 "property" = some (.ref f17 :: r17))
    (l17 : K.lookup f17 = some ⟨oc17, od17, .func (PySem.W.fnOf "step" "Reader.step" (defArgs s_Reader_step) (defBody s_Reader_step) (defScope s_Reader_step) .none kV17 dc17 pm17 an17 cd17 ct17), sl17⟩) (c17 : PySem.W.codeIn K cd17 "Reader.step" = true) (k17 : PySem.W.keepIn K (.ref f17) = true)
    {f18 : Addr} {od18 an18 : Option Addr} {sl18 : Array (Option Value)} {oc18 kV18 dc18 pm18 cd18 ct18 : Value}
    {p18 : Addr} {r18 : List Value} (pa18 : PySem.W.findIn K (.ref C_) "signs" = some (some (.ref p18))) (pg18 : PySem.W.specialIn K (.ref p18) "__get__" = some (some (.builtin "property.__get__"))) (pt18 : PySem.W.takesIn K (.ref p18) = some true) (pr18 : PySem.W.recIn K p18 "property" = some (.ref f18 :: r18))
    (l18 : K.lookup f18 = some ⟨oc18, od18, .func (PySem.W.fnOf "signs" "Reader.signs" (defArgs s_Reader_signs) (defBody s_Reader_signs) (defScope s_Reader_signs) .none kV18 dc18 pm18 an18 cd18 ct18), sl18⟩) (c18 : PySem.W.codeIn K cd18 "Reader.signs" = true) (k18 : PySem.W.keepIn K (.ref f18) = true)
    {f19 : Addr} {od19 an19 : Option Addr} {sl19 : Array (Option Value)} {oc19 kV19 dc19 pm19 cd19 ct19 : Value}
    (a19 : PySem.W.findIn K (.ref C_) "__len__" = some (some (.ref f19))) (i19 : PySem.W.isFn K (.ref f19) = true)
    (l19 : K.lookup f19 = some ⟨oc19, od19, .func (PySem.W.fnOf "__len__" "Reader.__len__" (defArgs s_Reader___len__) (defBody s_Reader___len__) (defScope s_Reader___len__) .none kV19 dc19 pm19 an19 cd19 ct19), sl19⟩) (c19 : PySem.W.codeIn K cd19 "Reader.__len__" = true) (k19 : PySem.W.keepIn K (.ref f19) = true)
    {f20 : Addr} {od20 an20 : Option Addr} {sl20 : Array (Option Value)} {oc20 kV20 dc20 pm20 cd20 ct20 : Value}
    (a20 : PySem.W.nsIn K mainGlobals "_law_stands_so" = some (some (.ref f20)))
    (l20 : K.lookup f20 = some ⟨oc20, od20, .func (PySem.W.fnOf "_law_stands_so" "_law_stands_so" (defArgs s__law_stands_so) (defBody s__law_stands_so) (defScope s__law_stands_so) .none kV20 dc20 pm20 an20 cd20 ct20), sl20⟩) (c20 : PySem.W.codeIn K cd20 "_law_stands_so" = true) (k20 : PySem.W.keepIn K (.ref f20) = true)
    {f21 : Addr} {od21 an21 : Option Addr} {sl21 : Array (Option Value)} {oc21 kV21 dc21 pm21 cd21 ct21 : Value}
    (a21 : PySem.W.findIn K (.ref C_) "copy" = some (some (.ref f21))) (i21 : PySem.W.isFn K (.ref f21) = true)
    (l21 : K.lookup f21 = some ⟨oc21, od21, .func (PySem.W.fnOf "copy" "Reader.copy" (defArgs s_Reader_copy) (defBody s_Reader_copy) (defScope s_Reader_copy) .none kV21 dc21 pm21 an21 cd21 ct21), sl21⟩) (c21 : PySem.W.codeIn K cd21 "Reader.copy" = true) (k21 : PySem.W.keepIn K (.ref f21) = true)
    {f22 : Addr} {od22 an22 : Option Addr} {sl22 : Array (Option Value)} {oc22 kV22 dc22 pm22 cd22 ct22 : Value}
    (a22 : PySem.W.findIn K (.ref C_) "undo" = some (some (.ref f22))) (i22 : PySem.W.isFn K (.ref f22) = true)
    (l22 : K.lookup f22 = some ⟨oc22, od22, .func (PySem.W.fnOf "undo" "Reader.undo" (defArgs s_Reader_undo) (defBody s_Reader_undo) (defScope s_Reader_undo) .none kV22 dc22 pm22 an22 cd22 ct22), sl22⟩) (c22 : PySem.W.codeIn K cd22 "Reader.undo" = true) (k22 : PySem.W.keepIn K (.ref f22) = true)
    {f23 : Addr} {od23 an23 : Option Addr} {sl23 : Array (Option Value)} {oc23 kV23 dc23 pm23 cd23 ct23 : Value}
    (a23 : PySem.W.nsIn K mainGlobals "_law_signs" = some (some (.ref f23)))
    (l23 : K.lookup f23 = some ⟨oc23, od23, .func (PySem.W.fnOf "_law_signs" "_law_signs" (defArgs s__law_signs) (defBody s__law_signs) (defScope s__law_signs) .none kV23 dc23 pm23 an23 cd23 ct23), sl23⟩) (c23 : PySem.W.codeIn K cd23 "_law_signs" = true) (k23 : PySem.W.keepIn K (.ref f23) = true)
    {f24 : Addr} {od24 an24 : Option Addr} {sl24 : Array (Option Value)} {oc24 kV24 dc24 pm24 cd24 ct24 : Value}
    (a24 : PySem.W.nsIn K mainGlobals "_law_due" = some (some (.ref f24)))
    (l24 : K.lookup f24 = some ⟨oc24, od24, .func (PySem.W.fnOf "_law_due" "_law_due" (defArgs s__law_due) (defBody s__law_due) (defScope s__law_due) .none kV24 dc24 pm24 an24 cd24 ct24), sl24⟩) (c24 : PySem.W.codeIn K cd24 "_law_due" = true) (k24 : PySem.W.keepIn K (.ref f24) = true)
    {f25 : Addr} {od25 an25 : Option Addr} {sl25 : Array (Option Value)} {oc25 kV25 dc25 pm25 cd25 ct25 : Value}
    (a25 : PySem.W.nsIn K mainGlobals "_law_made" = some (some (.ref f25)))
    (l25 : K.lookup f25 = some ⟨oc25, od25, .func (PySem.W.fnOf "_law_made" "_law_made" (defArgs s__law_made) (defBody s__law_made) (defScope s__law_made) .none kV25 dc25 pm25 an25 cd25 ct25), sl25⟩) (c25 : PySem.W.codeIn K cd25 "_law_made" = true) (k25 : PySem.W.keepIn K (.ref f25) = true)
    {f26 : Addr} {od26 an26 : Option Addr} {sl26 : Array (Option Value)} {oc26 kV26 dc26 pm26 cd26 ct26 : Value}
    (a26 : PySem.W.nsIn K mainGlobals "check_text" = some (some (.ref f26)))
    (l26 : K.lookup f26 = some ⟨oc26, od26, .func (PySem.W.fnOf "check_text" "check_text" (defArgs s_check_text) (defBody s_check_text) (defScope s_check_text) .none kV26 dc26 pm26 an26 cd26 ct26), sl26⟩) (c26 : PySem.W.codeIn K cd26 "check_text" = true) (k26 : PySem.W.keepIn K (.ref f26) = true)
    {f27 : Addr} {od27 an27 : Option Addr} {sl27 : Array (Option Value)} {oc27 kV27 dc27 pm27 cd27 ct27 : Value}
    (a27 : PySem.W.findIn K (.ref C_) "tell" = some (some (.ref f27))) (i27 : PySem.W.isFn K (.ref f27) = true)
    (l27 : K.lookup f27 = some ⟨oc27, od27, .func (PySem.W.fnOf "tell" "Reader.tell" (defArgs s_Reader_tell) (defBody s_Reader_tell) (defScope s_Reader_tell) .none kV27 dc27 pm27 an27 cd27 ct27), sl27⟩) (c27 : PySem.W.codeIn K cd27 "Reader.tell" = true) (k27 : PySem.W.keepIn K (.ref f27) = true)
    {f28 : Addr} {od28 an28 : Option Addr} {sl28 : Array (Option Value)} {oc28 kV28 dc28 pm28 cd28 ct28 : Value}
    (a28 : PySem.W.nsIn K mainGlobals "_law_told" = some (some (.ref f28)))
    (l28 : K.lookup f28 = some ⟨oc28, od28, .func (PySem.W.fnOf "_law_told" "_law_told" (defArgs s__law_told) (defBody s__law_told) (defScope s__law_told) .none kV28 dc28 pm28 an28 cd28 ct28), sl28⟩) (c28 : PySem.W.codeIn K cd28 "_law_told" = true) (k28 : PySem.W.keepIn K (.ref f28) = true)
    {f29 : Addr} {od29 an29 : Option Addr} {sl29 : Array (Option Value)} {oc29 kV29 dc29 pm29 cd29 ct29 : Value}
    (a29 : PySem.W.nsIn K mainGlobals "_law_row" = some (some (.ref f29)))
    (l29 : K.lookup f29 = some ⟨oc29, od29, .func (PySem.W.fnOf "_law_row" "_law_row" (defArgs s__law_row) (defBody s__law_row) (defScope s__law_row) .none kV29 dc29 pm29 an29 cd29 ct29), sl29⟩) (c29 : PySem.W.codeIn K cd29 "_law_row" = true) (k29 : PySem.W.keepIn K (.ref f29) = true)
    {f30 : Addr} {od30 an30 : Option Addr} {sl30 : Array (Option Value)} {oc30 kV30 dc30 pm30 cd30 ct30 : Value}
    (a30 : PySem.W.nsIn K mainGlobals "law" = some (some (.ref f30)))
    (l30 : K.lookup f30 = some ⟨oc30, od30, .func (PySem.W.fnOf "law" "law" (defArgs s_law) (defBody s_law) (defScope s_law) .none kV30 dc30 pm30 an30 cd30 ct30), sl30⟩) (c30 : PySem.W.codeIn K cd30 "law" = true) (k30 : PySem.W.keepIn K (.ref f30) = true)
    {tk0 : Tok} (n0 : PySem.W.nsIn K mainGlobals "MOST_STEP" = some (some (.int 64 tk0)))
    {tk1 : Tok} (n1 : PySem.W.nsIn K mainGlobals "MOST_TEXT" = some (some (.int 4000 tk1)))
    {U0 : Addr} (un0 : PySem.W.nsIn K mainGlobals "BadStep" = some (some (.ref U0))) (uq0 : PySem.W.excIn K U0 [.type "ValueError", .type "Exception", .type "BaseException", .type "object"] "ValueError.__new__" = true) (uk0 : PySem.W.keepIn K (.ref U0) = true) (ub0 : PySem.W.subIn K (.ref U0) (.type "BaseException") = some true) (ut0 : PySem.W.typeIn K (.ref U0) = some (.type "type")) (ud0 : PySem.W.hasDictIn K U0 = true) (us0 : PySem.W.subIn K (.ref U0) (.ref U0) = some true)
    {U1 : Addr} (un1 : PySem.W.nsIn K mainGlobals "StepError" = some (some (.ref U1))) (uq1 : PySem.W.excIn K U1 [.type "ValueError", .type "Exception", .type "BaseException", .type "object"] "ValueError.__new__" = true) (uk1 : PySem.W.keepIn K (.ref U1) = true) (ub1 : PySem.W.subIn K (.ref U1) (.type "BaseException") = some true) (ut1 : PySem.W.typeIn K (.ref U1) = some (.type "type")) (ud1 : PySem.W.hasDictIn K U1 = true) (us1 : PySem.W.subIn K (.ref U1) (.ref U1) = some true)
    {U2 : Addr} (un2 : PySem.W.nsIn K mainGlobals "BadText" = some (some (.ref U2))) (uq2 : PySem.W.excIn K U2 [.type "ValueError", .type "Exception", .type "BaseException", .type "object"] "ValueError.__new__" = true) (uk2 : PySem.W.keepIn K (.ref U2) = true) (ub2 : PySem.W.subIn K (.ref U2) (.type "BaseException") = some true) (ut2 : PySem.W.typeIn K (.ref U2) = some (.type "type")) (ud2 : PySem.W.hasDictIn K U2 = true) (us2 : PySem.W.subIn K (.ref U2) (.ref U2) = some true)
    {U3 : Addr} (un3 : PySem.W.nsIn K mainGlobals "Full" = some (some (.ref U3))) (uq3 : PySem.W.excIn K U3 [.type "ValueError", .type "Exception", .type "BaseException", .type "object"] "ValueError.__new__" = true) (uk3 : PySem.W.keepIn K (.ref U3) = true) (ub3 : PySem.W.subIn K (.ref U3) (.type "BaseException") = some true) (ut3 : PySem.W.typeIn K (.ref U3) = some (.type "type")) (ud3 : PySem.W.hasDictIn K U3 = true) (us3 : PySem.W.subIn K (.ref U3) (.ref U3) = some true)
    (eg0 : PySem.W.findIn K (.ref U0) "__getattribute__" = some (some (.builtin "BaseException.__getattribute__"))) (ek0 : PySem.W.findIn K (.ref U0) "__getattr__" = some none) (ea0 : PySem.W.findIn K (.ref U0) "__class__" = some (some (.builtin "object.__class__"))) (en0 : PySem.W.specialIn K (.builtin "object.__class__") "__get__" = some (some (.builtin "getset_descriptor.__get__"))) (et0 : PySem.W.takesIn K (.builtin "object.__class__") = some true) (em0 : PySem.W.mroIn K U0 (.type "object") = some true)
    (eg3 : PySem.W.findIn K (.ref U3) "__getattribute__" = some (some (.builtin "BaseException.__getattribute__"))) (ek3 : PySem.W.findIn K (.ref U3) "__getattr__" = some none) (ea3 : PySem.W.findIn K (.ref U3) "__class__" = some (some (.builtin "object.__class__"))) (en3 : PySem.W.specialIn K (.builtin "object.__class__") "__get__" = some (some (.builtin "getset_descriptor.__get__"))) (et3 : PySem.W.takesIn K (.builtin "object.__class__") = some true) (em3 : PySem.W.mroIn K U3 (.type "object") = some true)
    (eg2 : PySem.W.findIn K (.ref U2) "__getattribute__" = some (some (.builtin "BaseException.__getattribute__"))) (ek2 : PySem.W.findIn K (.ref U2) "__getattr__" = some none) (ea2 : PySem.W.findIn K (.ref U2) "__class__" = some (some (.builtin "object.__class__"))) (en2 : PySem.W.specialIn K (.builtin "object.__class__") "__get__" = some (some (.builtin "getset_descriptor.__get__"))) (et2 : PySem.W.takesIn K (.builtin "object.__class__") = some true) (em2 : PySem.W.mroIn K U2 (.type "object") = some true)
    (kt0_1 : PySem.W.subIn K (.ref U0) (.ref U1) = some true)
    (kt3_1 : PySem.W.subIn K (.ref U3) (.ref U1) = some true)
    (kt2_1 : PySem.W.subIn K (.ref U2) (.ref U1) = some true)
    (xa3_2 : PySem.W.subIn K (.ref U3) (.ref U2) = some false)
    (z_isinstance : PySem.W.nsIn K mainGlobals "isinstance" = some none)
    (z_int : PySem.W.nsIn K mainGlobals "int" = some none)
    (z_bool : PySem.W.nsIn K mainGlobals "bool" = some none)
    (z_str : PySem.W.nsIn K mainGlobals "str" = some none)
    (z_tuple : PySem.W.nsIn K mainGlobals "tuple" = some none)
    (z_list : PySem.W.nsIn K mainGlobals "list" = some none)
    (z_len : PySem.W.nsIn K mainGlobals "len" = some none)
    (z_range : PySem.W.nsIn K mainGlobals "range" = some none)
    (z_abs : PySem.W.nsIn K mainGlobals "abs" = some none)
    (z_min : PySem.W.nsIn K mainGlobals "min" = some none)
    (z_max : PySem.W.nsIn K mainGlobals "max" = some none)
    (z_sum : PySem.W.nsIn K mainGlobals "sum" = some none)
    (z_sorted : PySem.W.nsIn K mainGlobals "sorted" = some none)
    (z_enumerate : PySem.W.nsIn K mainGlobals "enumerate" = some none)
    (z_zip : PySem.W.nsIn K mainGlobals "zip" = some none)
    (z_set : PySem.W.nsIn K mainGlobals "set" = some none)
    (z_any : PySem.W.nsIn K mainGlobals "any" = some none)
    (z_all : PySem.W.nsIn K mainGlobals "all" = some none)
    : ∃ fd : FuncData, (∀ (s : Shared) (v : Value), BindsTo s fd ⟨[v], []⟩ [("_law_script", v)]) ∧ ∀ base : Heap, K.In base → base.Ns mainGlobals mg → FnOk l.prog w K mg base CX0 8 fa fd ["_law_script"] (sp_law K) := by
  have e := hfa.symm.trans (PySem.W.mg_of X G a30)
  cases e
  have F0 := fun_mk (st := s__law_mix) l0 c0 k0
  have b0 := F0.binds (ps := ["_law_script", "_law_seed"]) fun _ _ _ _ _ _ us hl => match us, hl with | [_, _], _ => rfl
  have A0 : At K mg "_law_mix" s__law_mix ["_law_script", "_law_seed"] := ⟨_, _, F0, PySem.W.mg_of X G a0, b0⟩
  have F1 := fun_mk (st := s__law_next) l1 c1 k1
  have b1 := F1.binds (ps := ["_law_h", "_law_cap"]) fun _ _ _ _ _ _ us hl => match us, hl with | [_, _], _ => rfl
  have A1 : At K mg "_law_next" s__law_next ["_law_h", "_law_cap"] := ⟨_, _, F1, PySem.W.mg_of X G a1, b1⟩
  have F2 := fun_mk (st := s__law_pick) l2 c2 k2
  have b2 := F2.binds (ps := ["_law_h", "_law_things"]) fun _ _ _ _ _ _ us hl => match us, hl with | [_, _], _ => rfl
  have A2 : At K mg "_law_pick" s__law_pick ["_law_h", "_law_things"] := ⟨_, _, F2, PySem.W.mg_of X G a2, b2⟩
  have F3 := fun_mk (st := s__law_step) l3 c3 k3
  have b3 := F3.binds (ps := ["_law_h"]) fun _ _ _ _ _ _ us hl => match us, hl with | [_], _ => rfl
  have A3 : At K mg "_law_step" s__law_step ["_law_h"] := ⟨_, _, F3, PySem.W.mg_of X G a3, b3⟩
  have F4 := fun_mk (st := s_is_integer) l4 c4 k4
  have b4 := F4.binds (ps := ["thing", "low", "high"]) fun _ _ _ _ _ _ us hl => match us, hl with | [_, _, _], _ => rfl
  have A4 : At K mg "is_integer" s_is_integer ["thing", "low", "high"] := ⟨_, _, F4, PySem.W.mg_of X G a4, b4⟩
  have F5 := fun_mk (st := s_check_step) l5 c5 k5
  have b5 := F5.binds (ps := ["thing"]) fun _ _ _ _ _ _ us hl => match us, hl with | [_], _ => rfl
  have A5 : At K mg "check_step" s_check_step ["thing"] := ⟨_, _, F5, PySem.W.mg_of X G a5, b5⟩
  have F6 := fun_mk (st := s_Reader___init__) l6 c6 k6
  have b6 := F6.binds (ps := ["self", "step"]) fun _ _ _ _ _ _ us hl => match us, hl with | [_, _], _ => rfl
  have A6 : AtM K (fun f => Mk K C_ f) "__init__" "Reader.__init__" s_Reader___init__ ["self", "step"] := ⟨_, _, F6, ⟨cmk, a6, i6, ckc⟩, b6⟩
  have F7 := fun_mk (st := s__law_double) l7 c7 k7
  have b7 := F7.binds (ps := ["_law_times"]) fun _ _ _ _ _ _ us hl => match us, hl with | [_], _ => rfl
  have A7 : At K mg "_law_double" s__law_double ["_law_times"] := ⟨_, _, F7, PySem.W.mg_of X G a7, b7⟩
  have F8 := fun_mk (st := s__law_word) l8 c8 k8
  have b8 := F8.binds (ps := ["_law_step_here", "_law_number"]) fun _ _ _ _ _ _ us hl => match us, hl with | [_, _], _ => rfl
  have A8 : At K mg "_law_word" s__law_word ["_law_step_here", "_law_number"] := ⟨_, _, F8, PySem.W.mg_of X G a8, b8⟩
  have F9 := fun_mk (st := s__law_ends) l9 c9 k9
  have b9 := F9.binds (ps := ["_law_step_here", "_law_text"]) fun _ _ _ _ _ _ us hl => match us, hl with | [_, _], _ => rfl
  have A9 : At K mg "_law_ends" s__law_ends ["_law_step_here", "_law_text"] := ⟨_, _, F9, PySem.W.mg_of X G a9, b9⟩
  have F10 := fun_mk (st := s__law_alike) l10 c10 k10
  have b10 := F10.binds (ps := ["_law_found", "_law_due_here"]) fun _ _ _ _ _ _ us hl => match us, hl with | [_, _], _ => rfl
  have A10 : At K mg "_law_alike" s__law_alike ["_law_found", "_law_due_here"] := ⟨_, _, F10, PySem.W.mg_of X G a10, b10⟩
  have F11 := fun_mk (st := s_power_of_two) l11 c11 k11
  have b11 := F11.binds (ps := ["times"]) fun _ _ _ _ _ _ us hl => match us, hl with | [_], _ => rfl
  have A11 : At K mg "power_of_two" s_power_of_two ["times"] := ⟨_, _, F11, PySem.W.mg_of X G a11, b11⟩
  have F12 := fun_mk (st := s_wide) l12 c12 k12
  have b12 := F12.binds (ps := ["step"]) fun _ _ _ _ _ _ us hl => match us, hl with | [_], _ => rfl
  have A12 : At K mg "wide" s_wide ["step"] := ⟨_, _, F12, PySem.W.mg_of X G a12, b12⟩
  have F13 := fun_mk (st := s_first_end) l13 c13 k13
  have b13 := F13.binds (ps := ["step", "text", "begin"]) fun _ _ _ _ _ _ us hl => match us, hl with | [_, _, _], _ => rfl
  have A13 : At K mg "first_end" s_first_end ["step", "text", "begin"] := ⟨_, _, F13, PySem.W.mg_of X G a13, b13⟩
  have F14 := fun_mk (st := s_cut_by) l14 c14 k14
  have b14 := F14.binds (ps := ["step", "text"]) fun _ _ _ _ _ _ us hl => match us, hl with | [_, _], _ => rfl
  have A14 : At K mg "cut_by" s_cut_by ["step", "text"] := ⟨_, _, F14, PySem.W.mg_of X G a14, b14⟩
  have F15 := fun_mk (st := s_Reader_waits) l15 c15 k15
  have b15 := F15.binds (ps := ["self"]) fun _ _ _ _ _ _ us hl => match us, hl with | [_], _ => rfl
  have A15 : AtM K (fun f => Meth K C_ "waits" f) "waits" "Reader.waits" s_Reader_waits ["self"] := ⟨_, _, F15, ⟨a15, i15, k15⟩, b15⟩
  have F16 := fun_mk (st := s_Reader_numbers) l16 c16 k16
  have b16 := F16.binds (ps := ["self"]) fun _ _ _ _ _ _ us hl => match us, hl with | [_], _ => rfl
  have A16 : AtM K (fun f => Meth K C_ "numbers" f) "numbers" "Reader.numbers" s_Reader_numbers ["self"] := ⟨_, _, F16, ⟨a16, i16, k16⟩, b16⟩
  have F17 := fun_mk (st := s_Reader_step) l17 c17 k17
  have b17 := F17.binds (ps := ["self"]) fun _ _ _ _ _ _ us hl => match us, hl with | [_], _ => rfl
  have A17 : AtM K (fun g => ∃ p, PropOf K C_ "step" p g) "step" "Reader.step" s_Reader_step ["self"] := ⟨_, _, F17, ⟨_, pa17, pg17, pt17, _, pr17⟩, b17⟩
  have F18 := fun_mk (st := s_Reader_signs) l18 c18 k18
  have b18 := F18.binds (ps := ["self"]) fun _ _ _ _ _ _ us hl => match us, hl with | [_], _ => rfl
  have A18 : AtM K (fun g => ∃ p, PropOf K C_ "signs" p g) "signs" "Reader.signs" s_Reader_signs ["self"] := ⟨_, _, F18, ⟨_, pa18, pg18, pt18, _, pr18⟩, b18⟩
  have F19 := fun_mk (st := s_Reader___len__) l19 c19 k19
  have b19 := F19.binds (ps := ["self"]) fun _ _ _ _ _ _ us hl => match us, hl with | [_], _ => rfl
  have A19 : AtM K (fun f => Meth K C_ "__len__" f) "__len__" "Reader.__len__" s_Reader___len__ ["self"] := ⟨_, _, F19, ⟨a19, i19, k19⟩, b19⟩
  have F20 := fun_mk (st := s__law_stands_so) l20 c20 k20
  have b20 := F20.binds (ps := ["_law_reader", "_law_step_here", "_law_past"]) fun _ _ _ _ _ _ us hl => match us, hl with | [_, _, _], _ => rfl
  have A20 : At K mg "_law_stands_so" s__law_stands_so ["_law_reader", "_law_step_here", "_law_past"] := ⟨_, _, F20, PySem.W.mg_of X G a20, b20⟩
  have F21 := fun_mk (st := s_Reader_copy) l21 c21 k21
  have b21 := F21.binds (ps := ["self"]) fun _ _ _ _ _ _ us hl => match us, hl with | [_], _ => rfl
  have A21 : AtM K (fun f => Meth K C_ "copy" f) "copy" "Reader.copy" s_Reader_copy ["self"] := ⟨_, _, F21, ⟨a21, i21, k21⟩, b21⟩
  have F22 := fun_mk (st := s_Reader_undo) l22 c22 k22
  have b22 := F22.binds (ps := ["self"]) fun _ _ _ _ _ _ us hl => match us, hl with | [_], _ => rfl
  have A22 : AtM K (fun f => Meth K C_ "undo" f) "undo" "Reader.undo" s_Reader_undo ["self"] := ⟨_, _, F22, ⟨a22, i22, k22⟩, b22⟩
  have F23 := fun_mk (st := s__law_signs) l23 c23 k23
  have b23 := F23.binds (ps := ["_law_h", "_law_many"]) fun _ _ _ _ _ _ us hl => match us, hl with | [_, _], _ => rfl
  have A23 : At K mg "_law_signs" s__law_signs ["_law_h", "_law_many"] := ⟨_, _, F23, PySem.W.mg_of X G a23, b23⟩
  have F24 := fun_mk (st := s__law_due) l24 c24 k24
  have b24 := F24.binds (ps := ["_law_step_here", "_law_text", "_law_signs_here"]) fun _ _ _ _ _ _ us hl => match us, hl with | [_, _, _], _ => rfl
  have A24 : At K mg "_law_due" s__law_due ["_law_step_here", "_law_text", "_law_signs_here"] := ⟨_, _, F24, PySem.W.mg_of X G a24, b24⟩
  have F25 := fun_mk (st := s__law_made) l25 c25 k25
  have b25 := F25.binds (ps := ["_law_step_here"]) fun _ _ _ _ _ _ us hl => match us, hl with | [_], _ => rfl
  have A25 : At K mg "_law_made" s__law_made ["_law_step_here"] := ⟨_, _, F25, PySem.W.mg_of X G a25, b25⟩
  have F26 := fun_mk (st := s_check_text) l26 c26 k26
  have b26 := F26.binds (ps := ["thing"]) fun _ _ _ _ _ _ us hl => match us, hl with | [_], _ => rfl
  have A26 : At K mg "check_text" s_check_text ["thing"] := ⟨_, _, F26, PySem.W.mg_of X G a26, b26⟩
  have F27 := fun_mk (st := s_Reader_tell) l27 c27 k27
  have b27 := F27.binds (ps := ["self", "signs"]) fun _ _ _ _ _ _ us hl => match us, hl with | [_, _], _ => rfl
  have A27 : AtM K (fun f => Meth K C_ "tell" f) "tell" "Reader.tell" s_Reader_tell ["self", "signs"] := ⟨_, _, F27, ⟨a27, i27, k27⟩, b27⟩
  have F28 := fun_mk (st := s__law_told) l28 c28 k28
  have b28 := F28.binds (ps := ["_law_reader", "_law_signs_here"]) fun _ _ _ _ _ _ us hl => match us, hl with | [_, _], _ => rfl
  have A28 : At K mg "_law_told" s__law_told ["_law_reader", "_law_signs_here"] := ⟨_, _, F28, PySem.W.mg_of X G a28, b28⟩
  have F29 := fun_mk (st := s__law_row) l29 c29 k29
  have b29 := F29.binds (ps := ["_law_h", "_law_step_here"]) fun _ _ _ _ _ _ us hl => match us, hl with | [_, _], _ => rfl
  have A29 : At K mg "_law_row" s__law_row ["_law_h", "_law_step_here"] := ⟨_, _, F29, PySem.W.mg_of X G a29, b29⟩
  have F30 := fun_mk (st := s_law) l30 c30 k30
  have b30 := F30.binds (ps := ["_law_script"]) fun _ _ _ _ _ _ us hl => match us, hl with | [_], _ => rfl
  have A30 : At K mg "law" s_law ["_law_script"] := ⟨_, _, F30, PySem.W.mg_of X G a30, b30⟩
  have B : Bn mg := ⟨PySem.W.mg_none_of X G z_isinstance, PySem.W.mg_none_of X G z_int, PySem.W.mg_none_of X G z_bool, PySem.W.mg_none_of X G z_str, PySem.W.mg_none_of X G z_tuple, PySem.W.mg_none_of X G z_list, PySem.W.mg_none_of X G z_len, PySem.W.mg_none_of X G z_range, PySem.W.mg_none_of X G z_abs, PySem.W.mg_none_of X G z_min, PySem.W.mg_none_of X G z_max, PySem.W.mg_none_of X G z_sum, PySem.W.mg_none_of X G z_sorted, PySem.W.mg_none_of X G z_enumerate, PySem.W.mg_none_of X G z_zip, PySem.W.mg_none_of X G z_set, PySem.W.mg_none_of X G z_any, PySem.W.mg_none_of X G z_all⟩
  have N0 := PySem.W.mg_of X G n0
  have N1 := PySem.W.mg_of X G n1
  have T0 : ∃ C, ExT K mg "BadStep" C := ⟨_, un0, PySem.W.mg_of X G un0, uq0, uk0, ub0, ut0, ud0, us0⟩
  have T1 : ∃ C, ExT K mg "StepError" C := ⟨_, un1, PySem.W.mg_of X G un1, uq1, uk1, ub1, ut1, ud1, us1⟩
  have T2 : ∃ C, ExT K mg "BadText" C := ⟨_, un2, PySem.W.mg_of X G un2, uq2, uk2, ub2, ut2, ud2, us2⟩
  have T3 : ∃ C, ExT K mg "Full" C := ⟨_, un3, PySem.W.mg_of X G un3, uq3, uk3, ub3, ut3, ud3, us3⟩
  have E0 : ∀ C, ClsAt K "BadStep" C → ExcC K C := fun C hC => ClsAt.one un0 hC ▸ ⟨eg0, ek0, ub0, ud0, ea0, en0, et0, em0⟩
  have E3 : ∀ C, ClsAt K "Full" C → ExcC K C := fun C hC => ClsAt.one un3 hC ▸ ⟨eg3, ek3, ub3, ud3, ea3, en3, et3, em3⟩
  have E2 : ∀ C, ClsAt K "BadText" C → ExcC K C := fun C hC => ClsAt.one un2 hC ▸ ⟨eg2, ek2, ub2, ud2, ea2, en2, et2, em2⟩
  have KT0_1 : ∀ C D, ClsAt K "BadStep" C → ClsAt K "StepError" D → PySem.W.kitOne K (.ref C) (.ref D) = some true := fun C D hC hD => ClsAt.one un0 hC ▸ ClsAt.one un1 hD ▸ kit_sub ud1 ut1 kt0_1
  have KT3_1 : ∀ C D, ClsAt K "Full" C → ClsAt K "StepError" D → PySem.W.kitOne K (.ref C) (.ref D) = some true := fun C D hC hD => ClsAt.one un3 hC ▸ ClsAt.one un1 hD ▸ kit_sub ud1 ut1 kt3_1
  have KT2_1 : ∀ C D, ClsAt K "BadText" C → ClsAt K "StepError" D → PySem.W.kitOne K (.ref C) (.ref D) = some true := fun C D hC hD => ClsAt.one un2 hC ▸ ClsAt.one un1 hD ▸ kit_sub ud1 ut1 kt2_1
  have XN3_2 : ∀ C D, ClsAt K "Full" C → ClsAt K "BadText" D → PySem.W.exmOne K (.ref C) (.ref D) = some false := fun C D hC hD => ClsAt.one un3 hC ▸ ClsAt.one un2 hD ▸ PySem.W.exm_ref ub2 ud2 ut2 xa3_2
  have RC : RdC K mg C_ := ⟨⟨⟨cpg, chd, cpo, csa⟩, PySem.W.mg_of X G cC, ⟨cem, cee, cet⟩⟩, cnsize, cntext, cnpast⟩
  refine ⟨PySem.W.fnOf "law" "law" (defArgs s_law) (defBody s_law) (defScope s_law) .none kV30 dc30 pm30 an30 cd30 ct30, fun s v => .of_eq rfl, fun base _ _ => ?_⟩
  have C0 : CalE l.prog w K mg base "_law_mix" ["_law_script", "_law_seed"] 1 (sp__law_mix K) := ok__law_mix A0 B
  have C1 : CalE l.prog w K mg base "_law_next" ["_law_h", "_law_cap"] 1 (sp__law_next K) := ok__law_next A1 B
  have C2 : CalE l.prog w K mg base "_law_pick" ["_law_h", "_law_things"] 2 (sp__law_pick K) := ok__law_pick A2 B C1
  have C3 : CalE l.prog w K mg base "_law_step" ["_law_h"] 3 (sp__law_step K) := ok__law_step A3 B C1 C2
  have C4 : CalE l.prog w K mg base "is_integer" ["thing", "low", "high"] 1 (sp_is_integer K) := ok_is_integer A4 B
  have C5 : CalX l.prog w K mg base "check_step" ["thing"] 2 (sp_check_step K) := ok_check_step A5 B C4 ⟨_, N0, _, rfl⟩ T0
  have C6 : CalM l.prog w K mg base (L2.CX l.prog w) (fun f => Mk K C_ f) ["self", "step"] 3 (sp_Reader___init__ K C_) := ok_Reader___init__ A6 B RC C5
  have C7 : CalE l.prog w K mg base "_law_double" ["_law_times"] 1 (sp__law_double K) := ok__law_double A7 B
  have C8 : CalE l.prog w K mg base "_law_word" ["_law_step_here", "_law_number"] 2 (sp__law_word K) := ok__law_word A8 B C7
  have C9 : CalE l.prog w K mg base "_law_ends" ["_law_step_here", "_law_text"] 3 (sp__law_ends K) := ok__law_ends A9 B C8
  have C10 : CalE l.prog w K mg base "_law_alike" ["_law_found", "_law_due_here"] 5 (sp__law_alike K) := ok__law_alike A10 B
  have C11 : CalE l.prog w K mg base "power_of_two" ["times"] 1 (sp_power_of_two K) := ok_power_of_two A11 B
  have C12 : CalE l.prog w K mg base "wide" ["step"] 2 (sp_wide K) := ok_wide A12 B C11
  have C13 : CalE l.prog w K mg base "first_end" ["step", "text", "begin"] 3 (sp_first_end K) := ok_first_end A13 B C12 C11
  have C14 : CalE l.prog w K mg base "cut_by" ["step", "text"] 4 (sp_cut_by K) := ok_cut_by A14 B C13
  have C15 : CalM l.prog w K mg base CX0 (fun f => Meth K C_ "waits" f) ["self"] 5 (sp_Reader_waits K C_) := ok_Reader_waits A15 B RC C14
  have C16 : CalM l.prog w K mg base CX0 (fun f => Meth K C_ "numbers" f) ["self"] 5 (sp_Reader_numbers K C_) := ok_Reader_numbers A16 B RC C14
  have C17 : CalM l.prog w K mg base CX0 (fun g => ∃ p, PropOf K C_ "step" p g) ["self"] 1 (sp_Reader_step K C_) := ok_Reader_step A17 B RC
  have C18 : CalM l.prog w K mg base CX0 (fun g => ∃ p, PropOf K C_ "signs" p g) ["self"] 1 (sp_Reader_signs K C_) := ok_Reader_signs A18 B RC
  have C19 : CalM l.prog w K mg base CX0 (fun f => Meth K C_ "__len__" f) ["self"] 1 (sp_Reader___len__ K C_) := ok_Reader___len__ A19 B RC
  have C20 : CalE l.prog w K mg base "_law_stands_so" ["_law_reader", "_law_step_here", "_law_past"] 6 (sp__law_stands_so K C_) := ok__law_stands_so A20 B RC C9 C10 C17 C18 C19 C16 C15
  have C21 : CalM l.prog w K mg base CX0 (fun f => Meth K C_ "copy" f) ["self"] 5 (sp_Reader_copy K C_) := ok_Reader_copy A21 B RC C6
  have C22 : CalM l.prog w K mg base CX0 (fun f => Meth K C_ "undo" f) ["self"] 1 (sp_Reader_undo K C_) := ok_Reader_undo A22 B RC
  have C23 : CalE l.prog w K mg base "_law_signs" ["_law_h", "_law_many"] 2 (sp__law_signs K) := ok__law_signs A23 B C1
  have C24 : CalE l.prog w K mg base "_law_due" ["_law_step_here", "_law_text", "_law_signs_here"] 4 (sp__law_due K) := ok__law_due A24 B C9
  have C25 : CalE l.prog w K mg base "_law_made" ["_law_step_here"] 5 (sp__law_made K C_) := ok__law_made A25 B RC C6 T0 T1 E0 KT0_1
  have C26 : CalX l.prog w K mg base "check_text" ["thing"] 1 (sp_check_text K) := ok_check_text A26 B ⟨_, N1, _, rfl⟩ T2
  have C27 : CalM l.prog w K mg base (L2.CX l.prog w) (fun f => Meth K C_ "tell" f) ["self", "signs"] 6 (sp_Reader_tell K C_) := ok_Reader_tell A27 B RC C26 C16 ⟨_, N1, _, rfl⟩ T3
  have C28 : CalE l.prog w K mg base "_law_told" ["_law_reader", "_law_signs_here"] 7 (sp__law_told K C_) := ok__law_told A28 B RC C27 T2 T3 T1 E3 E2 KT3_1 KT2_1 XN3_2
  have C29 : CalE l.prog w K mg base "_law_row" ["_law_h", "_law_step_here"] 3 (sp__law_row K) := ok__law_row A29 B C2 C1
  exact ok_law F30 B RC C0 C3 C6 C1 C2 C10 C22 C21 C23 C29 C8 C24 C28 C20 C25
end St
open PySem PySem.W PyProof.Rows
set_option maxRecDepth 100000 in
set_option maxHeartbeats 0 in
theorem PySem.Challenge.cw_stepruns_k13_whole_readers_holds : PySem.Challenge.rw_stepruns_k13_whole_readers.Holds := by
  w_on; o_law; k_head; (case hw => w_witness2)
  k_fill
  refine L2.walk_of (l := PySem.Challenge.rw_stepruns_k13_whole_readers) (n := 63) (k := 8) (x := "_law_script") (CX := fun _ => L2.CX0) (sp := fun w => St.sp_law _) rfl (by decide) rfl ⟨rfl, by decide, by decide⟩ (fun w h Y => PySem.W.kIn_of Y) ?F (fun _ _ a ns hl _ hS => ⟨a, ns, rfl, hS, hl, fun _ => rfl⟩) (fun _ _ _ _ _ h => h)
  case F =>
    intro w mg fa h KX G hmg
    refine' St.all_mk KX G hmg ?cC ?cpg ?chd ?cpo ?csa ?cmk ?ckc ?cem ?cee ?cet ?cnsize ?cntext ?cnpast ?a0 ?l0 ?c0 ?k0 ?a1 ?l1 ?c1 ?k1 ?a2 ?l2 ?c2 ?k2 ?a3 ?l3 ?c3 ?k3 ?a4 ?l4 ?c4 ?k4 ?a5 ?l5 ?c5 ?k5 ?a6 ?i6 ?l6 ?c6 ?k6 ?a7 ?l7 ?c7 ?k7 ?a8 ?l8 ?c8 ?k8 ?a9 ?l9 ?c9 ?k9 ?a10 ?l10 ?c10 ?k10 ?a11 ?l11 ?c11 ?k11 ?a12 ?l12 ?c12 ?k12 ?a13 ?l13 ?c13 ?k13 ?a14 ?l14 ?c14 ?k14 ?a15 ?i15 ?l15 ?c15 ?k15 ?a16 ?i16 ?l16 ?c16 ?k16 ?pa17 ?pg17 ?pt17 ?pr17 ?l17 ?c17 ?k17 ?pa18 ?pg18 ?pt18 ?pr18 ?l18 ?c18 ?k18 ?a19 ?i19 ?l19 ?c19 ?k19 ?a20 ?l20 ?c20 ?k20 ?a21 ?i21 ?l21 ?c21 ?k21 ?a22 ?i22 ?l22 ?c22 ?k22 ?a23 ?l23 ?c23 ?k23 ?a24 ?l24 ?c24 ?k24 ?a25 ?l25 ?c25 ?k25 ?a26 ?l26 ?c26 ?k26 ?a27 ?i27 ?l27 ?c27 ?k27 ?a28 ?l28 ?c28 ?k28 ?a29 ?l29 ?c29 ?k29 ?a30 ?l30 ?c30 ?k30 ?n0 ?n1 ?un0 ?uq0 ?uk0 ?ub0 ?ut0 ?ud0 ?us0 ?un1 ?uq1 ?uk1 ?ub1 ?ut1 ?ud1 ?us1 ?un2 ?uq2 ?uk2 ?ub2 ?ut2 ?ud2 ?us2 ?un3 ?uq3 ?uk3 ?ub3 ?ut3 ?ud3 ?us3 ?eg0 ?ek0 ?ea0 ?en0 ?et0 ?em0 ?eg3 ?ek3 ?ea3 ?en3 ?et3 ?em3 ?eg2 ?ek2 ?ea2 ?en2 ?et2 ?em2 ?kt0_1 ?kt3_1 ?kt2_1 ?xa3_2 ?z_isinstance ?z_int ?z_bool ?z_str ?z_tuple ?z_list ?z_len ?z_range ?z_abs ?z_min ?z_max ?z_sum ?z_sorted ?z_enumerate ?z_zip ?z_set ?z_any ?z_all
    (case cC => k_is)
    (case cpg => k_is)
    (case chd => k_is)
    (case cpo => k_is)
    (case csa => k_is)
    (case cmk => k_is)
    (case ckc => k_is)
    (case cem => k_is)
    (case cee => k_is)
    (case cet => k_is)
    (case cnsize => k_is)
    (case cntext => k_is)
    (case cnpast => k_is)
    (case a0 => k_is)
    (case l0 => k_is)
    (case c0 => k_is)
    (case k0 => k_is)
    (case a1 => k_is)
    (case l1 => k_is)
    (case c1 => k_is)
    (case k1 => k_is)
    (case a2 => k_is)
    (case l2 => k_is)
    (case c2 => k_is)
    (case k2 => k_is)
    (case a3 => k_is)
    (case l3 => k_is)
    (case c3 => k_is)
    (case k3 => k_is)
    (case a4 => k_is)
    (case l4 => k_is)
    (case c4 => k_is)
    (case k4 => k_is)
    (case a5 => k_is)
    (case l5 => k_is)
    (case c5 => k_is)
    (case k5 => k_is)
    (case a6 => k_is)
    (case i6 => k_is)
    (case l6 => k_is)
    (case c6 => k_is)
    (case k6 => k_is)
    (case a7 => k_is)
    (case l7 => k_is)
    (case c7 => k_is)
    (case k7 => k_is)
    (case a8 => k_is)
    (case l8 => k_is)
    (case c8 => k_is)
    (case k8 => k_is)
    (case a9 => k_is)
    (case l9 => k_is)
    (case c9 => k_is)
    (case k9 => k_is)
    (case a10 => k_is)
    (case l10 => k_is)
    (case c10 => k_is)
    (case k10 => k_is)
    (case a11 => k_is)
    (case l11 => k_is)
    (case c11 => k_is)
    (case k11 => k_is)
    (case a12 => k_is)
    (case l12 => k_is)
    (case c12 => k_is)
    (case k12 => k_is)
    (case a13 => k_is)
    (case l13 => k_is)
    (case c13 => k_is)
    (case k13 => k_is)
    (case a14 => k_is)
    (case l14 => k_is)
    (case c14 => k_is)
    (case k14 => k_is)
    (case a15 => k_is)
    (case i15 => k_is)
    (case l15 => k_is)
    (case c15 => k_is)
    (case k15 => k_is)
    (case a16 => k_is)
    (case i16 => k_is)
    (case l16 => k_is)
    (case c16 => k_is)
    (case k16 => k_is)
    (case pa17 => k_is)
    (case pg17 => k_is)
    (case pt17 => k_is)
    (case pr17 => k_is)
    (case l17 => k_is)
    (case c17 => k_is)
    (case k17 => k_is)
    (case pa18 => k_is)
    (case pg18 => k_is)
    (case pt18 => k_is)
    (case pr18 => k_is)
    (case l18 => k_is)
    (case c18 => k_is)
    (case k18 => k_is)
    (case a19 => k_is)
    (case i19 => k_is)
    (case l19 => k_is)
    (case c19 => k_is)
    (case k19 => k_is)
    (case a20 => k_is)
    (case l20 => k_is)
    (case c20 => k_is)
    (case k20 => k_is)
    (case a21 => k_is)
    (case i21 => k_is)
    (case l21 => k_is)
    (case c21 => k_is)
    (case k21 => k_is)
    (case a22 => k_is)
    (case i22 => k_is)
    (case l22 => k_is)
    (case c22 => k_is)
    (case k22 => k_is)
    (case a23 => k_is)
    (case l23 => k_is)
    (case c23 => k_is)
    (case k23 => k_is)
    (case a24 => k_is)
    (case l24 => k_is)
    (case c24 => k_is)
    (case k24 => k_is)
    (case a25 => k_is)
    (case l25 => k_is)
    (case c25 => k_is)
    (case k25 => k_is)
    (case a26 => k_is)
    (case l26 => k_is)
    (case c26 => k_is)
    (case k26 => k_is)
    (case a27 => k_is)
    (case i27 => k_is)
    (case l27 => k_is)
    (case c27 => k_is)
    (case k27 => k_is)
    (case a28 => k_is)
    (case l28 => k_is)
    (case c28 => k_is)
    (case k28 => k_is)
    (case a29 => k_is)
    (case l29 => k_is)
    (case c29 => k_is)
    (case k29 => k_is)
    (case a30 => k_is)
    (case l30 => k_is)
    (case c30 => k_is)
    (case k30 => k_is)
    (case n0 => k_is)
    (case n1 => k_is)
    (case un0 => k_is)
    (case uq0 => k_exc)
    (case uk0 => k_is)
    (case ub0 => k_is)
    (case ut0 => k_is)
    (case ud0 => k_is)
    (case us0 => k_is)
    (case un1 => k_is)
    (case uq1 => k_exc)
    (case uk1 => k_is)
    (case ub1 => k_is)
    (case ut1 => k_is)
    (case ud1 => k_is)
    (case us1 => k_is)
    (case un2 => k_is)
    (case uq2 => k_exc)
    (case uk2 => k_is)
    (case ub2 => k_is)
    (case ut2 => k_is)
    (case ud2 => k_is)
    (case us2 => k_is)
    (case un3 => k_is)
    (case uq3 => k_exc)
    (case uk3 => k_is)
    (case ub3 => k_is)
    (case ut3 => k_is)
    (case ud3 => k_is)
    (case us3 => k_is)
    (case eg0 => k_is)
    (case ek0 => k_is)
    (case ea0 => k_is)
    (case en0 => k_is)
    (case et0 => k_is)
    (case em0 => k_is)
    (case eg3 => k_is)
    (case ek3 => k_is)
    (case ea3 => k_is)
    (case en3 => k_is)
    (case et3 => k_is)
    (case em3 => k_is)
    (case eg2 => k_is)
    (case ek2 => k_is)
    (case ea2 => k_is)
    (case en2 => k_is)
    (case et2 => k_is)
    (case em2 => k_is)
    (case kt0_1 => k_is)
    (case kt3_1 => k_is)
    (case kt2_1 => k_is)
    (case xa3_2 => k_is)
    (case z_isinstance => k_is)
    (case z_int => k_is)
    (case z_bool => k_is)
    (case z_str => k_is)
    (case z_tuple => k_is)
    (case z_list => k_is)
    (case z_len => k_is)
    (case z_range => k_is)
    (case z_abs => k_is)
    (case z_min => k_is)
    (case z_max => k_is)
    (case z_sum => k_is)
    (case z_sorted => k_is)
    (case z_enumerate => k_is)
    (case z_zip => k_is)
    (case z_set => k_is)
    (case z_any => k_is)
    (case z_all => k_is)
#print axioms PySem.Challenge.cw_stepruns_k13_whole_readers_holds
