import PyProof.Rows.All
import Wide.All
import OpenK.AllK
import Wide.FinOn
import HandS.ForMost
import HandS.ForExc
import HandS.Wide
import HandS.WideBits
import HandS.IsInst
import HandS.Codes
import HandS.TupAny
import HandS.TupLen
import HandS.Style
import HandS.TupSets
import HandS.Small
import HandS.ExcIs
import HandS.SortRule
import PyProof.Draws
import PyProof.EnumMake
import KE.SortData
import KE.DataMinMax
import KE.GoesMore
import KE.GoesEnum
import HandS.TupMul
import HandS.DictTup
import HandS.DictComp
import KE.KDictKeyed
import KE.KDictDisplayH
import PyProof.DictTable
import HandS.Deep
import HandS.SetFor
import HandS.Set
import PySem.Challenge.RW_stepruns_k17_whole_sure_texts
set_option Elab.async false
set_option linter.all false
set_option maxRecDepth 100000
set_option maxHeartbeats 4000000
namespace St
open PySem PySem.Spec PyProof.Rows L2
/-! ### names that are still the built-ins -/
structure Bn (mg : Str → Option Value) : Prop where
  isinstance_ : mg "isinstance" = none
  int_ : mg "int" = none
  bool_ : mg "bool" = none
  str_ : mg "str" = none
  tuple_ : mg "tuple" = none
  list_ : mg "list" = none
  len_ : mg "len" = none
  range_ : mg "range" = none
  abs_ : mg "abs" = none
  min_ : mg "min" = none
  max_ : mg "max" = none
  sum_ : mg "sum" = none
  sorted_ : mg "sorted" = none
  enumerate_ : mg "enumerate" = none
  zip_ : mg "zip" = none
  set_ : mg "set" = none
  any_ : mg "any" = none
  all_ : mg "all" = none
/-- the def st stands as x -/
def At (K : PySem.W.Frag) (mg : Str → Option Value) (x : Str) (st : Stmt) (ps : List Str) : Prop :=
  ∃ f fd, Fun K x x st f fd ∧ mg x = some (.ref f) ∧ Binds K fd ps []
/-- a def that keeps its promise, ready to be called by its name -/
structure Cal (P : Program) (w : World) (K : PySem.W.Frag) (mg : Str → Option Value) (base : Heap) (x : Str) (ps : List Str) (k : Nat) (sp : Sp) (f : Addr) (fd : FuncData) : Prop where
  ok : FnOk P w K mg base CX0 k f fd ps sp
  g : mg x = some (.ref f)
  kp : PySem.W.keepIn K (.ref f) = true
  b : Binds K fd ps []
def CalE (P : Program) (w : World) (K : PySem.W.Frag) (mg : Str → Option Value) (base : Heap) (x : Str) (ps : List Str) (k : Nat) (sp : Sp) : Prop := ∃ f fd, Cal P w K mg base x ps k sp f fd
/-! ### heaps -/
theorem same_new {H : Hp} {p : Addr} (h : H p = none) (o : HO) : Same H (upd H p o) := fun b u q => by rw [upd_ne (ne_of_none q h)]; exact q
theorem Same.seqT {K : PySem.W.Frag} {H H' : Hp} {a : Addr} {xs : List V} (e : Same H H') (h : SqT K H a xs) : SqT K H' a xs := by
  rcases h with (h | ⟨o, h⟩) | h
  · exact .inl (.inl (e _ _ h))
  · exact .inl (.inr ⟨o, e _ _ h⟩)
  · exact .inr h
theorem tyL {K : PySem.W.Frag} {H : Hp} {a : Addr} {xs : List V} (h : SqL K H a xs) : TyX K H (.ref a) (.type "list") := by
  rcases h with (h | ⟨o, h⟩) | ⟨o, its, n, h, c, _⟩
  · exact .base (.lst h)
  · exact .base (.frz h)
  · exact .kList h c
theorem tyT {K : PySem.W.Frag} {H : Hp} {a : Addr} {xs : List V} (h : SqT K H a xs) : TyX K H (.ref a) (.type "tuple") := by
  rcases h with (h | ⟨o, h⟩) | ⟨o, its, n, h, c, _⟩
  · exact .base (.tup h)
  · exact .fTuple h
  · exact .kTuple h c
theorem SqL.new {K : PySem.W.Frag} {H : Hp} {p : Addr} {xs : List V} : SqL K (upd H p (.lst xs)) p xs := .inl (.inl upd_same)
theorem SqT.new {K : PySem.W.Frag} {H : Hp} {p : Addr} {xs : List V} : SqT K (upd H p (.tup xs)) p xs := .inl (.inl upd_same)
theorem ne_new {H : Hp} {a p : Addr} {o : HO} (h : H a = some o) (hp : H p = none) : p ≠ a := fun e => by rw [e, h] at hp; cases hp
theorem iteDT {p : Prop} [Decidable p] {A B : Prop} (h : p) (a : A) : if decide p = true then A else B := by
  rw [decide_eq_true h]
  exact iteT a
theorem iteDF {p : Prop} [Decidable p] {A B : Prop} (h : ¬ p) (b : B) : if decide p = true then A else B := by
  rw [decide_eq_false h]
  exact iteF b
theorem iteND {p : Prop} [Decidable p] {A B : Prop} (h : ¬ p) (a : A) : if (!decide p) = true then A else B := by
  rw [decide_eq_false h]
  exact iteT a
theorem iteNF {p : Prop} [Decidable p] {A B : Prop} (h : p) (b : B) : if (!decide p) = true then A else B := by
  rw [decide_eq_true h]
  exact iteF b
/-! ### ways that meet: what is left is shown once, for all that the ways may bring (G is read off the first way) -/
theorem joinT {R G : Prop} (main : G → R) (k : G) : R := main k
theorem joinG1 {α : Type} {R : Prop} {G : α → Prop} (C : α → Prop) (main : (∀ x, C x → G x) → R) (k : ∀ x, C x → G x) : R := main k
theorem joinG2 {α β : Type} {R : Prop} {G : α → β → Prop} (C : α → β → Prop) (main : (∀ x y, C x y → G x y) → R) (k : ∀ x y, C x y → G x y) : R := main k
theorem joinG3 {α β γ : Type} {R : Prop} {G : α → β → γ → Prop} (C : α → β → γ → Prop) (main : (∀ x y z, C x y z → G x y z) → R) (k : ∀ x y z, C x y z → G x y z) : R := main k
theorem joinG4 {α β γ δ : Type} {R : Prop} {G : α → β → γ → δ → Prop} (C : α → β → γ → δ → Prop) (main : (∀ x y z u, C x y z u → G x y z u) → R) (k : ∀ x y z u, C x y z u → G x y z u) : R := main k
theorem to_nx {i : Nat} {v : V} {σ σ' : List (Option V)} {H : Hp} {Q : List (Option V) → Hp → Prop} (e : σ.set i (some v) = σ') (h : Q σ' H) : gName i v σ H Q := by
  show Q (σ.set i (some v)) H
  rw [e]
  exact h
/-- the value written otherwise -/
theorem to_v {Q : VK} {v v' : V} {H : Hp} (e : v = v') (h : Q v' H) : Q v H := e ▸ h
/-- the heap written otherwise -/
theorem to_H {Q : VK} {v : V} {H H' : Hp} (e : H = H') (h : Q v H') : Q v H := e ▸ h
theorem to_next {D : Ends} {σ σ' : List (Option V)} {H : Hp} (e : σ = σ') (h : D.nx σ' H) : tNext D σ H := by
  show D.nx σ H
  rw [e]
  exact h
/-! ### data of lists, tuples, numbers, texts -/
/-- data no deeper than n, no list of it too long -/
def OkD : Nat → PyData → Prop
  | _, .none => True | _, .bool _ => True | _, .int _ => True | _, .str _ => True
  | n + 1, .list ds => ds.length ≤ 1000000 ∧ ∀ d ∈ ds, OkD n d
  | n + 1, .tuple ds => ds.length ≤ 1000000 ∧ ∀ d ∈ ds, OkD n d
  | _, _ => False
theorem okA_nil {n : Nat} : ∀ d ∈ ([] : List PyData), OkD n d := fun d h => by cases h
theorem okA_cons {n : Nat} {a : PyData} {l : List PyData} (h : OkD n a) (t : ∀ d ∈ l, OkD n d) : ∀ d ∈ a :: l, OkD n d := fun d hd => by
  rcases List.mem_cons.mp hd with e | hd
  · exact e ▸ h
  · exact t d hd
theorem okd_list {n : Nat} {ds : List PyData} (h : ds.length ≤ 1000000) (t : ∀ d ∈ ds, OkD n d) : OkD (n + 1) (.list ds) := ⟨h, t⟩
theorem okd_tuple {n : Nat} {ds : List PyData} (h : ds.length ≤ 1000000) (t : ∀ d ∈ ds, OkD n d) : OkD (n + 1) (.tuple ds) := ⟨h, t⟩
theorem okA_strs {n : Nat} (ws : List Str) : ∀ d ∈ ws.map PyData.str, OkD n d := fun d hd => by
  obtain ⟨x, _, rfl⟩ := List.mem_map.mp hd
  cases n <;> trivial
theorem okA_ints {n : Nat} (ws : List Int) : ∀ d ∈ ws.map PyData.int, OkD n d := fun d hd => by
  obtain ⟨x, _, rfl⟩ := List.mem_map.mp hd
  cases n <;> trivial
theorem DpAll.length {K : PySem.W.Frag} {H : Hp} : ∀ {xs : List V} {ds : List PyData}, DpAll K H xs ds → xs.length = ds.length
  | _, _, .nil => rfl
  | _, _, .cons _ t => congrArg (· + 1) (DpAll.length t)
theorem DpAll.of {K : PySem.W.Frag} {H : Hp} : ∀ {xs : List V} {ds : List PyData}, xs.length = ds.length → (∀ (i : Nat) x d, xs[i]? = some x → ds[i]? = some d → Dp K H x d) → DpAll K H xs ds
  | [], [], _, _ => .nil
  | [], _ :: _, h, _ => by cases h
  | _ :: _, [], h, _ => by cases h
  | x :: xs, d :: ds, h, k => .cons (k 0 x d rfl rfl) (DpAll.of (by simpa using h) fun i y e h1 h2 => k (i + 1) y e (by simpa using h1) (by simpa using h2))
theorem DpAll.get {K : PySem.W.Frag} {H : Hp} : ∀ {xs : List V} {ds : List PyData} {i : Nat} {d : PyData}, DpAll K H xs ds → ds[i]? = some d → ∃ x, xs[i]? = some x ∧ Dp K H x d
  | _, _, _, _, .nil, e => by simp at e
  | _, _, 0, _, .cons h _, e => by
    cases Option.some.inj (by simpa using e)
    exact ⟨_, rfl, h⟩
  | _, _, i + 1, _, .cons _ t, e => by
    obtain ⟨x, h1, h2⟩ := DpAll.get (i := i) t (by simpa using e)
    exact ⟨x, by simpa using h1, h2⟩
mutual
theorem Dp.same {K : PySem.W.Frag} {H H' : Hp} (s : Same H H') : ∀ {v : V} {d : PyData}, Dp K H v d → Dp K H' v d
  | _, _, .non => .non
  | _, _, .bl b => .bl b
  | _, _, .int i => .int i
  | _, _, .str x => .str x
  | _, _, .lst h t => .lst (s.seq h) (DpAll.same s t)
  | _, _, .tup h t => .tup (St.Same.seqT s h) (DpAll.same s t)
theorem DpAll.same {K : PySem.W.Frag} {H H' : Hp} (s : Same H H') : ∀ {v : List V} {d : List PyData}, DpAll K H v d → DpAll K H' v d
  | _, _, .nil => .nil
  | _, _, .cons h t => .cons (Dp.same s h) (DpAll.same s t)
end
def isTL : PyData → Bool
  | .list _ => true | .tuple _ => true | _ => false
/-- a list or tuple of data, opened -/
theorem Dp.seq {K : PySem.W.Frag} {H : Hp} {v : V} {d : PyData} (h : Dp K H v d) (hd : isTL d = true) : ∃ (a : Addr) (xs : List V) (ds : List PyData), v = .ref a ∧ (d = .list ds ∧ SqL K H a xs ∨ d = .tuple ds ∧ SqT K H a xs) ∧ DpAll K H xs ds := by
  cases h with
  | lst h t => exact ⟨_, _, _, rfl, .inl ⟨rfl, h⟩, t⟩
  | tup h t => exact ⟨_, _, _, rfl, .inr ⟨rfl, h⟩, t⟩
  | non => cases hd
  | bl => cases hd
  | int => cases hd
  | str => cases hd
theorem canAll {n : Nat} : ∀ ds : List PyData, (∀ d ∈ ds, d.canLay0 = true ∧ d.depth ≤ n) → PyData.canLayAll0 ds = true ∧ PyData.depthAll ds ≤ n
  | [], _ => ⟨by simp only [PyData.canLayAll0], by simp only [PyData.depthAll]; omega⟩
  | d :: ds, h => by
    obtain ⟨a, b⟩ := h d List.mem_cons_self
    obtain ⟨c, e⟩ := canAll ds fun x hx => h x (List.mem_cons_of_mem _ hx)
    refine ⟨?_, ?_⟩
    · simp only [PyData.canLayAll0]
      rw [a, c]
      rfl
    · simp only [PyData.depthAll]
      omega
/-- as OkD, the texts of plain signs -/
def OkN : Nat → PyData → Prop
  | _, .none => True | _, .bool _ => True | _, .int _ => True | _, .str x => PyData.strOk x = true
  | n + 1, .list ds => ∀ d ∈ ds, OkN n d
  | n + 1, .tuple ds => ∀ d ∈ ds, OkN n d
  | _, _ => False
theorem ok_can : ∀ (n : Nat) (d : PyData), OkN n d → d.canLay0 = true ∧ d.depth ≤ n
  | _, .none, _ => ⟨by simp only [PyData.canLay0], by simp only [PyData.depth]; omega⟩
  | _, .bool _, _ => ⟨by simp only [PyData.canLay0], by simp only [PyData.depth]; omega⟩
  | _, .int _, _ => ⟨by simp only [PyData.canLay0], by simp only [PyData.depth]; omega⟩
  | n, .str x, h => by
    have h' : PyData.strOk x = true := by cases n <;> exact h
    exact ⟨by simp only [PyData.canLay0]; exact h', by simp only [PyData.depth]; omega⟩
  | n + 1, .list ds, h => by
    obtain ⟨a, b⟩ := canAll ds fun d hd => ok_can n d (h d hd)
    exact ⟨by simp only [PyData.canLay0]; exact a, by simp only [PyData.depth]; omega⟩
  | n + 1, .tuple ds, h => by
    obtain ⟨a, b⟩ := canAll ds fun d hd => ok_can n d (h d hd)
    exact ⟨by simp only [PyData.canLay0]; exact a, by simp only [PyData.depth]; omega⟩
  | 0, .list _, h => h.elim
  | 0, .tuple _, h => h.elim
  | 0, .dict _, h => h.elim
  | _ + 1, .dict _, h => h.elim
theorem ok_shaped {n : Nat} {d : PyData} (h : OkN n d) (hn : n ≤ 60) : SeqAt.shaped d = true := by
  obtain ⟨a, b⟩ := ok_can n d h
  unfold SeqAt.shaped
  rw [a, decide_eq_true (by omega)]
  rfl
theorem eqv_nil (ds : List PyData) : PyData.eqv (.list ds) (.list []) = ds.isEmpty := by
  cases ds <;> rfl
/-! ### a text times a number -/
def repS (x : Str) (n : Nat) : Str := ⟨((List.replicate n x.cps.toList).flatten).toArray⟩
theorem repS_one (x : Str) : repS x 1 = x := by
  unfold repS
  simp
theorem fold_app (l : List (Array Nat)) (a : Array Nat) : (l.foldl (· ++ ·) a).toList = a.toList ++ (l.map Array.toList).flatten := by
  induction l generalizing a with
  | nil => simp
  | cons x r ih => simp [List.foldl_cons, ih, List.append_assoc]
section
variable {X : Cx}
theorem op_mul_str : OpR X (binaryOp .Mult) (fun x y H Q => ∃ z n, x = .str z ∧ y = .int n ∧ n < 2 ^ 62 ∧ -(2 ^ 62) < n ∧ z.length * n.toNat ≤ 1000000 ∧ Q (.str (repS z n.toNat)) H) := by
  intro pins s σ H x y v u Q I rx ry h
  obtain ⟨z, n, rfl, rfl, h1, h2, h3, q⟩ := h
  obtain ⟨t, rfl⟩ := rx
  obtain ⟨t', rfl⟩ := ry
  refine P.mul_str (by
    have a : ¬ n < -(2 ^ 63) := by omega
    have b : ¬ n ≥ 2 ^ 63 := by omega
    rw [decide_eq_false a, decide_eq_false b]; rfl) (fun hn _ hb => ?_) (fun hn _ => ?_) ?_
  · have hp : 0 < n := by omega
    have e1 : (z.length : Int) * n ≤ 1000000 := by
      have e0 : ((n.toNat : Nat) : Int) = n := Int.toNat_of_nonneg (by omega)
      have e4 : ((z.length * n.toNat : Nat) : Int) ≤ 1000000 := Int.ofNat_le.mpr h3
      rw [Int.natCast_mul, e0] at e4
      exact e4
    have e2 : (2 ^ 63 - 1) / n < (z.length : Int) := hb
    have e3 : (2 ^ 63 - 1 : Int) < z.length * n := (Int.ediv_lt_iff_lt_mul hp).mp e2
    generalize (z.length : Int) * n = w at e1 e3
    omega
  · refine decide_eq_false ?_
    have z : sizeLine = 16777216 := sizeLine_eq
    omega
  · by_cases hn : n < 1
    · rw [if_pos hn]
      refine ⟨by decide, ?_⟩
      have e : n.toNat = 0 := by omega
      rw [e] at q
      exact ⟨.str _, H, I.tok _, ⟨_, rfl⟩, q⟩
    · rw [if_neg hn]
      by_cases hm : (n == 1 || z.length == 0) = true
      · rw [if_pos hm]
        have e : repS z n.toNat = z := by
          rw [Bool.or_eq_true] at hm
          rcases hm with hm | hm
          · have : n = 1 := by simpa using hm
            subst this
            exact repS_one z
          · have hz : z.cps.size = 0 := by simpa [Str.length] using hm
            obtain ⟨c⟩ := z
            have : c = #[] := Array.eq_empty_of_size_eq_zero hz
            subst this
            unfold repS
            simp
        rw [e] at q
        exact ⟨.str _, H, I, ⟨_, rfl⟩, q⟩
      · rw [if_neg hm]
        have e : (⟨(List.replicate n.toNat z.cps).foldl (· ++ ·) #[]⟩ : Str) = repS z n.toNat := by
          unfold repS
          congr 1
          apply Array.toList_inj.mp
          rw [fold_app]
          simp [List.map_replicate]
        rw [e]
        refine ⟨?_, ⟨.str _, H, I.tok _, ⟨_, rfl⟩, q⟩⟩
        rw [← e]
        refine fits_reps (decide_eq_false ?_)
        have z : sizeLine = 16777216 := sizeLine_eq
        omega
theorem ip_add_str : PIp X .Add (fun x y H Q => ∃ i j, x = .str i ∧ y = .str j ∧ i.length + j.length ≤ sizeLine ∧ Q (.str (i ++ j)) H) := iop_add_str
end
/-! ### walks over a text -/
theorem lc_str {x : Str} {g : TG} {tt : TT} {te : TE} {vs : List Nat} {σ : List (Option V)} {H1 : Hp} {D : Addr} {Qd : Hp → Prop} (Pv : Nat → Hp → Prop) (h0 : Pv 0 (upd H1 D (.lst [])))
    (hs : ∀ i c H, x.cps.toList[i]? = some c → Pv i H → g (.str ⟨#[c]⟩) (wipe σ vs) H fun σ2 H2 => wipe σ2 vs = wipe σ vs ∧ tt σ2 H2 fun b H3 =>
      if b = true then te σ2 H3 fun y H4 => ∃ acc, H4 D = some (.lst acc) ∧ acc.length < sizeLine ∧ Pv (i + 1) (upd H4 D (.lst (acc ++ [y]))) else Pv (i + 1) H3) (hd : ∀ H, Pv x.cps.size H → Qd H) :
    ∃ W : Nat → Nat → Hp → Prop, (∃ m, W 0 m (upd H1 D (.lst []))) ∧ ∀ i m H, W i m H →
      ((Its x).stop i H ∧ Qd H) ∨ ((Its x).go i H ∧ ∃ Nx : Hp → Prop, (∀ H', Nx H' → ∃ m', m' < m ∧ W (i + 1) m' H') ∧ ∀ v H', (Its x).yld i H v H' → g v (wipe σ vs) H' fun σ2 H2 => wipe σ2 vs = wipe σ vs ∧ tt σ2 H2 fun b H3 =>
        if b = true then te σ2 H3 fun y H4 => ∃ acc, H4 D = some (.lst acc) ∧ acc.length < sizeLine ∧ Nx (upd H4 D (.lst (acc ++ [y]))) else Nx H3) := by
  refine ⟨fun i m H => m = x.cps.size - i ∧ i ≤ x.cps.size ∧ Pv i H, ⟨x.cps.size, by simp, Nat.zero_le _, h0⟩, ?_⟩
  rintro i m H ⟨rfl, hi, p⟩
  by_cases hlt : i < x.cps.size
  · refine .inr ⟨hlt, Pv (i + 1), fun H' p' => ⟨x.cps.size - (i + 1), by omega, rfl, hlt, p'⟩, fun v H' y => ?_⟩
    obtain ⟨e, c, ec, ev⟩ := y
    subst e ev
    exact hs i c _ (by rw [Array.getElem?_toList]; exact ec) p
  · have e : i = x.cps.size := by omega
    subst e
    exact .inl ⟨Nat.le_refl _, hd H p⟩
theorem for_str {x : Str} {g : TG} {tb : TS} {D : Ends} {σ : List (Option V)} {H : Hp} (Pv : Nat → List (Option V) → Hp → Prop) (h0 : Pv 0 σ H)
    (hs : ∀ i c σ H, x.cps.toList[i]? = some c → Pv i σ H → g (.str ⟨#[c]⟩) σ H fun σ2 H2 => tb { D with nx := Pv (i + 1), ct := Pv (i + 1), bk := D.nx } σ2 H2) (hd : ∀ σ H, Pv x.cps.size σ H → D.nx σ H) :
    ∃ W : Nat → Nat → List (Option V) → Hp → Prop, (∃ m, W 0 m σ H) ∧ ∀ i m σ H, W i m σ H →
      ((Its x).stop i H ∧ D.nx σ H) ∨ ((Its x).go i H ∧ ∃ N : List (Option V) → Hp → Prop, (∀ σ' H', N σ' H' → ∃ m', m' < m ∧ W (i + 1) m' σ' H') ∧ ∀ v H', (Its x).yld i H v H' → g v σ H' fun σ2 H2 => tb { D with nx := N, ct := N, bk := D.nx } σ2 H2) := by
  refine ⟨fun i m σ H => m = x.cps.size - i ∧ i ≤ x.cps.size ∧ Pv i σ H, ⟨x.cps.size, by simp, Nat.zero_le _, h0⟩, ?_⟩
  rintro i m σ H ⟨rfl, hi, p⟩
  by_cases hlt : i < x.cps.size
  · refine .inr ⟨hlt, Pv (i + 1), fun σ' H' p' => ⟨x.cps.size - (i + 1), by omega, rfl, hlt, p'⟩, fun v H' y => ?_⟩
    obtain ⟨e, c, ec, ev⟩ := y
    subst e ev
    exact hs i c σ _ (by rw [Array.getElem?_toList]; exact ec) p
  · have e : i = x.cps.size := by omega
    subst e
    exact .inl ⟨Nat.le_refl _, hd σ H p⟩
theorem cutV_from (xs : List V) (k : Nat) : cutV xs (some (k : Int)) none = xs.drop k := by
  unfold cutV
  rw [HT.sIx_nat, HT.sIx_none]
  by_cases h : k ≤ xs.length
  · rw [Nat.min_eq_left h, List.take_of_length_le (by rw [List.length_drop]; exact Nat.le_refl _)]
  · rw [Nat.min_eq_right (by omega), List.drop_eq_nil_of_le (Nat.le_refl _), List.drop_eq_nil_of_le (by omega), List.take_nil]
/-! ### the rules with the written part K by name (within a comprehension X.K is not read off) -/
section
variable {X : Cx} (K : PySem.W.Frag)
theorem ix_list_ (h : X.K = K := by rfl) : IxR X (rIxL K) := h ▸ ix_list
theorem ix_tup_ (h : X.K = K := by rfl) : IxR X (rIxT K) := h ▸ ix_tup
theorem ix_seq_ (h : X.K = K := by rfl) : IxR X (rIx K) := h ▸ ix_seq
theorem sl_list_ (h : X.K = K := by rfl) : SlR X (rSlL K) := h ▸ sl_list
theorem sl_tupA_ (h : X.K = K := by rfl) : SlR X (rSlA K) := h ▸ sl_tupA
def rLenV (K : PySem.W.Frag) : List V → Hp → VK → Prop := fun xs H Q => ∃ x n, xs = [x] ∧ LenV K x H n ∧ Q (.int (n : Nat)) H
theorem call_len_ (h : X.K = K := by rfl) : CallR X (.builtin "len") (rLenV K) := h ▸ call_len
def rLenQ (K : PySem.W.Frag) : List V → Hp → VK → Prop := fun xs H Q => ∃ p ys, xs = [.ref p] ∧ (SqL K H p ys ∨ SqT K H p ys) ∧ Q (.int ys.length) H
theorem call_len_seq_ (h : X.K = K := by rfl) : CallR X (.builtin "len") (rLenQ K) := h ▸ call_len_seq
def rLenS : List V → Hp → VK → Prop := fun xs H Q => ∃ z, xs = [.str z] ∧ z.length ≤ sizeLine ∧ Q (.int z.length) H
theorem call_len_str_ : CallR X (.builtin "len") rLenS := call_len_str
theorem call_isi_ (h : X.K = K := by rfl) : CallR X (.builtin "isinstance") (rIsi K) := h ▸ call_isi
theorem call_isiT_ (h : X.K = K := by rfl) : CallR X (.builtin "isinstance") (rIsiT K) := h ▸ call_isiT
theorem cr_sum_ (hc : X.calm = true) (h : X.K = K := by rfl) : CallR X (.builtin "sum") (rSum K) := h ▸ cr_sum hc
theorem cr_max_ (hc : X.calm = true) (h : X.K = K := by rfl) : CallR X (.builtin "max") (rMax K) := h ▸ cr_max hc
theorem cr_min_ (hc : X.calm = true) (h : X.K = K := by rfl) : CallR X (.builtin "min") (rMin K) := h ▸ cr_min hc
theorem cr_all_ (hc : X.calm = true) (h : X.K = K := by rfl) : CallR X (.builtin "all") (rAll K) := h ▸ cr_all hc
theorem cr_any_ (hc : X.calm = true) (h : X.K = K := by rfl) : CallR X (.builtin "any") (rAny K) := h ▸ cr_any hc
def rTupOf (K : PySem.W.Frag) : List V → Hp → VK → Prop := fun xs H Q => ∃ p ys, xs = [.ref p] ∧ ((SqL K H p ys ∧ ∀ l, H l = none → Q (.ref l) (upd H l (.tup ys))) ∨ (SqT K H p ys ∧ Q (.ref p) H))
theorem call_tuple_of_ (h : X.K = K := by rfl) : CallR X (.type "tuple") (rTupOf K) := h ▸ call_tuple_of
def rListOf (K : PySem.W.Frag) : List V → Hp → VK → Prop := fun xs H Q => ∃ p ys, xs = [.ref p] ∧ (SqL K H p ys ∨ SqT K H p ys) ∧ ∀ l, H l = none → Q (.ref l) (upd H l (.lst ys))
theorem call_list_of_ (h : X.K = K := by rfl) : CallR X (.type "list") (rListOf K) := h ▸ call_list_of
theorem op_eqD_ (hu : X.A.units + 64 < cLine) (h : X.K = K := by rfl) : OpR X (compareOp .Eq) (rEqD K) := h ▸ op_eqD hu
theorem op_neD_ (hu : X.A.units + 64 < cLine) (h : X.K = K := by rfl) : OpR X (compareOp .NotEq) (rNeD K) := h ▸ op_neD hu
theorem op_in_seq_ (h : X.K = K := by rfl) : OpR X (compareOp .In) (rIn K false) := h ▸ op_in_seq
theorem op_notIn_seq_ (h : X.K = K := by rfl) : OpR X (compareOp .NotIn) (rIn K true) := h ▸ op_notIn_seq
def rJoinK (K : PySem.W.Frag) : V → List V → Hp → VK → Prop := fun x xs H Q => ∃ a p, ∃ ys : List Str, x = .str a ∧ xs = [.ref p] ∧ (SqL K H p (ys.map V.str) ∨ SqT K H p (ys.map V.str)) ∧ (ys.map (·.length)).sum + ys.length * a.length ≤ 16777216 ∧ Q (.str (Txt.join a ys)) H
theorem pe_join_ {o e : Expr} {to te : TE} {apos pos : Pos} (ho : PE X o to) (he : PE X e te) (hK : X.K = K := by rfl) (hs : starEach [e] X.env = [(false, eval e X.env)] := by rfl) (hbase : attributeBase o "join" X.env (eval o X.env) = eval o X.env := by rfl) (hline : (apos.endLine == pos.line) = true := by rfl) :
    PE X (.Call (.Attribute o "join" apos) [e] [] pos) (tM1 (rJoinK K) to te) := hK ▸ pe_join ho he hs hbase hline
theorem pi_tup_ {tg l : Expr} {tl : TE} (hl : PE X l tl) (h : X.K = K := by rfl) : PI X tg l (iTup K tl) := h ▸ pi_tup hl
theorem pi_list_ {tg l : Expr} {tl : TE} (hl : PE X l tl) (h : X.K = K := by rfl) : PI X tg l (iList K tl) := h ▸ pi_list hl
theorem op_catA_ (h : X.K = K := by rfl) : OpR X (binaryOp .Add) (rCatA K) := h ▸ op_catA
end
/-! ### what the law's own draws keep -/
/-- a source of draws: at h a list of a number, a list of numbers at q, a number -/
structure LawH (H : Hp) (h q : Addr) : Prop where
  ne : h ≠ q
  src : ∃ (st ix : Int) (cells : List Int), H h = some (.lst [.int st, .ref q, .int ix]) ∧ H q = some (.lst (cells.map V.int)) ∧ cells.length ≤ 1000
/-- all but the source stands as it was -/
def Sm (h q : Addr) (H H' : Hp) : Prop := ∀ b o, H b = some o → b ≠ h → b ≠ q → H' b = some o
theorem Sm.refl (h q : Addr) (H : Hp) : Sm h q H H := fun _ _ e _ _ => e
theorem Sm.trans {h q : Addr} {H H1 H2 : Hp} (a : Sm h q H H1) (b : Sm h q H1 H2) : Sm h q H H2 := fun c o e n m => b c o (a c o e n m) n m
theorem Sm.of {h q : Addr} {H H' : Hp} (a : Same H H') : Sm h q H H' := fun c o e _ _ => a c o e
theorem Sm.seq {K : PySem.W.Frag} {h q : Addr} {H H' : Hp} {a : Addr} {xs : List V} (e : Sm h q H H') (n1 : a ≠ h) (n2 : a ≠ q) (z : SqL K H a xs) : SqL K H' a xs := by
  rcases z with (z | ⟨o, z⟩) | z
  · exact .inl (.inl (e _ _ z n1 n2))
  · exact .inl (.inr ⟨o, e _ _ z n1 n2⟩)
  · exact .inr z
theorem Sm.seqT {K : PySem.W.Frag} {h q : Addr} {H H' : Hp} {a : Addr} {xs : List V} (e : Sm h q H H') (n1 : a ≠ h) (n2 : a ≠ q) (z : SqT K H a xs) : SqT K H' a xs := by
  rcases z with (z | ⟨o, z⟩) | z
  · exact .inl (.inl (e _ _ z n1 n2))
  · exact .inl (.inr ⟨o, e _ _ z n1 n2⟩)
  · exact .inr z
theorem LawH.same {H H' : Hp} {h q : Addr} (L : LawH H h q) (a : Same H H') : LawH H' h q := by
  obtain ⟨n, st, ix, cells, e1, e2, e3⟩ := L
  exact ⟨n, st, ix, cells, a _ _ e1, a _ _ e2, e3⟩
theorem LawH.nn {H : Hp} {h q : Addr} (L : LawH H h q) : H h ≠ Option.none ∧ H q ≠ Option.none := by
  obtain ⟨n, st, ix, cells, e1, e2, e3⟩ := L
  exact ⟨fun z => by (rw [e1] at z; cases z), fun z => by (rw [e2] at z; cases z)⟩
theorem LawH.tup_ne {H : Hp} {h q t : Addr} {xs : List V} (L : LawH H h q) (e : H t = some (.tup xs)) : t ≠ h ∧ t ≠ q := by
  obtain ⟨n, st, ix, cells, e1, e2, e3⟩ := L
  exact ⟨fun z => by (rw [z, e1] at e; cases e), fun z => by (rw [z, e2] at e; cases e)⟩
theorem LawH.updL {H : Hp} {h q D : Addr} {l : List V} (L : LawH H h q) (n1 : D ≠ h) (n2 : D ≠ q) : LawH (upd H D (.lst l)) h q := by
  obtain ⟨ne, st, ix, cells, a, b, d⟩ := L
  exact ⟨ne, st, ix, cells, by rw [upd_ne (Ne.symm n1)]; exact a, by rw [upd_ne (Ne.symm n2)]; exact b, d⟩
theorem SqT.updL {K : PySem.W.Frag} {H : Hp} {a D : Addr} {xs l l' : List V} (e : H D = some (.lst l)) (z : SqT K H a xs) : SqT K (upd H D (.lst l')) a xs := by
  rcases z with (z | ⟨o, z⟩) | z
  · exact .inl (.inl (by rw [upd_ne (fun y => by rw [y, e] at z; cases z)]; exact z))
  · exact .inl (.inr ⟨o, by rw [upd_ne (fun y => by rw [y, e] at z; cases z)]; exact z⟩)
  · exact .inr z
end St
namespace St
open PySem PySem.Spec PyProof.Rows L2
/-! ### sorted, min of data (numbers, texts, tuples of these) of any length -/
theorem refs_rel {xs : List V} {us : List Value} (r : Vals xs us) : ∀ {i : Nat} {x : V}, xs[i]? = some x → ∃ u, us[i]? = some u ∧ RelV x u := fun h => r.get h
theorem vals_each : ∀ {xs : List V} {us : List Value}, Vals xs us → PySem.W.EachIs (fun u x => RelV x u) us xs
  | _, _, .nil => .nil
  | _, _, .cons r t => .cons r (vals_each t)
theorem each_vals : ∀ {xs : List V} {us : List Value}, PySem.W.EachIs (fun u x => RelV x u) us xs → Vals xs us
  | _, _, .nil => .nil
  | _, _, .cons r t => .cons r (each_vals t)
/-- sorted(xs), xs a list of data of one form: a new list, the stable arrangement -/
def rSortedD (K : PySem.W.Frag) : List V → Hp → VK → Prop := fun vs H Q => ∃ (a : Addr) (xs : List V) (f : V → PyData), vs = [V.ref a] ∧ SqL K H a xs ∧ (∀ x ∈ xs, Dp K H x (f x)) ∧ PySem.W.AllAlike (xs.map f) ∧ PySem.W.Sortable (xs.map f) ∧ (∀ x ∈ xs, (f x).depth ≤ 50) ∧
  ∀ p, H p = none → Q (.ref p) (upd H p (.lst (xs.mergeSort (PySem.W.dataLe false f))))
section
variable {X : Cx}
theorem cr_sortedD (hu : X.A.units + 64 < cLine) : CallR X (.builtin "sorted") (rSortedD X.K) := by
  intro pins s σ H vs us Q I r h
  obtain ⟨a, xs, f, rfl, hs, hx, ha, hk, hd, q⟩ := h
  obtain ⟨its, rv, hl, hz⟩ := I.list hs
  obtain ⟨u, rfl, ru⟩ := vals1 r
  obtain rfl : u = Value.ref a := ru
  have e0 := vals_each rv
  have er : ∀ {xs : List V} {us : List Value}, (∀ x ∈ xs, Dp X.K H x (f x)) → PySem.W.EachIs (fun u x => RelV x u) us xs → PySem.W.EachIs (fun v b => ∃ as, Reads s.heap v (f b) as) us xs := by
    intro xs us hx e
    induction e with
    | nil => exact .nil
    | cons r t ih => exact .cons (Dp.reads I _ _ _ (hx _ List.mem_cons_self) r) (ih fun x h => hx x (List.mem_cons_of_mem _ h))
  refine PySem.W.sorted_data (R := fun u x => RelV x u) hl.isList e0 (er hx e0) ha hk hz (fun b hb => by have := hd b hb; omega) fun out ho eo => ?_
  obtain ⟨c, hc⟩ := sortedAll_at s.heap its out.toArray
  refine ⟨.ref _, upd H (s.heap.objs.size + 1) (.lst (xs.mergeSort (PySem.W.dataLe false f))), I.laid (t' := s.toks) (fun b o e => sortedAll_old e) (Nat.le_succ _) ⟨?_, out, c, each_vals eo, hc⟩, rfl, q _ (I.hok.fresh (Nat.le_succ _))⟩
  rw [List.length_mergeSort]
  exact hz
theorem cr_sortedD_ (K : PySem.W.Frag) (hu : X.A.units + 64 < cLine) (h : X.K = K := by rfl) : CallR X (.builtin "sorted") (rSortedD K) := h ▸ cr_sortedD hu
/-- min(xs), xs a list of data of one form: the first of the least -/
def rMinD (K : PySem.W.Frag) : List V → Hp → VK → Prop := fun vs H Q => ∃ (a : Addr) (xs : List V) (d : PyData) (ds : List PyData), vs = [V.ref a] ∧ SqL K H a xs ∧ DpAll K H xs (d :: ds) ∧ PySem.W.AlikeAll (d :: ds) ∧ PyData.depthAll (d :: ds) ≤ 50 ∧
  ∀ (i : Nat) (x : V), xs[i]? = some x → (d :: ds)[i]? = some (PySem.W.minD d ds) → Q x H
theorem min_list_dataI {prog : Program} {w : World} {A : Around} {E : Value → Shared → Prop} {s : Shared} {l : Addr} {vs : Array Value} {x : PyData} {xs : List PyData} {as : List Addr} {Q : Value → Shared → Prop} (hh : A.handled = none) (hl : s.heap.IsList l vs) (hr : ReadsAll s.heap vs.toList (x :: xs) as) (ha : PySem.W.AlikeAll (x :: xs)) (hu : A.units + 1 + PyData.depthAll (x :: xs) < cLine)
    (h : ∀ (i : Nat) v h' tk, vs[i]? = some v → (x :: xs)[i]? = some (PySem.W.minD x xs) → (∀ b o, s.heap.get? b = some o → h'.get? b = some o) → Q v { s with heap := h', toks := tk }) :
    wpAny (model prog w) A (call (.builtin "min") [.ref l]) Q E s := by
  have hn : vs.size = xs.length + 1 := PySem.W.readsAll_len hr
  refine PySem.call_min_walkH (PySem.W.iter_listW (A := A.in1) hh hl fun s₂ e W st hfp hw hk => ?_)
  refine ⟨_, _, _, _, _, _, _, s.heap, _, rfl, W, st, hfp, by omega, hw, hk, PySem.W.cmpIn_lt (A := A.in1) hr ha (by show A.units + 1 + _ < _; exact hu), fun v s' hP m => ?_⟩
  obtain ⟨h', tk, rfl, hk'⟩ := PySem.W.moved_old e rfl m
  obtain ⟨e3, e2⟩ := PySem.W.argBest_fold PySem.W.dataLt PyData.none x xs xs.length (Nat.le_refl _)
  rw [List.take_length] at e2
  have e1 : vs.size - 1 = xs.length := by omega
  rw [e1] at hP
  refine h _ v h' tk hP ?_ hk'
  unfold PySem.W.minD
  rw [← e2, List.getD_eq_getElem?_getD]
  cases e : (x :: xs)[PySem.argBest (fun i j => PySem.W.dataLt ((x :: xs).getD i PyData.none) ((x :: xs).getD j PyData.none)) xs.length]? with
  | some y => rfl
  | none =>
    have := List.getElem?_eq_none_iff.mp e
    rw [List.length_cons] at this
    omega
theorem cr_minD (hc : X.calm = true) (hu : X.A.units + 64 < cLine) : CallR X (.builtin "min") (rMinD X.K) := by
  intro pins s σ H vs us Q I r h
  obtain ⟨a, xs, d, ds, rfl, hs, hx, ha, hd, q⟩ := h
  obtain ⟨its, rv, hl, _⟩ := I.list hs
  rw [Vals.ref1 r]
  obtain ⟨as, hr⟩ := Dp.readsAll I _ _ _ hx rv
  refine min_list_dataI (I.ok.hd hc) hl.isList hr ha (by omega) fun i v h' tk hi hj hk => ?_
  have hi' : its[i]? = some v := by simpa using hi
  have hlt : i < xs.length := by
    have := (List.getElem?_eq_some_iff.mp hi').1
    rw [rv.length]
    exact this
  have hxi : xs[i]? = some xs[i] := List.getElem?_eq_getElem hlt
  obtain ⟨u, hu, ru⟩ := rv.get hxi
  rw [hi'] at hu
  cases Option.some.inj hu
  exact ⟨xs[i], H, I.kept hk, ru, q i _ hxi hj⟩
theorem cr_minD_ (K : PySem.W.Frag) (hc : X.calm = true) (hu : X.A.units + 64 < cLine) (h : X.K = K := by rfl) : CallR X (.builtin "min") (rMinD K) := h ▸ cr_minD hc hu
end
end St
namespace St
open PySem PySem.Spec PyProof.Rows L2
/-! ### set(xs), xs a list: one turn told by what is put in -/
section
variable {P : Program} {w : World} {A : Around}
theorem set_loop {I : Addr} {fp wr : List Addr} {G : Array GenState → Array GenState → Prop} {n : Nat} {Pv : Nat → Value → Prop} {Sx : Nat → Shared → Prop} {R : Result → Shared → Prop}
    (W : WalksS P w A.in1 I fp wr G n Pv Sx) (S : Addr) (nSf : S ∉ fp) (h0 : Heap) (nS : h0.get? S = none) (nw : ∀ b ∈ wr, h0.get? b = none) (J : Nat → Heap → Prop)
    (keep : ∀ i h h', J i h → (∀ o, h.get? S = some o → h'.get? S = some o) → (∀ b o, h0.get? b = some o → h'.get? b = some o) → J i h')
    (step : ∀ i v (s : Shared) (Q : Bool → Shared → Prop) (E : Value → Shared → Prop), i < n → Pv i v → J i s.heap → (∀ b o, h0.get? b = some o → s.heap.get? b = some o) →
      (∀ h' tk b, s.toks ≤ tk → Heap.SameBut S s.heap h' → J (i + 1) h' → Q b { s with heap := h', toks := tk }) → wpAny (model P w) A.in1 (setAdd S v) Q E s) :
    ∀ (k i : Nat) (s : Shared), n - i = k → i ≤ n → Sx i s → (∀ b o, h0.get? b = some o → s.heap.get? b = some o) → J i s.heap →
      (∀ s', Moved (S :: wr) G s s' → J n s'.heap → (∀ b o, h0.get? b = some o → s'.heap.get? b = some o) → R (.ok (.ret .none)) s') →
      codeAny (model P w) A (.builtin "set.update.loop" ⟨[.ref S, .ref I], []⟩) R s
  | 0, i, s, hk, hi, st, old, j, fin => by
    obtain rfl : i = n := by omega
    refine codeAny_builtin PyProof.Rows.F.entry_set_update_loop ?_
    rw [Around.under_plainId PyProof.Rows.F.plain_set_update_loop _]
    show wpAny _ A.in1 (pyNext (.ref I) >>= _) _ _ s
    refine wpAny_bind (W.done s _ _ st fun s' mv => ?_)
    have old' : ∀ b o, h0.get? b = some o → s'.heap.get? b = some o := fun b o e => mv.heap b o (fun z => by rw [nw b z] at e; cases e) (old b o e)
    have jS := keep i _ s'.heap j (fun o e => mv.heap S o (fun z => nSf (W.sub _ z)) e) old'
    show wpAny _ A.in1 (ret Value.none) _ _ s'
    exact wpAny_pure (fin s' (mv.mono fun b z => .tail _ z) jS old')
  | k + 1, i, s, hk, hi, st, old, j, fin => by
    have lt : i < n := by omega
    refine codeAny_builtin PyProof.Rows.F.entry_set_update_loop ?_
    rw [Around.under_plainId PyProof.Rows.F.plain_set_update_loop _]
    show wpAny _ A.in1 (pyNext (.ref I) >>= _) _ _ s
    refine wpAny_bind (W.item i s _ _ lt st fun v s' pv st' mv => ?_)
    have old' : ∀ b o, h0.get? b = some o → s'.heap.get? b = some o := fun b o e => mv.heap b o (fun z => by rw [nw b z] at e; cases e) (old b o e)
    have jS := keep i _ s'.heap j (fun o e => mv.heap S o (fun z => nSf (W.sub _ z)) e) old'
    show wpAny _ A.in1 (holding [v] (setAdd S v) >>= _) _ _ s'
    refine wpAny_bind (wpAny_holding (step i v s' _ _ lt pv jS old' fun h' tk b tl sb j' => ?_))
    have old2 : ∀ b o, h0.get? b = some o → h'.get? b = some o := fun b o e => (sb.2 b fun z => by rw [z, nS] at e; cases e).trans (old' b o e)
    refine wpAny_pure ⟨plainId_quiet PyProof.Rows.F.plain_set_update_loop _, set_loop W S nSf h0 nS nw J keep step k (i + 1) _ (by omega) lt (W.frame _ s' _ _ st' tl fun b hb o e => (sb.2 b fun z => nSf (z ▸ hb)).trans e) old2 j' fun s3 mv3 j3 old3 => ?_⟩
    exact fin s3 (Moved.trans W.gtrans ((mv.mono fun b z => .tail _ z).then_heap tl fun b o hb e => (sb.2 b fun z => hb (by rw [z]; exact .head _)).trans e) mv3) j3 old3
end
section
variable {P : Program} {w : World} {A : Around} {E : Value → Shared → Prop} {s : Shared}
/-- the heap with a new set at its end -/
abbrev newSetH (w : World) (h : Heap) : Heap := h.push { cls := .type "set", dict := none, data := .set #[] 0 (.fresh 0 0 (!w.params.followText "set-order")) }
set_option maxHeartbeats 3200000 in
theorem call_set_of {l : Addr} {its : Array Value} {Q : Value → Shared → Prop} (J : Nat → Heap → Prop) (hh : A.handled = none) (hl : s.heap.IsList l its)
    (fresh : ∀ h', h'.get? s.heap.objs.size = (newSetH w s.heap).get? s.heap.objs.size → (∀ b o, s.heap.get? b = some o → h'.get? b = some o) → J 0 h')
    (keep : ∀ i h h', J i h → (∀ o, h.get? s.heap.objs.size = some o → h'.get? s.heap.objs.size = some o) → (∀ b o, s.heap.get? b = some o → h'.get? b = some o) → J i h')
    (step : ∀ (A' : Around) i v (s' : Shared) (Q : Bool → Shared → Prop) (E : Value → Shared → Prop), A'.units ≤ A.units + 4 → i < its.size → its[i]? = some v → J i s'.heap → (∀ b o, s.heap.get? b = some o → s'.heap.get? b = some o) →
      (∀ h' tk b, s'.toks ≤ tk → Heap.SameBut s.heap.objs.size s'.heap h' → J (i + 1) h' → Q b { s' with heap := h', toks := tk }) → wpAny (model P w) A' (setAdd s.heap.objs.size v) Q E s')
    (h : ∀ (h' : Heap) (tk : Nat), J its.size h' → (∀ b o, s.heap.get? b = some o → h'.get? b = some o) → Q (.ref s.heap.objs.size) { s with heap := h', toks := tk }) :
    wpAny (model P w) A (call (.type "set") [.ref l]) Q E s := by
  obtain ⟨c, tl, hmro⟩ := PySem.F.called_set.mro
  have made := PySem.F.called_set.made
  have sub := PySem.F.called_set.sub
  refine wpAny_call (codeAny_of_tree ?_)
  show wpAny _ _ (callAny (.type "set") _) _ _ _
  refine wpAny_pure ⟨Code.quiet_builtin _ (by decide +kernel), codeAny_builtin PySem.F.entry_type_call ?_⟩
  rw [Around.under_plain (weight_type_call_type "set" [.ref l] []) rfl]
  have nt := PySem.F.called_set.notType
  have cc := PySem.F.called_set.canCreate
  have tc := PySem.F.typeCall_set_1 (.ref l)
  repeat (any_goals (first | assumption | wp_step))
  refine codeAny_mono (L2.code_set_led1 (.ref l) (E := E) (Q₁ := fun obj t => obj = .ref s.heap.objs.size ∧ t = { s with heap := newSetH w s.heap }) ⟨rfl, rfl⟩) fun r t hr => ?_
  cases r with
  | error e => exact hr
  | ok fl =>
    cases fl with
    | ret obj =>
      obtain ⟨rfl, rfl⟩ := hr
      have hS : (newSetH w s.heap).get? s.heap.objs.size = some { cls := .type "set", dict := none, data := .set #[] 0 (.fresh 0 0 (!w.params.followText "set-order")) } := Heap.get?_push_size _ rfl
      have hT : Shared.TypeIs { s with heap := newSetH w s.heap } (.ref s.heap.objs.size) "set" := ⟨_, hS, rfl⟩
      have li := PySem.F.called_set.init.lookup
      have bi := PySem.F.called_set.init.bind (.ref s.heap.objs.size)
      repeat (any_goals (first | assumption | wp_step))
      refine codeAny_mono (codeAny_call_builtin (R := wants (fun r t => r = .none ∧ ∃ h' tk, t = { s with heap := h', toks := tk } ∧ J its.size h' ∧ (∀ b o, s.heap.get? b = some o → h'.get? b = some o)) E) PySem.F.called_set.init.plain PySem.F.entry_set_init (check_set_init_1 hT ?_)) fun r2 t2 hr2 => ?_
      · obtain ⟨⟨ocls, odict, odata, oslots⟩, hol, hcl, nl, hdl⟩ := hl
        dsimp only at hcl hdl
        subst hcl hdl
        have sls := PySem.F.sub_list_set
        have slf := PySem.F.sub_list_frozenset
        have ned : (Value.type "list" == Value.type "dict") = false := by decide
        have hl1 : (newSetH w s.heap).IsList l its := ⟨_, Heap.get?_push_of_some _ hol, rfl, nl, rfl⟩
        have hol' : (newSetH w s.heap).get? l = some { cls := .type "list", dict := odict, data := .seq its nl, slots := oslots } := Heap.get?_push_of_some _ hol
        have lS : l < s.heap.objs.size := Heap.lt_size hol
        have zN : (newSetH w s.heap).objs.size = s.heap.objs.size + 1 := Heap.size_push ..
        have gone : ∀ b, s.heap.objs.size ≤ b → s.heap.get? b = none := fun b hb => by
          cases q : s.heap.get? b with
          | none => rfl
          | some o => exact absurd (Heap.lt_size q) (Nat.not_lt_of_le hb)
        unfold Builtin.«set.__init__» noKeywords Builtin.Frozenset.updateFrom
        generalize hPI : pyIter = PI
        wp_walk
        subst hPI
        refine wpAny_pyIter_list hl1 ?_
        refine wpAny_bind (wpAny_runValue ?_)
        have h3 : A.in1.in1.in1.handled = none := by simp [hh]
        have nI : l ≠ (newSetH w s.heap).objs.size := by rw [zN]; exact Nat.ne_of_lt (Nat.lt_succ_of_lt lS)
        have nSI : s.heap.objs.size ∉ [(newSetH w s.heap).objs.size, l] := fun z => by
          rw [zN] at z
          rcases List.mem_cons.mp z with z | z
          · exact absurd z (Nat.ne_of_lt (Nat.lt_succ_self _))
          · exact absurd (List.mem_singleton.mp z) (Nat.ne_of_gt lS)
        refine set_loop ((Walks.list h3 _ l nI its).toS) s.heap.objs.size nSI s.heap (gone _ (Nat.le_refl _)) (fun b hb => gone b (by rw [List.mem_singleton.mp hb, zN]; exact Nat.le_succ _)) J keep
          (fun i v s' Q' E' hi pv j old nx => step _ i v s' Q' E' (by show A.units + 1 + 1 + 1 ≤ _; omega) hi pv j old nx) (its.size - 0) 0 _ (by omega) (Nat.zero_le _) ⟨⟨_, Heap.get?_push_size _ rfl, rfl, rfl⟩, hl1.push _⟩ (fun b o e => Heap.get?_push_of_some _ (Heap.get?_push_of_some _ e)) (fresh _ ?_ fun b o e => Heap.get?_push_of_some _ (Heap.get?_push_of_some _ e)) fun s' mv j old => ?_
        · rw [hS]
          exact Heap.get?_push_of_some _ hS
        · obtain ⟨h', g', d', tk', os'⟩ := s'
          obtain rfl : g' = s.gens := mv.gens
          obtain rfl : d' = s.drawn := mv.drawn
          obtain rfl : os' = s.os := mv.os
          show wpAny _ _ _ _ _ _
          refine wpAny_pure ?_
          show wpAny _ _ (ret Value.none) _ _ _
          exact wpAny_pure ⟨rfl, h', tk', rfl, j, old⟩
      · cases r2 with
        | error e => exact hr2
        | ok fl2 =>
          cases fl2 with
          | ret r =>
            obtain ⟨rfl, h', tk, rfl, j, old⟩ := hr2
            repeat (any_goals (first | assumption | wp_step))
            exact h h' tk j old
          | _ => exact hr2.elim
    | _ => exact hr.elim
end
end St
namespace St
open PySem PySem.Spec PyProof.Rows L2
/-! ### texts of the signs 0 and 1, words by a step -/
def sg (b : Bool) : Nat := if b then 49 else 48
theorem sg_inj {a b : Bool} (h : sg a = sg b) : a = b := by
  cases a <;> cases b <;> first | rfl | (exact absurd h (by decide))
/-- the text of some signs -/
def tx (l : List Bool) : Str := ⟨(l.map sg).toArray⟩
theorem tx_list (l : List Bool) : (tx l).cps.toList = l.map sg := by simp [tx]
theorem tx_len (l : List Bool) : (tx l).length = l.length := by simp [tx, Str.length]
theorem str_ext {a b : Str} (h : a.cps.toList = b.cps.toList) : a = b := by
  obtain ⟨a⟩ := a
  obtain ⟨b⟩ := b
  exact congrArg Str.mk (Array.toList_inj.mp h)
theorem app_list (a b : Str) : (a ++ b).cps.toList = a.cps.toList ++ b.cps.toList := by
  show (Str.append a b).cps.toList = _
  unfold Str.append
  simp
theorem tx_app (a b : List Bool) : tx a ++ tx b = tx (a ++ b) := by
  apply str_ext
  rw [app_list, tx_list, tx_list, tx_list, List.map_append]
theorem tx_inj {a b : List Bool} (h : tx a = tx b) : a = b := by
  have e : a.map sg = b.map sg := by rw [← tx_list, ← tx_list, h]
  exact (List.map_inj_right (fun _ _ h => sg_inj h)).mp e
theorem tx_one : ("1" : Str) = tx [true] := by decide +kernel
theorem tx_zero : ("0" : Str) = tx [false] := by decide +kernel
theorem tx_nil : ("" : Str) = tx [] := by decide +kernel
theorem tx_rep (b : Bool) (n : Nat) : repS (tx [b]) n = tx (List.replicate n b) := by
  apply str_ext
  unfold repS
  rw [tx_list]
  simp only [tx_list, List.map_replicate]
  induction n with
  | zero => rfl
  | succ n ih =>
    rw [List.replicate_succ, List.flatten_cons, ih, List.replicate_succ]
    rfl
/-- so many figures of a number by twos, the highest first -/
def fig (n : Nat) : Nat → List Bool
  | 0 => []
  | k + 1 => (n / 2 ^ k % 2 == 1) :: fig n k
theorem fig_len (n k : Nat) : (fig n k).length = k := by
  induction k with
  | zero => rfl
  | succ k ih => rw [fig, List.length_cons, ih]
/-- what figures are worth -/
def worth : List Bool → Nat
  | [] => 0
  | b :: r => (if b then 2 ^ r.length else 0) + worth r
theorem worth_fig (n k : Nat) : worth (fig n k) = n % 2 ^ k := by
  induction k with
  | zero => simp [fig, worth, Nat.mod_one]
  | succ k ih =>
    rw [fig, worth, ih, fig_len, Nat.pow_succ, Nat.mod_mul]
    have := Nat.mod_two_eq_zero_or_one (n / 2 ^ k)
    rcases this with h | h <;> rw [h] <;> simp <;> omega
theorem worth_lt (l : List Bool) : worth l < 2 ^ l.length := by
  induction l with
  | nil => simp [worth]
  | cons b r ih =>
    rw [worth, List.length_cons, Nat.pow_succ]
    split <;> omega
/-- the least number of figures for all rests -/
def wideN (m : Nat) : Nat := if m ≤ 1 then 0 else Nat.log2 (m - 1) + 1
theorem wide_le (m : Nat) : m ≤ 2 ^ wideN m := by
  unfold wideN
  split
  · omega
  · have := Nat.lt_log2_self (n := m - 1)
    omega
theorem wideN_lt (m d : Nat) (h : d < wideN m) : 2 ^ d < m := by
  unfold wideN at h
  split at h
  · omega
  · have h1 := Nat.log2_self_le (n := m - 1) (by omega)
    have h2 : 2 ^ d ≤ 2 ^ (m - 1).log2 := Nat.pow_le_pow_right (by decide) (by omega)
    omega
theorem wide_eq {m c : Nat} (h1 : m ≤ 2 ^ c) (h2 : ∀ d, d < c → 2 ^ d < m) : wideN m = c := by
  rcases Nat.lt_trichotomy (wideN m) c with h | h | h
  · have a := h2 _ h
    have b := wide_le m
    omega
  · exact h
  · have a := wideN_lt m c h
    omega
theorem wide_64 {m : Nat} (h : m ≤ 64) : wideN m ≤ 6 := by
  refine Nat.not_lt.mp fun c => ?_
  have := wideN_lt m 6 c
  omega
def shortN (m : Nat) : Nat := 2 ^ wideN m - m
theorem short_lt {m : Nat} (h : 1 ≤ m) : shortN m < m := by
  unfold shortN
  have h1 := wide_le m
  cases e : wideN m with
  | zero =>
    rw [e] at h1
    simp at h1
    simp
    omega
  | succ c =>
    have h2 := wideN_lt m c (by omega)
    rw [Nat.pow_succ]
    omega
theorem short_zero {m : Nat} (h : wideN m = 0) (h1 : 1 ≤ m) : m = 1 := by
  have := wide_le m
  rw [h] at this
  simp at this
  omega
/-- the word for a rest -/
def restB (m r : Nat) : List Bool := if r < shortN m then fig r (wideN m - 1) else fig (r + shortN m) (wideN m)
/-- the word for a number -/
def wordB (m n : Nat) : List Bool := List.replicate (n / m) true ++ false :: restB m (n % m)
theorem rest_len (m r : Nat) : (restB m r).length = if r < shortN m then wideN m - 1 else wideN m := by
  unfold restB
  split <;> rw [fig_len]
theorem rest_len_le (m r : Nat) : (restB m r).length ≤ wideN m := by
  rw [rest_len]
  split <;> omega
theorem word_len (m n : Nat) : (wordB m n).length = n / m + 1 + (restB m (n % m)).length := by
  unfold wordB
  simp
  omega
/-- a place of a text -/
theorem cut_tx (l : List Bool) (i j : Nat) : cutS (tx l) (some (i : Int)) (some (j : Int)) = tx ((l.drop i).take (j - i)) := by
  apply str_ext
  unfold cutS
  rw [tx_list, tx_len, HT.sIx_nat, HT.sIx_nat, tx_list]
  simp only [List.map_take, List.map_drop]
  by_cases h : i ≤ l.length
  · rw [Nat.min_eq_left h]
    by_cases h2 : j ≤ l.length
    · rw [Nat.min_eq_left h2]
    · rw [Nat.min_eq_right (show l.length ≤ j by omega)]
      rw [List.take_of_length_le (by simp), List.take_of_length_le (by simp; omega)]
  · rw [Nat.min_eq_right (show l.length ≤ i by omega)]
    have e1 : List.drop l.length (l.map sg) = [] := List.drop_eq_nil_of_le (by simp)
    have e2 : List.drop i (l.map sg) = [] := List.drop_eq_nil_of_le (by simp; omega)
    rw [e1, e2]
    simp
theorem cut_to (l : List Bool) (j : Nat) : cutS (tx l) none (some (j : Int)) = tx (l.take j) := by
  have := cut_tx l 0 j
  have e : cutS (tx l) none (some (j : Int)) = cutS (tx l) (some ((0 : Nat) : Int)) (some (j : Int)) := by
    unfold cutS
    have e0 : HT.sIx (tx l).length 0 (some ((0 : Nat) : Int)) = 0 := by rw [HT.sIx_nat, Nat.min_eq_left (Nat.zero_le _)]
    rw [e0, HT.sIx_none]
  rw [e, this, List.drop_zero, Nat.sub_zero]
theorem cut_from (l : List Bool) (i : Nat) : cutS (tx l) (some (i : Int)) none = tx (l.drop i) := by
  apply str_ext
  unfold cutS
  rw [tx_list, tx_len, HT.sIx_nat, HT.sIx_none, tx_list]
  simp only [List.map_drop]
  by_cases h : i ≤ l.length
  · rw [Nat.min_eq_left h, List.take_of_length_le (by simp)]
  · rw [Nat.min_eq_right (show l.length ≤ i by omega)]
    have e1 : List.drop l.length (l.map sg) = [] := List.drop_eq_nil_of_le (by simp)
    have e2 : List.drop i (l.map sg) = [] := List.drop_eq_nil_of_le (by simp; omega)
    rw [e1, e2]
    simp
/-- the sign at a place, as it is asked: text[at:at + 1] == "1" -/
theorem cut_at (l : List Bool) (i : Nat) : cutS (tx l) (some (i : Int)) (some ((i : Int) + 1)) = tx (l[i]?.toList) := by
  have := cut_tx l i (i + 1)
  rw [show ((i + 1 : Nat) : Int) = (i : Int) + 1 by omega] at this
  rw [this, Nat.add_sub_cancel_left]
  congr 1
  cases h : l[i]? with
  | none =>
    rw [List.drop_eq_nil_of_le (List.getElem?_eq_none_iff.mp h)]
    rfl
  | some b =>
    obtain ⟨hi, e⟩ := List.getElem?_eq_some_iff.mp h
    rw [List.drop_eq_getElem_cons hi, e]
    rfl
theorem at_is (o : Option Bool) : (tx o.toList = tx [true]) ↔ o = some true := by
  constructor
  · intro h
    have := tx_inj h
    cases o with
    | none => cases this
    | some b => exact congrArg some (List.cons.inj this).1
  · rintro rfl
    rfl
theorem fig_get (n k i : Nat) (h : i < k) : (fig n k)[i]? = some (n / 2 ^ (k - 1 - i) % 2 == 1) := by
  induction k generalizing i with
  | zero => omega
  | succ k ih =>
    cases i with
    | zero => simp [fig]
    | succ i =>
      rw [fig, List.getElem?_cons_succ, ih i (by omega)]
      rw [show k + 1 - 1 - (i + 1) = k - 1 - i by omega]
theorem take_more {α : Type} {l : List α} {i : Nat} {x : α} (h : l[i]? = some x) : l.take (i + 1) = l.take i ++ [x] := by
  rw [List.take_add_one, h]
  rfl
theorem fig_take (n k i : Nat) (h : i < k) : (fig n k).take (i + 1) = (fig n k).take i ++ [n / 2 ^ (k - 1 - i) % 2 == 1] := take_more (fig_get n k i h)
theorem bit_int (n d : Nat) : (((n : Int) / ((2 ^ d : Nat) : Int) % 2 = 1)) ↔ (n / 2 ^ d % 2 == 1) = true := by
  rw [beq_iff_eq, ← Int.natCast_ediv]
  omega
end St
namespace St
open PySem PySem.Spec PyProof.Rows L2
/-! ### sets of texts: set(xs), sorted(set) -/
def strOf (e : Int × Value) : Str := match e.2 with | .str x _ => x | _ => Str.empty
def TxtE (P : Program) (w : World) (e : Int × Value) : Prop := ∃ x tk, e.2 = Value.str x tk ∧ e.1 = (PySem.strKind P w).hash x
section
variable {P : Program} {w : World} {h h' : Heap} {a : Addr} {S : List Str}
/-- the set of texts at a has the members of S; its table rises and can be walked -/
def SetSR (P : Program) (w : World) (h : Heap) (a : Addr) (S : List Str) : Prop :=
  ∃ o es ep t, h.get? a = some o ∧ o.ExactSet ∧ o.data = .set es ep t ∧ (∀ e ∈ es.toList, TxtE P w e) ∧ (es.toList.map strOf).Nodup ∧ (∀ x, x ∈ S ↔ x ∈ es.toList.map strOf) ∧ es.size ≤ S.length ∧
    es.size < scanBound ∧ t.fits es.size = true ∧ Ris t.place.toList ∧ (w.params.followText "set-order" = true ∨ t.led = true)
theorem SetSR.at (R : SetSR P w h a S) (k : ∀ o, h.get? a = some o → h'.get? a = some o) : SetSR P w h' a S := by
  obtain ⟨o, es, ep, t, ho, r⟩ := R
  exact ⟨o, es, ep, t, k o ho, r⟩
theorem txtE_is {e : Int × Value} (g : TxtE P w e) (k : Str) : (PySem.strKind P w).is k e.2 = true ↔ strOf e = k := by
  obtain ⟨x, tk, h1, _⟩ := g
  have e2 : (PySem.strKind P w).is x e.2 = true := by rw [h1]; exact PySem.strKind_is P w x tk
  have e3 : strOf e = x := by unfold strOf; rw [h1]
  rw [e3]
  exact ⟨fun z => ((PySem.strKind P w).inj _ _ _ z e2).symm, fun z => z ▸ e2⟩
theorem txtE_mem {l : List (Int × Value)} (g : ∀ e ∈ l, TxtE P w e) (k : Str) : k ∈ l.map strOf ↔ ∃ e ∈ l, (PySem.strKind P w).is k e.2 = true := by
  rw [List.mem_map]
  exact ⟨fun ⟨e, he, q⟩ => ⟨e, he, (txtE_is (g e he) k).mpr q⟩, fun ⟨e, he, q⟩ => ⟨e, he, (txtE_is (g e he) k).mp q⟩⟩
theorem txtE_elems {l : List (Int × Value)} (g : ∀ e ∈ l, TxtE P w e) : ElemsOf (PySem.strKind P w) l := fun e he => by
  obtain ⟨x, tk, h1, h2⟩ := g e he
  exact ⟨⟨x, by rw [h1]; exact PySem.strKind_is P w x tk, h2⟩, by rw [h1]; rfl⟩
end
section
variable {P : Program} {w : World} {A : Around} {E : Value → Shared → Prop} {s : Shared} {a : Addr} {S : List Str}
theorem setSR_tail {g : Bool → Sem Unit} (pass : ∀ (b : Bool) (s1 : Shared) (Q' : Unit → Shared → Prop), Q' () s1 → wpAny (model P w) A (g b) Q' E s1)
    {o : Obj} {es es1 : Array (Int × Value)} {ep : Nat} {t t2 : SetTable} {S' : List Str} (ho : s.heap.get? a = some o) (hex : o.ExactSet) (hd : o.data = .set es ep t)
    (g1 : ∀ e ∈ es1.toList, TxtE P w e) (nd : (es1.toList.map strOf).Nodup) (m1 : ∀ x, x ∈ S' ↔ x ∈ es1.toList.map strOf) (l1 : es1.size ≤ S'.length) (hb : es1.size < scanBound) (hf : t2.fits es1.size = true) (hr : Ris t2.place.toList) (hl : w.params.followText "set-order" = true ∨ t2.led = true) {dummy : Bool} {R : Option Bool → Shared → Prop}
    (fin : ∀ h', Heap.SameBut a s.heap h' → SetSR P w h' a S' → R (some true) { s with heap := h' }) :
    wpAny (model P w) A (do
        storeSet a es1 t2
        if (!dummy && t2.tooFull) = true then do
            g (relayAll t2 es1 (SetTable.grown es1.size)).2.2
            storeSet a (relayAll t2 es1 (SetTable.grown es1.size)).1 (relayAll t2 es1 (SetTable.grown es1.size)).2.1
            pure (some true)
          else pure (some true)) R E s := by
  refine wpAny_bind (wpAny_storeSet_of ho hd ?_ (fits_of_scanBound hb))
  have at1 := L2.store_at (es' := es1) (t' := t2) ho hd
  have sb := Heap.SameBut.update s.heap a (Obj.putSet es1 t2)
  by_cases c : (!dummy && t2.tooFull) = true
  · rw [if_pos c]
    have pm := relayAll_perm t2 es1 (SetTable.grown es1.size)
    have f3 := relayAll_fits t2 es1 (SetTable.grown es1.size)
    have r3 := L2.relayAll_ris t2 es1 (SetTable.grown es1.size)
    have l3 := L2.relayAll_led t2 es1 (SetTable.grown es1.size)
    generalize relayAll t2 es1 (SetTable.grown es1.size) = Z at pm f3 r3 l3 ⊢
    obtain ⟨es2, t3, gave⟩ := Z
    dsimp only at pm f3 r3 l3 ⊢
    have sz : es2.size = es1.size := by rw [← Array.length_toList, pm.length_eq, Array.length_toList]
    refine wpAny_bind (pass _ _ _ (wpAny_bind (wpAny_storeSet_of at1 rfl (wpAny_pure (fin _ (sb.trans (Heap.SameBut.update _ a _)) ?_)) (fits_of_scanBound (sz ▸ hb)))))
    exact ⟨_, es2, _, t3, L2.store_at (es' := es2) (t' := t3) at1 rfl, hex, rfl, fun e he => g1 e (pm.mem_iff.mp he), (pm.map strOf).nodup_iff.mpr nd, fun x => (m1 x).trans (pm.map strOf).mem_iff.symm, by rw [sz]; exact l1, by rw [sz]; exact hb, f3, r3, hl.imp id fun z => by rw [l3]; exact z⟩
  · rw [if_neg c]
    exact wpAny_pure (fin _ sb ⟨_, es1, _, t2, at1, hex, rfl, g1, nd, m1, l1, hb, hf, hr, hl⟩)
theorem setSR_add {x : Str} {tk : Tok} {Q : Bool → Shared → Prop} (R : SetSR P w s.heap a S) (room : S.length + 1 < scanBound)
    (fin : ∀ h' tk' b, s.toks ≤ tk' → Heap.SameBut a s.heap h' → SetSR P w h' a (S ++ [x]) → Q b { s with heap := h', toks := tk' }) :
    wpAny (model P w) A (setAdd a (.str x tk)) Q E s := by
  unfold setAdd
  refine wpAny_holding (wpAny_bind ((PySem.strKind P w).pyHash (k := x) (PySem.strKind_is P w x tk) ?_))
  obtain ⟨o, es, ep, t, ho, hex, hd, g, nd, hm, hsl, hb, hf, hr, hl⟩ := R
  have hkey : (PySem.strKind P w).is x (.str x tk) = true := PySem.strKind_is P w x tk
  have hel := txtE_elems g
  unfold setAddHashed setAddHashedIn
  refine wpAny_holding (wpAny_bind (wpAny_setState_of (s := { s with toks := s.toks + 1 }) ho hd hf ?_))
  dsimp only
  rw [byScan_of (x := .str x tk) rfl hb hel]
  simp only [↓reduceIte]
  unfold setAddByScan
  refine wpAny_bind (wpAny_bind (wpAny_rule (wpAny_bind (wpAny_setScan_of (s := { s with toks := s.toks + 1 }) hkey ho hd hf hel ?_))))
  cases hfi : List.findIdx? (fun e => (PySem.strKind P w).is x e.2) es.toList with
  | some j =>
    dsimp only
    obtain ⟨hj, pj, _⟩ := List.findIdx?_eq_some_iff_getElem.mp hfi
    have hx : x ∈ es.toList.map strOf := (txtE_mem g x).mpr ⟨es.toList[j], List.getElem_mem hj, pj⟩
    refine wpAny_pure (wpAny_pure (fin s.heap (s.toks + 1) _ (Nat.le_succ _) (Heap.SameBut.refl a s.heap) ⟨o, es, ep, t, ho, hex, hd, g, nd, fun y => ?_, by rw [List.length_append]; omega, hb, hf, hr, hl⟩))
    rw [List.mem_append, List.mem_singleton, hm y]
    exact ⟨fun z => z.elim id fun e => e ▸ hx, .inl⟩
  | none =>
    dsimp only
    have hnx : x ∉ es.toList.map strOf := fun z => by
      obtain ⟨e, he, q⟩ := (txtE_mem g x).mp z
      have c := List.findIdx?_eq_none_iff.mp hfi e he
      rw [q] at c
      cases c
    have pass : ∀ (b : Bool) {s1 : Shared} {Q' : Unit → Shared → Prop}, Q' () s1 → wpAny (model P w) A (match b with | true => rule "set.scan.the-table-gave-way" | false => pure ()) Q' E s1 :=
      fun b s1 Q' q => by cases b <;> first | exact wpAny_pure q | exact wpAny_rule q
    have pm := layNew_perm t es ((PySem.strKind P w).hash x) (.str x tk)
    have f1 := layNew_fits t es ((PySem.strKind P w).hash x) (.str x tk)
    have r1 := L2.layNew_ris t es ((PySem.strKind P w).hash x) (.str x tk) hr
    have l1 := L2.layNew_led t es ((PySem.strKind P w).hash x) (.str x tk)
    generalize layNew t es ((PySem.strKind P w).hash x) (.str x tk) = Z at pm f1 r1 l1 ⊢
    obtain ⟨es1, t1, dummy, gave⟩ := Z
    dsimp only at pm f1 r1 l1 ⊢
    rw [Array.toList_push] at pm
    have pc : es1.toList.Perm (((PySem.strKind P w).hash x, Value.str x tk) :: es.toList) := pm.trans (List.perm_append_singleton _ _)
    have pk : (es1.toList.map strOf).Perm (x :: es.toList.map strOf) := pc.map strOf
    have g1 : ∀ e ∈ es1.toList, TxtE P w e := fun e he => by
      rcases List.mem_cons.mp (pc.mem_iff.mp he) with z | z
      · rw [z]; exact ⟨x, tk, rfl, rfl⟩
      · exact g e z
    have n1 : (es1.toList.map strOf).Nodup := pk.nodup_iff.mpr (List.nodup_cons.mpr ⟨hnx, nd⟩)
    have m1 : ∀ y, y ∈ S ++ [x] ↔ y ∈ es1.toList.map strOf := fun y => by
      rw [List.mem_append, List.mem_singleton, hm y, pk.mem_iff, List.mem_cons]
      exact Or.comm
    have sz : es1.size = es.size + 1 := by rw [← Array.length_toList, pc.length_eq, List.length_cons, Array.length_toList]
    have b1 : es1.size < scanBound := by rw [sz]; omega
    have s1 : es1.size ≤ (S ++ [x]).length := by rw [sz, List.length_append, List.length_singleton]; omega
    have led : w.params.followText "set-order" = true ∨ t1.led = true := hl.imp id fun z => by rw [l1]; exact z
    have last : ∀ h', Heap.SameBut a s.heap h' → SetSR P w h' a (S ++ [x]) → Q true { s with heap := h', toks := s.toks + 1 } := fun h' sb r => fin h' _ true (Nat.le_succ _) sb r
    refine wpAny_bind (pass _ ?_)
    split
    · refine wpAny_bind ?_
      rw [hashByValue_scannable 8 (x := .str x tk) rfl]
      refine wpAny_pure (setSR_tail (s := { s with toks := s.toks + 1 }) ?_ ho hex hd g1 n1 m1 s1 b1 ?_ ?_ ?_ ?_)
      · intro b s2 Q' q; cases b <;> first | exact wpAny_pure q | exact wpAny_rule q
      · split <;> first | exact f1 | exact SetTable.fits_plain_off f1
      · split <;> exact r1
      · split <;> exact led
      · exact fun h' sb r => wpAny_pure (last h' sb r)
    · refine wpAny_bind (wpAny_pure ?_)
      simp only [↓reduceIte]
      refine setSR_tail (s := { s with toks := s.toks + 1 }) ?_ ho hex hd g1 n1 m1 s1 b1 f1 r1 led ?_
      · intro b s2 Q' q; cases b <;> first | exact wpAny_pure q | exact wpAny_rule q
      · exact fun h' sb r => wpAny_pure (last h' sb r)
end
def SetSO (P : Program) (w : World) (a : Addr) (S : List Str) : HO := .ext fun h => SetSR P w h a S
theorem setSO_ok {P : Program} {w : World} {H : Hp} {h : Heap} {a : Addr} {S : List Str} (R : SetSR P w h a S) : ObjOk P w H h a (SetSO P w a S) := by
  have ⟨o, _, _, _, ho, _⟩ := R
  exact ⟨R, ⟨o, ho⟩, fun h1 h2 p k => SetSR.at p k⟩
/-- set(xs), xs a list of texts -/
def rSetS (K : PySem.W.Frag) (P : Program) (w : World) : List V → Hp → VK → Prop := fun vs H Q => ∃ (l : Addr) (xs : List Str), vs = [.ref l] ∧ SqL K H l (xs.map V.str) ∧ xs.length ≤ 4000 ∧ ∀ p, H p = none → Q (.ref p) (upd H p (SetSO P w p xs))
/-- sorted(s), s a set of texts -/
def rSortedSS (P : Program) (w : World) : List V → Hp → VK → Prop := fun vs H Q => ∃ (a : Addr) (S : List Str), vs = [.ref a] ∧ H a = some (SetSO P w a S) ∧ S.length ≤ 4000 ∧
  ∀ (ys : List Str) p, ys.Pairwise (fun x y => x.cps.toList < y.cps.toList) → (∀ x, x ∈ ys ↔ x ∈ S) → H p = none → Q (.ref p) (upd H p (.lst (ys.map V.str)))
theorem strs_at {xs : List Str} {us : List Value} (r : Vals (xs.map V.str) us) {i : Nat} {v : Value} (h : us[i]? = some v) : ∃ x t, xs[i]? = some x ∧ v = .str x t := by
  have hi : i < (xs.map V.str).length := by rw [r.length]; exact (List.getElem?_eq_some_iff.mp h).1
  obtain ⟨u, hu, ru⟩ := r.get (List.getElem?_eq_getElem hi)
  rw [h] at hu
  cases Option.some.inj hu
  rw [List.length_map] at hi
  rw [List.getElem_map] at ru
  obtain ⟨t, rfl⟩ := ru
  exact ⟨xs[i], t, List.getElem?_eq_getElem hi, rfl⟩
theorem code_le_trans (a b c : List Nat) (h : a ≤ b) (k : b ≤ c) : a ≤ c := List.le_trans h k
section
variable {X : Cx}
theorem cr_setS (hc : X.calm = true) : CallR X (.type "set") (rSetS X.K X.prog X.w) := by
  intro pins s σ H vs us Q I r h
  obtain ⟨l, xs, rfl, hl, hn, q⟩ := h
  rw [Vals.ref1 r]
  obtain ⟨its, rv, hlist, hz⟩ := I.list hl
  have hlen : its.length = xs.length := by rw [← rv.length, List.length_map]
  refine call_set_of (fun i h' => SetSR X.prog X.w h' s.heap.objs.size (xs.take i)) (I.ok.hd hc) hlist.isList (fun h' e old => ?_) (fun i h h' j k old => SetSR.at j k) (fun A' i v s' Q' E' hu hi hv j old nx => ?_) fun h' tk j old => ?_
  · refine ⟨_, #[], 0, _, e.trans (Heap.get?_push_size _ rfl), ⟨rfl, rfl, rfl⟩, rfl, (fun e he => by simp at he), List.nodup_nil, (fun x => by simp), by simp, (by decide), (by rfl), List.Pairwise.nil, ?_⟩
    show _ ∨ (!X.w.params.followText "set-order") = true
    cases X.w.params.followText "set-order"
    · exact .inr rfl
    · exact .inl rfl
  · obtain ⟨x, t, hx, rfl⟩ := strs_at rv (by simpa using hv)
    refine setSR_add j ?_ fun h' tk' b tl sb r => nx h' tk' b tl sb ?_
    · rw [List.length_take]
      unfold scanBound
      omega
    · rw [take_more hx]
      exact r
  · have ez : its.toArray.size = xs.length := hlen
    rw [ez, List.take_length] at j
    exact ⟨.ref _, upd H s.heap.objs.size (SetSO X.prog X.w s.heap.objs.size xs), I.laid (t' := tk) old (Nat.le_refl _) (setSO_ok j), rfl, q _ (I.hok.fresh (Nat.le_refl _))⟩
theorem cr_sortedSS (hc : X.calm = true) (hu : X.A.units + 64 < cLine) : CallR X (.builtin "sorted") (rSortedSS X.prog X.w) := by
  intro pins s σ H vs us Q I r h
  obtain ⟨a, S, rfl, ha, hS, q⟩ := h
  rw [Vals.ref1 r]
  obtain ⟨o, es, ep, t, ho, hex, hd, g, nd, hm, hsl, hb, hf, hr, hl⟩ := (I.hok a _ ha).1
  refine Calls.call_function_entry PyProof.Rows.kind_sorted PyProof.Rows.plain_sorted PyProof.Rows.entry_sorted (PyProof.Rows.args_sorted1 _) ?_
  unfold Builtin.«sorted»
  refine wpAny_bind (m := checkCount "sorted" 1 1 _) (wpAny_pure ?_)
  refine wpAny_bind (L2.collect_set (A := X.A.in1) (I.ok.hd hc) ⟨o, ho, hex.1, hd⟩ hf hb hr hl fun s1 out k1 hz g1 o1 pm => ?_)
  have hpre : ∀ v ∈ out, ∃ x tk, v = Value.str x tk ∧ x ∈ es.toList.map strOf := fun v hv => by
    obtain ⟨e, he, rfl⟩ := List.mem_map.mp (pm.mem_iff.mp hv)
    obtain ⟨x, tk, h1, _⟩ := g e he
    exact ⟨x, tk, h1, List.mem_map.mpr ⟨e, he, by unfold strOf; rw [h1]⟩⟩
  have hlen : out.length = es.size := by rw [pm.length_eq, List.length_map, Array.length_toList]
  have nm : (out.map fun v => strOf (0, v)).Perm (es.toList.map strOf) := by
    have z := pm.map fun v => strOf (0, v)
    rw [List.map_map] at z
    exact z
  have each : ∀ l : List Value, (∀ v ∈ l, ∃ x tk, v = Value.str x tk) → PySem.W.EachIs (fun v b => ∃ tk, v = Value.str b tk) l (l.map fun v => strOf (0, v)) := by
    intro l
    induction l with
    | nil => intro _; exact .nil
    | cons v l ih =>
      intro hv
      obtain ⟨x, tk, rfl⟩ := hv v List.mem_cons_self
      exact .cons ⟨tk, rfl⟩ (ih fun u hu => hv u (List.mem_cons_of_mem _ hu))
  have e0 := each out fun v hv => let ⟨x, tk, e, _⟩ := hpre v hv; ⟨x, tk, e⟩
  generalize hbs : (out.map fun v => strOf (0, v)) = bs at nm e0
  have lbs : bs.length = out.length := by rw [← hbs, List.length_map]
  have sz := sizeLine_eq
  refine wpAny_bind (PySem.wpAny_newList ?_ (by rw [hlen]; unfold scanBound at hb; omega))
  have at1 : (s1.heap.push (seqObj "list" out.toArray 0)).get? s1.heap.objs.size = some (seqObj "list" out.toArray 0) := Heap.get?_push_size _ rfl
  refine wpAny_bind (wpAny_holding (PySem.W.list_sort_data (enc := PyData.str) (R := fun v b => ∃ tk, v = Value.str b tk) at1 e0 (e0.mono fun v b ⟨tk, e⟩ => ⟨[], e ▸ .str _ _, by simp⟩) (PySem.W.AllAlike.of fun b b' => rfl) (PySem.W.Sortable.others fun b => ⟨fun z => (by cases z), fun xs z => (by cases z)⟩) (by rw [lbs, hlen]; unfold scanBound at hb; omega) (fun b _ => by show X.A.in1.units + 1 + 0 < cLine; show X.A.units + 1 + 1 + 0 < cLine; omega) fun out2 l2 e2 => ?_))
  obtain ⟨c, hc2⟩ := sortedHeap_at (vs := out) (out := out2.toArray) at1
  have pm2 : (bs.mergeSort (PySem.W.dataLe false PyData.str)).Perm bs := List.mergeSort_perm _ _
  have srt : (bs.mergeSort (PySem.W.dataLe false PyData.str)).Pairwise fun x y => x.cps.toList < y.cps.toList := by
    have hle : PySem.W.dataLe false PyData.str = fun a b : Str => decide (a.cps.toList ≤ b.cps.toList) := PySem.W.dataLe_str id
    have p1 := List.pairwise_mergeSort (le := PySem.W.dataLe false PyData.str) (fun a b c h1 h2 => by
      rw [hle] at h1 h2 ⊢
      exact decide_eq_true (code_le_trans _ _ _ (of_decide_eq_true h1) (of_decide_eq_true h2))) (fun a b => by
      rw [hle]
      show (decide (a.cps.toList ≤ b.cps.toList) || decide (b.cps.toList ≤ a.cps.toList)) = true
      rcases List.le_total a.cps.toList b.cps.toList with z | z
      · rw [decide_eq_true z]; rfl
      · rw [decide_eq_true z, Bool.or_true]) bs
    have p2 : (bs.mergeSort (PySem.W.dataLe false PyData.str)).Nodup := pm2.nodup_iff.mpr (nm.nodup_iff.mpr nd)
    refine (List.Pairwise.and p1 p2).imp fun {x y} h => ?_
    obtain ⟨h1, h2⟩ := h
    rw [hle] at h1
    have h1 := of_decide_eq_true h1
    refine Decidable.byContradiction fun z => h2 (str_ext (List.le_antisymm h1 ?_))
    exact List.not_lt.mp z
  refine wpAny_pure ⟨_, rfl, .ref s1.heap.objs.size, upd H s1.heap.objs.size (.lst ((bs.mergeSort (PySem.W.dataLe false PyData.str)).map V.str)), ?_, rfl, q _ _ srt (fun x => ?_) (I.hok.fresh hz)⟩
  · have kept : ∀ b o, s.heap.get? b = some o → (sortedHeap (s1.heap.push (seqObj "list" out.toArray 0)) s1.heap.objs.size out out2.toArray).get? b = some o := fun b o e => by
      have q1 := k1 b o e
      have lt := Heap.lt_size q1
      rw [sortedHeap_old (Nat.ne_of_lt lt) (by rw [size_push']; exact Nat.lt_succ_of_lt lt)]
      exact Heap.get?_push_of_some _ q1
    have hn : H s1.heap.objs.size = none := I.hok.fresh hz
    have vv : ∀ {l : List Value} {ys : List Str}, PySem.W.EachIs (fun v b => ∃ tk, v = Value.str b tk) l ys → Vals (ys.map V.str) l := fun h => by
      induction h with
      | nil => exact .nil
      | cons r t ih => exact .cons r ih
    have ll : ((bs.mergeSort (PySem.W.dataLe false PyData.str)).map V.str).length ≤ sizeLine := by
      rw [List.length_map, List.length_mergeSort, lbs, hlen]
      unfold scanBound at hb
      omega
    obtain ⟨hp1, gg, dd, tk, oo⟩ := s1
    obtain rfl : gg = s.gens := g1
    obtain rfl : oo = s.os := o1
    have J : Inv X pins σ (upd H hp1.objs.size (.lst ((bs.mergeSort (PySem.W.dataLe false PyData.str)).map V.str))) { s with heap := sortedHeap (hp1.push (seqObj "list" out.toArray 0)) hp1.objs.size out out2.toArray, gens := s.gens, drawn := dd, toks := tk } :=
      I.call (ch := []) (Un.laid kept hz hn) (I.hok.laid kept hz ⟨ll, out2, c, vv e2, hc2⟩) I.bare (fun _ z => nomatch z)
    exact J
  · rw [pm2.mem_iff, nm.mem_iff, hm x]
end
theorem cr_setS_ {X : Cx} (K : PySem.W.Frag) (P : Program) (w : World) (hc : X.calm = true) (hK : X.K = K := by rfl) (hP : X.prog = P := by rfl) (hw : X.w = w := by rfl) : CallR X (.type "set") (rSetS K P w) := by
  subst hK hP hw
  exact cr_setS hc
theorem cr_sortedSS_ {X : Cx} (P : Program) (w : World) (hc : X.calm = true) (hu : X.A.units + 64 < cLine) (hP : X.prog = P := by rfl) (hw : X.w = w := by rfl) : CallR X (.builtin "sorted") (rSortedSS P w) := by
  subst hP hw
  exact cr_sortedSS hc hu
end St
namespace St
open PySem PySem.Spec PyProof.Rows L2
/-! ### reading words -/
def onesN : List Bool → Nat
  | true :: r => onesN r + 1
  | _ => 0
/-- the number whose word begins a row of signs, and how long it is -/
def rd (m : Nat) (l : List Bool) : Option (Nat × Nat) :=
  let k := onesN l
  let t := l.drop (k + 1)
  let c := wideN m
  let r := worth (t.take (c - 1))
  if l.length ≤ k then none else if t.length < c - 1 then none else
    if 0 < c ∧ shortN m ≤ r then (if t.length < c then none else some (k * m + (2 * r + (if t[c - 1]? = some true then 1 else 0) - shortN m), k + 1 + c))
    else some (k * m + r, k + 1 + (c - 1))
theorem ones_rep (k : Nat) (t : List Bool) : onesN (List.replicate k true ++ false :: t) = k := by
  induction k with
  | zero => rfl
  | succ k ih =>
    rw [List.replicate_succ, List.cons_append, onesN, ih]
theorem ones_split : ∀ (l : List Bool), onesN l < l.length → l = List.replicate (onesN l) true ++ false :: l.drop (onesN l + 1)
  | [], h => by cases h
  | false :: r, _ => rfl
  | true :: r, h => by
    have e : onesN (true :: r) = onesN r + 1 := rfl
    rw [e] at h ⊢
    have ih := ones_split r (by rw [List.length_cons] at h; omega)
    rw [List.replicate_succ, List.cons_append, List.drop_succ_cons]
    rw [← ih]
theorem fig_snoc (n k : Nat) : fig n (k + 1) = fig (n / 2) k ++ [n % 2 == 1] := by
  induction k with
  | zero => simp [fig]
  | succ k ih =>
    rw [fig, ih, fig, List.cons_append]
    rw [Nat.div_div_eq_div_mul, Nat.pow_succ, Nat.mul_comm 2]
theorem fig_worth (l : List Bool) : fig (worth l) l.length = l := by
  have low : ∀ (l : List Bool) (a : Nat), fig (a * 2 ^ l.length + worth l) l.length = l := by
    intro l
    induction l with
    | nil => intro a; rfl
    | cons b r ih =>
      intro a
      have hw := worth_lt r
      rw [List.length_cons, fig, worth]
      have e1 : a * 2 ^ (r.length + 1) + ((if b then 2 ^ r.length else 0) + worth r) = (2 * a + (if b then 1 else 0)) * 2 ^ r.length + worth r := by
        rw [Nat.pow_succ]
        cases b <;> simp <;> grind
      rw [e1, ih]
      congr 1
      rw [Nat.add_comm, Nat.add_mul_div_right _ _ (Nat.pow_pos (by decide)), Nat.div_eq_of_lt hw]
      cases b <;> simp <;> omega
  have := low l 0
  rw [Nat.zero_mul, Nat.zero_add] at this
  exact this
theorem worth_snoc (l : List Bool) (b : Bool) : worth (l ++ [b]) = 2 * worth l + (if b then 1 else 0) := by
  induction l with
  | nil => cases b <;> rfl
  | cons a r ih =>
    rw [List.cons_append, worth, ih, worth, List.length_append, List.length_singleton, Nat.pow_succ]
    cases a <;> simp <;> omega
theorem pow_half {c : Nat} (h : 1 ≤ c) : 2 ^ c = 2 * 2 ^ (c - 1) := by
  obtain ⟨d, rfl⟩ : ∃ d, c = d + 1 := ⟨c - 1, by omega⟩
  rw [Nat.add_sub_cancel, Nat.pow_succ']
theorem short_half {m : Nat} (h : 1 ≤ wideN m) : shortN m < 2 ^ (wideN m - 1) := by
  have := wideN_lt m (wideN m - 1) (by omega)
  have e := pow_half h
  have hp : 0 < 2 ^ (wideN m - 1) := Nat.pow_pos (by decide)
  unfold shortN
  omega
theorem short_add {m : Nat} : shortN m + m = 2 ^ wideN m := by
  have := wide_le m
  unfold shortN
  omega
theorem rd_word (m : Nat) (hm : 1 ≤ m) (n : Nat) (post : List Bool) : rd m (wordB m n ++ post) = some (n, (wordB m n).length) := by
  have hk : onesN (wordB m n ++ post) = n / m := by
    unfold wordB
    rw [List.append_assoc, List.cons_append, ones_rep]
  have ht : (wordB m n ++ post).drop (n / m + 1) = restB m (n % m) ++ post := by
    have e : wordB m n ++ post = (List.replicate (n / m) true ++ [false]) ++ (restB m (n % m) ++ post) := by
      unfold wordB
      simp [List.append_assoc]
    rw [e]
    exact List.drop_left' (by simp)
  have hr : n % m < m := Nat.mod_lt _ hm
  have hsa := @short_add m
  have hlen : (wordB m n).length = n / m + 1 + (restB m (n % m)).length := word_len m n
  have hn : n / m * m + n % m = n := Nat.div_add_mod' n m
  unfold rd
  simp only [hk, ht]
  rw [if_neg (by rw [List.length_append, hlen]; omega)]
  by_cases c : n % m < shortN m
  · have w1 : 1 ≤ wideN m := by
      refine Nat.not_lt.mp fun z => ?_
      have e := short_zero (show wideN m = 0 by omega) hm
      subst e
      have : shortN 1 = 0 := by decide
      omega
    have hh := short_half w1
    have er : restB m (n % m) = fig (n % m) (wideN m - 1) := if_pos c
    have el : (restB m (n % m)).length = wideN m - 1 := by rw [er, fig_len]
    have et : (restB m (n % m) ++ post).take (wideN m - 1) = fig (n % m) (wideN m - 1) := by
      rw [List.take_append_of_le_length (by omega), ← el, List.take_length, er, fig_len]
    rw [if_neg (by rw [List.length_append]; omega), et, worth_fig, Nat.mod_eq_of_lt (by omega), if_neg (by omega), hlen, el, hn]
  · have er : restB m (n % m) = fig (n % m + shortN m) (wideN m) := if_neg c
    have el : (restB m (n % m)).length = wideN m := by rw [er, fig_len]
    by_cases w0 : wideN m = 0
    · have e := short_zero w0 hm
      subst e
      rw [if_neg (by rw [List.length_append, w0]; omega), if_neg (by omega), hlen, el, w0]
      simp [worth] at hn ⊢
    · obtain ⟨d, hd⟩ : ∃ d, wideN m = d + 1 := ⟨wideN m - 1, by omega⟩
      have ef : fig (n % m + shortN m) (wideN m) = fig ((n % m + shortN m) / 2) d ++ [(n % m + shortN m) % 2 == 1] := by rw [hd, fig_snoc]
      have et : (restB m (n % m) ++ post).take (wideN m - 1) = fig ((n % m + shortN m) / 2) d := by
        rw [er, ef, hd, List.append_assoc, Nat.add_sub_cancel]
        rw [List.take_append_of_le_length (by rw [fig_len]; exact Nat.le_refl _), List.take_of_length_le (by rw [fig_len]; exact Nat.le_refl _)]
      have eg : (restB m (n % m) ++ post)[wideN m - 1]? = some ((n % m + shortN m) % 2 == 1) := by
        rw [er, ef, hd, List.append_assoc, Nat.add_sub_cancel]
        rw [List.getElem?_append_right (by rw [fig_len]; exact Nat.le_refl _), fig_len, Nat.sub_self]
        rfl
      have hlt : (n % m + shortN m) / 2 < 2 ^ d := by
        have : 2 ^ wideN m = 2 * 2 ^ d := by rw [hd, Nat.pow_succ']
        omega
      rw [if_neg (by rw [List.length_append]; omega), et, worth_fig, Nat.mod_eq_of_lt hlt, if_pos ⟨by omega, by omega⟩, if_neg (by rw [List.length_append]; omega), eg, hlen, el]
      congr 2
      have hb : (if some ((n % m + shortN m) % 2 == 1) = some true then 1 else 0) = (n % m + shortN m) % 2 := by
        rcases Nat.mod_two_eq_zero_or_one (n % m + shortN m) with h | h <;> rw [h] <;> rfl
      rw [hb]
      omega
theorem rd_some (m : Nat) (hm : 1 ≤ m) (l : List Bool) (n e : Nat) (h : rd m l = some (n, e)) : ∃ post, l = wordB m n ++ post ∧ e = (wordB m n).length := by
  unfold rd at h
  simp only at h
  have hsa := @short_add m
  by_cases h1 : l.length ≤ onesN l
  · rw [if_pos h1] at h
    cases h
  rw [if_neg h1] at h
  have hl := ones_split l (by omega)
  generalize onesN l = k at *
  generalize l.drop (k + 1) = t at *
  subst hl
  by_cases h2 : t.length < wideN m - 1
  · rw [if_pos h2] at h
    cases h
  rw [if_neg h2] at h
  have tl : (t.take (wideN m - 1)).length = wideN m - 1 := by
    rw [List.length_take]
    omega
  have wl := worth_lt (t.take (wideN m - 1))
  rw [tl] at wl
  have fw := fig_worth (t.take (wideN m - 1))
  rw [tl] at fw
  by_cases h3 : 0 < wideN m ∧ shortN m ≤ worth (t.take (wideN m - 1))
  · rw [if_pos h3] at h
    by_cases h4 : t.length < wideN m
    · rw [if_pos h4] at h
      cases h
    rw [if_neg h4] at h
    obtain ⟨b, hb⟩ : ∃ b, t[wideN m - 1]? = some b := ⟨_, List.getElem?_eq_getElem (by omega)⟩
    rw [hb] at h
    have e2 := pow_half (c := wideN m) (by omega)
    generalize hbv : (if some b = some true then 1 else 0) = bv at h
    have hbv2 : bv ≤ 1 := by
      rw [← hbv]
      split <;> omega
    obtain ⟨rfl, rfl⟩ : k * m + (2 * worth (t.take (wideN m - 1)) + bv - shortN m) = n ∧ k + 1 + wideN m = e := by
      have := Option.some.inj h
      exact ⟨congrArg (·.1) this, congrArg (·.2) this⟩
    have r0 : 2 * worth (t.take (wideN m - 1)) + bv - shortN m < m := by omega
    have d1 : (k * m + (2 * worth (t.take (wideN m - 1)) + bv - shortN m)) / m = k := by
      rw [Nat.add_comm, Nat.add_mul_div_right _ _ (by omega), Nat.div_eq_of_lt r0, Nat.zero_add]
    have d2 : (k * m + (2 * worth (t.take (wideN m - 1)) + bv - shortN m)) % m = 2 * worth (t.take (wideN m - 1)) + bv - shortN m := by
      rw [Nat.add_comm, Nat.add_mul_mod_self_right, Nat.mod_eq_of_lt r0]
    have et : t.take (wideN m) = t.take (wideN m - 1) ++ [b] := by
      have := take_more hb
      rw [show wideN m - 1 + 1 = wideN m by omega] at this
      exact this
    have er : restB m (2 * worth (t.take (wideN m - 1)) + bv - shortN m) = t.take (wideN m) := by
      unfold restB
      rw [if_neg (by omega), show 2 * worth (t.take (wideN m - 1)) + bv - shortN m + shortN m = 2 * worth (t.take (wideN m - 1)) + bv by omega]
      have hw := worth_snoc (t.take (wideN m - 1)) b
      have hw2 : worth (t.take (wideN m)) = 2 * worth (t.take (wideN m - 1)) + bv := by
        rw [et, hw, ← hbv]
        cases b <;> rfl
      rw [← hw2]
      have := fig_worth (t.take (wideN m))
      rw [List.length_take, Nat.min_eq_left (by omega)] at this
      exact this
    refine ⟨t.drop (wideN m), ?_, ?_⟩
    · unfold wordB
      rw [d1, d2, er, List.append_assoc, List.cons_append, List.take_append_drop]
    · rw [word_len, d1, d2, er, List.length_take]
      omega
  · rw [if_neg h3] at h
    obtain ⟨rfl, rfl⟩ : k * m + worth (t.take (wideN m - 1)) = n ∧ k + 1 + (wideN m - 1) = e := by
      have := Option.some.inj h
      exact ⟨congrArg (·.1) this, congrArg (·.2) this⟩
    have r0 : worth (t.take (wideN m - 1)) < m := by
      by_cases w0 : wideN m = 0
      · rw [w0] at wl
        simp at wl
        rw [w0]
        simp [worth]
        omega
      · have := short_lt hm
        have : worth (t.take (wideN m - 1)) < shortN m := Nat.not_le.mp fun z => h3 ⟨by omega, z⟩
        omega
    have d1 : (k * m + worth (t.take (wideN m - 1))) / m = k := by
      rw [Nat.add_comm, Nat.add_mul_div_right _ _ (by omega), Nat.div_eq_of_lt r0, Nat.zero_add]
    have d2 : (k * m + worth (t.take (wideN m - 1))) % m = worth (t.take (wideN m - 1)) := by
      rw [Nat.add_comm, Nat.add_mul_mod_self_right, Nat.mod_eq_of_lt r0]
    have er : restB m (worth (t.take (wideN m - 1))) = t.take (wideN m - 1) := by
      unfold restB
      by_cases w0 : wideN m = 0
      · rw [if_neg (by have := short_zero w0 hm; subst this; have : shortN 1 = 0 := by decide
                       omega), w0]
        simp [fig]
      · have : worth (t.take (wideN m - 1)) < shortN m := Nat.not_le.mp fun z => h3 ⟨by omega, z⟩
        rw [if_pos this]
        exact fw
    refine ⟨t.drop (wideN m - 1), ?_, ?_⟩
    · unfold wordB
      rw [d1, d2, er, List.append_assoc, List.cons_append, List.take_append_drop]
    · rw [word_len, d1, d2, er, List.length_take]
      omega
theorem word_pre {m : Nat} (hm : 1 ≤ m) {a b : Nat} {p q : List Bool} (h : wordB m a ++ p = wordB m b ++ q) : a = b ∧ p = q := by
  have e1 := rd_word m hm a p
  have e2 := rd_word m hm b q
  rw [h, e2] at e1
  have e3 : b = a := congrArg (·.1) (Option.some.inj e1)
  subst e3
  exact ⟨rfl, List.append_cancel_left h⟩
theorem word_pos (m n : Nat) : 1 ≤ (wordB m n).length := by
  rw [word_len]
  generalize n / m = k
  omega
theorem ones_at : ∀ (l : List Bool) (i : Nat), i ≤ onesN l → (l[i]? = some true ↔ i < onesN l)
  | [], i, h => by
    have e : onesN [] = 0 := rfl
    rw [e]
    simp
  | false :: r, i, h => by
    have e : onesN (false :: r) = 0 := rfl
    rw [e] at h ⊢
    have : i = 0 := by omega
    subst this
    simp
  | true :: r, 0, h => by
    have e : onesN (true :: r) = onesN r + 1 := rfl
    rw [e]
    simp
  | true :: r, i + 1, h => by
    have e : onesN (true :: r) = onesN r + 1 := rfl
    rw [e] at h ⊢
    have ih := ones_at r i (by omega)
    rw [List.getElem?_cons_succ, ih]
    omega
theorem ones_le (l : List Bool) : onesN l ≤ l.length := by
  induction l with
  | nil => exact Nat.le_refl _
  | cons b r ih =>
    cases b
    · exact Nat.zero_le _
    · show onesN r + 1 ≤ r.length + 1
      omega
def bitN (t : List Bool) (i : Nat) : Nat := if t[i]? = some true then 1 else 0
theorem bitN_le (t : List Bool) (i : Nat) : bitN t i ≤ 1 := by
  unfold bitN
  split <;> omega
/-- what the first figures tell, those that lack being 0 -/
def pvN (t : List Bool) : Nat → Nat
  | 0 => 0
  | i + 1 => 2 * pvN t i + bitN t i
theorem pvN_eq (t : List Bool) : ∀ i, i ≤ t.length → pvN t i = worth (t.take i)
  | 0, _ => by simp [pvN, worth]
  | i + 1, h => by
    have ih := pvN_eq t i (by omega)
    have e : t[i]? = some t[i] := List.getElem?_eq_getElem (by omega)
    rw [pvN, ih, take_more e, worth_snoc]
    unfold bitN
    rw [e]
    cases t[i] <;> rfl
theorem pvN_lt (t : List Bool) : ∀ i, pvN t i < 2 ^ i
  | 0 => Nat.one_pos
  | i + 1 => by
    have ih := pvN_lt t i
    have := bitN_le t i
    rw [pvN, Nat.pow_succ]
    omega
/-- the same with figures that may lack, as the program reckons -/
theorem rd_pv (m : Nat) (l : List Bool) : rd m l =
    (if l.length ≤ onesN l then none else
      if 0 < wideN m ∧ shortN m ≤ pvN (l.drop (onesN l + 1)) (wideN m - 1) then
        (if onesN l + 1 + (wideN m - 1) + 1 ≤ l.length then some (onesN l * m + (2 * pvN (l.drop (onesN l + 1)) (wideN m - 1) + bitN (l.drop (onesN l + 1)) (wideN m - 1) - shortN m), onesN l + 1 + (wideN m - 1) + 1) else none)
      else (if onesN l + 1 + (wideN m - 1) ≤ l.length then some (onesN l * m + pvN (l.drop (onesN l + 1)) (wideN m - 1), onesN l + 1 + (wideN m - 1)) else none)) := by
  unfold rd
  simp only
  by_cases h1 : l.length ≤ onesN l
  · rw [if_pos h1, if_pos h1]
  rw [if_neg h1, if_neg h1]
  have tl : (l.drop (onesN l + 1)).length = l.length - (onesN l + 1) := List.length_drop
  by_cases h2 : (l.drop (onesN l + 1)).length < wideN m - 1
  · rw [if_pos h2]
    split
    · rw [if_neg (by omega)]
    · rw [if_neg (by omega)]
  rw [if_neg h2, pvN_eq _ _ (by omega)]
  by_cases h3 : 0 < wideN m ∧ shortN m ≤ worth ((l.drop (onesN l + 1)).take (wideN m - 1))
  · rw [if_pos h3, if_pos h3]
    by_cases h4 : (l.drop (onesN l + 1)).length < wideN m
    · rw [if_pos h4, if_neg (by omega)]
    · rw [if_neg h4]
      unfold bitN
      rw [if_pos (show onesN l + 1 + (wideN m - 1) + 1 ≤ l.length by omega)]
      rw [show onesN l + 1 + wideN m = onesN l + 1 + (wideN m - 1) + 1 by omega]
  · rw [if_neg h3, if_neg h3, if_pos (by omega)]
/-- the number whose word begins at a place, and where it ends -/
def feN (m : Nat) (l : List Bool) (b : Nat) : Option (Nat × Nat) := (rd m (l.drop b)).map fun p => (p.1, b + p.2)
theorem rd_le {m : Nat} {l : List Bool} {n e : Nat} (hm : 1 ≤ m) (h : rd m l = some (n, e)) : 1 ≤ e ∧ e ≤ l.length := by
  obtain ⟨post, rfl, rfl⟩ := rd_some m hm l n e h
  exact ⟨word_pos m n, by rw [List.length_append]; omega⟩
/-- all words that stand one behind the other, and where each ends -/
def cutsF (m : Nat) : Nat → List Bool → Nat → List (Nat × Nat)
  | 0, _, _ => []
  | f + 1, l, b => match rd m l with
    | none => []
    | some (n, e) => (n, b + e) :: cutsF m f (l.drop e) (b + e)
def cuts (m : Nat) (l : List Bool) : List (Nat × Nat) := cutsF m (l.length + 1) l 0
theorem cutsF_none {m : Nat} {l : List Bool} (h : rd m l = none) (f b : Nat) : cutsF m f l b = [] := by
  cases f with
  | zero => rfl
  | succ f => rw [cutsF, h]
theorem cutsF_some {m : Nat} {l : List Bool} {n e : Nat} (h : rd m l = some (n, e)) (f b : Nat) : cutsF m (f + 1) l b = (n, b + e) :: cutsF m f (l.drop e) (b + e) := by
  rw [cutsF, h]
theorem cutsF_fuel {m : Nat} (hm : 1 ≤ m) : ∀ (f g : Nat) (l : List Bool) (b : Nat), l.length < f → l.length < g → cutsF m f l b = cutsF m g l b
  | 0, _, _, _, h, _ => by omega
  | _ + 1, 0, _, _, _, h => by omega
  | f + 1, g + 1, l, b, h1, h2 => by
    cases h : rd m l with
    | none => rw [cutsF_none h, cutsF_none h]
    | some p =>
      obtain ⟨n, e⟩ := p
      obtain ⟨e1, e2⟩ := rd_le hm h
      rw [cutsF_some h, cutsF_some h]
      rw [cutsF_fuel hm f g (l.drop e) (b + e) (by rw [List.length_drop]; omega) (by rw [List.length_drop]; omega)]
theorem rd_nil (m : Nat) : rd m [] = none := by
  unfold rd
  simp
theorem cuts_word {m : Nat} (hm : 1 ≤ m) (n : Nat) : cuts m (wordB m n) = [(n, (wordB m n).length)] := by
  have h := rd_word m hm n []
  rw [List.append_nil] at h
  unfold cuts
  rw [cutsF_some h, List.drop_length, cutsF_none (rd_nil m), Nat.zero_add]
/-! ### words of greater numbers are greater -/
def ltB (a b : List Bool) : Prop := ∃ c p q, a = c ++ false :: p ∧ b = c ++ true :: q
theorem worth_ltB : ∀ (a b : List Bool) (p q : List Bool), a.length = b.length → worth a < worth b → ltB (a ++ p) (b ++ q)
  | [], b, p, q, hl, h => by
    cases b with
    | nil => exact absurd h (by decide)
    | cons => cases hl
  | x :: a, [], p, q, hl, h => by cases hl
  | x :: a, y :: b, p, q, hl, h => by
    have hl' : a.length = b.length := by simpa using hl
    rw [worth, worth, hl'] at h
    have h1 := worth_lt a
    have h2 := worth_lt b
    rw [hl'] at h1
    cases x <;> cases y
    · obtain ⟨c, p', q', e1, e2⟩ := worth_ltB a b p q hl' (by simpa using h)
      exact ⟨false :: c, p', q', by rw [List.cons_append, e1]; rfl, by rw [List.cons_append, e2]; rfl⟩
    · exact ⟨[], a ++ p, b ++ q, rfl, rfl⟩
    · simp at h
      omega
    · obtain ⟨c, p', q', e1, e2⟩ := worth_ltB a b p q hl' (by simpa using h)
      exact ⟨true :: c, p', q', by rw [List.cons_append, e1]; rfl, by rw [List.cons_append, e2]; rfl⟩
theorem ltB_pre (c : List Bool) {a b : List Bool} (h : ltB a b) : ltB (c ++ a) (c ++ b) := by
  obtain ⟨d, p, q, rfl, rfl⟩ := h
  exact ⟨c ++ d, p, q, by rw [List.append_assoc], by rw [List.append_assoc]⟩
theorem rest_ltB {m r s : Nat} (hm : 1 ≤ m) (hs : s < m) (h : r < s) : ltB (restB m r) (restB m s) := by
  have hsa := @short_add m
  unfold restB
  by_cases c1 : s < shortN m
  · have w1 : 1 ≤ wideN m := by
      refine Nat.not_lt.mp fun z => ?_
      have e := short_zero (show wideN m = 0 by omega) hm
      subst e
      have : shortN 1 = 0 := by decide
      omega
    have hh := short_half w1
    rw [if_pos (by omega), if_pos c1]
    have := worth_ltB (fig r (wideN m - 1)) (fig s (wideN m - 1)) [] [] (by rw [fig_len, fig_len]) (by rw [worth_fig, worth_fig, Nat.mod_eq_of_lt (by omega), Nat.mod_eq_of_lt (by omega)]; exact h)
    simpa using this
  · rw [if_neg c1]
    by_cases c2 : r < shortN m
    · rw [if_pos c2]
      have w1 : 1 ≤ wideN m := by
        refine Nat.not_lt.mp fun z => ?_
        have e := short_zero (show wideN m = 0 by omega) hm
        subst e
        have : shortN 1 = 0 := by decide
        omega
      have hh := short_half w1
      have ph := pow_half w1
      obtain ⟨d, hd⟩ : ∃ d, wideN m = d + 1 := ⟨wideN m - 1, by omega⟩
      rw [hd, fig_snoc, Nat.add_sub_cancel]
      rw [hd, Nat.add_sub_cancel] at hh ph
      have := worth_ltB (fig r d) (fig ((s + shortN m) / 2) d) [] [(s + shortN m) % 2 == 1] (by rw [fig_len, fig_len]) (by
        rw [worth_fig, worth_fig, Nat.mod_eq_of_lt (by omega), Nat.mod_eq_of_lt (by rw [hd] at hsa; omega)]
        omega)
      simpa using this
    · rw [if_neg c2]
      have := worth_ltB (fig (r + shortN m) (wideN m)) (fig (s + shortN m) (wideN m)) [] [] (by rw [fig_len, fig_len]) (by rw [worth_fig, worth_fig, Nat.mod_eq_of_lt (by omega), Nat.mod_eq_of_lt (by omega)]; omega)
      simpa using this
theorem word_ltB {m a b : Nat} (hm : 1 ≤ m) (h : a < b) : ltB (wordB m a) (wordB m b) := by
  have ha := Nat.div_add_mod' a m
  have hb := Nat.div_add_mod' b m
  have ra := Nat.mod_lt a (show m > 0 by omega)
  have rb := Nat.mod_lt b (show m > 0 by omega)
  have hle : a / m ≤ b / m := Nat.div_le_div_right (by omega)
  unfold wordB
  by_cases c : a / m = b / m
  · rw [c]
    refine ltB_pre _ ?_
    have := ltB_pre [false] (rest_ltB (m := m) (r := a % m) (s := b % m) hm rb (by rw [c] at ha; omega))
    simpa using this
  · obtain ⟨d, hd⟩ : ∃ d, b / m = a / m + (d + 1) := ⟨b / m - a / m - 1, by omega⟩
    rw [hd, ← List.replicate_append_replicate, List.append_assoc]
    refine ltB_pre _ ⟨[], restB m (a % m), List.replicate d true ++ false :: restB m (b % m), rfl, ?_⟩
    rw [List.replicate_succ]
    rfl
theorem ltB_codes {a b : List Bool} (h : ltB a b) : a.map sg < b.map sg := by
  obtain ⟨c, p, q, rfl, rfl⟩ := h
  rw [List.map_append, List.map_append]
  induction c with
  | nil =>
    show (48 :: p.map sg : List Nat) < 49 :: q.map sg
    exact List.Lex.rel (by decide)
  | cons x c ih => exact List.Lex.cons ih
theorem codes_irrefl (a : List Nat) : ¬ a < a := List.lt_irrefl a
theorem ltB_not {a b : List Bool} (h : ltB a b) : ¬ b.map sg < a.map sg := fun z => List.lt_irrefl _ (List.lt_trans (ltB_codes h) z)
/-- where the last word ends -/
def endOf (r : List (Nat × Nat)) : Nat := (r.getLast?.map (·.2)).getD 0
theorem endOf_snoc (r : List (Nat × Nat)) (x : Nat × Nat) : endOf (r ++ [x]) = x.2 := by
  unfold endOf
  rw [List.getLast?_concat]
  rfl
/-- vs are tuples of these pairs -/
structure PrAt (H : Hp) (vs : List V) (r : List (Nat × Nat)) : Prop where
  len : vs.length = r.length
  at_ : ∀ (i : Nat) (x : Nat × Nat), r[i]? = some x → ∃ t, vs[i]? = some (.ref t) ∧ H t = some (.tup [.int (x.1 : Nat), .int (x.2 : Nat)])
theorem PrAt.same {H H' : Hp} {vs : List V} {r : List (Nat × Nat)} (h : PrAt H vs r) (s : Same H H') : PrAt H' vs r := ⟨h.len, fun i x e => by
  obtain ⟨t, a, b⟩ := h.at_ i x e
  exact ⟨t, a, s _ _ b⟩⟩
theorem PrAt.snoc {H : Hp} {vs : List V} {r : List (Nat × Nat)} {t : Addr} {n e : Nat} (h : PrAt H vs r) (ht : H t = some (.tup [.int (n : Nat), .int (e : Nat)])) : PrAt H (vs ++ [.ref t]) (r ++ [(n, e)]) := by
  refine ⟨by rw [List.length_append, List.length_append, h.len]; rfl, fun i x hx => ?_⟩
  by_cases hi : i < r.length
  · rw [List.getElem?_append_left hi] at hx
    obtain ⟨t', a, b⟩ := h.at_ i x hx
    exact ⟨t', by rw [List.getElem?_append_left (by rw [h.len]; exact hi)]; exact a, b⟩
  · have hi2 : i < (r ++ [(n, e)]).length := (List.getElem?_eq_some_iff.mp hx).1
    rw [List.length_append, List.length_singleton] at hi2
    have : i = r.length := by omega
    subst this
    rw [List.getElem?_append_right (Nat.le_refl _), Nat.sub_self] at hx
    cases Option.some.inj hx
    exact ⟨t, by rw [← h.len, List.getElem?_append_right (Nat.le_refl _), Nat.sub_self]; rfl, ht⟩
def prD (r : List (Nat × Nat)) : List PyData := r.map fun p => .tuple [.int (p.1 : Nat), .int (p.2 : Nat)]
theorem PrAt.dpAll {K : PySem.W.Frag} {H : Hp} : ∀ {vs : List V} {r : List (Nat × Nat)}, PrAt H vs r → DpAll K H vs (prD r)
  | [], [], _ => .nil
  | [], _ :: _, h => by have := h.len; cases this
  | _ :: _, [], h => by have := h.len; cases this
  | v :: vs, x :: r, h => by
    obtain ⟨t, a, b⟩ := h.at_ 0 x rfl
    cases Option.some.inj a
    have h' : PrAt H vs r := ⟨by have := h.len; simpa using this, fun i y e => h.at_ (i + 1) y e⟩
    exact .cons (.tup (.inl (.inl b)) (.cons (.int _) (.cons (.int _) .nil))) (PrAt.dpAll h')
theorem prD_ok (r : List (Nat × Nat)) : OkN 2 (.list (prD r)) := by
  intro d hd
  obtain ⟨p, _, rfl⟩ := List.mem_map.mp hd
  intro d hd
  simp only [List.mem_cons, List.not_mem_nil, or_false] at hd
  rcases hd with rfl | rfl <;> trivial
theorem rd_bound {m : Nat} (hm : 1 ≤ m) {l : List Bool} {b n e : Nat} (hb : b ≤ l.length) (h : feN m l b = some (n, e)) : b < e ∧ e ≤ l.length ∧ ∃ d, rd m (l.drop b) = some (n, d) ∧ e = b + d := by
  unfold feN at h
  cases h2 : rd m (l.drop b) with
  | none => rw [h2] at h; cases h
  | some p =>
    obtain ⟨n', d⟩ := p
    rw [h2] at h
    obtain ⟨rfl, rfl⟩ : n' = n ∧ b + d = e := by
      have := Option.some.inj h
      exact ⟨congrArg (·.1) this, congrArg (·.2) this⟩
    have := rd_le hm h2
    rw [List.length_drop] at this
    exact ⟨by omega, by omega, d, rfl, rfl⟩
theorem fe_none {m : Nat} {l : List Bool} {b : Nat} (h : feN m l b = none) : rd m (l.drop b) = none := by
  unfold feN at h
  cases h2 : rd m (l.drop b) with
  | none => rfl
  | some p => rw [h2] at h; cases h
theorem cuts_step {m : Nat} (hm : 1 ≤ m) {l : List Bool} {b n e : Nat} (hb : b ≤ l.length) (h : feN m l b = some (n, e)) :
    cutsF m ((l.drop b).length + 1) (l.drop b) b = (n, e) :: cutsF m ((l.drop e).length + 1) (l.drop e) e := by
  obtain ⟨h1, h2, d, h3, rfl⟩ := rd_bound hm hb h
  rw [cutsF_some h3, List.drop_drop]
  rw [cutsF_fuel hm (l.drop b).length ((l.drop (b + d)).length + 1) (l.drop (b + d)) (b + d) (by rw [List.length_drop, List.length_drop]; omega) (by omega)]
theorem cutsF_len {m : Nat} (hm : 1 ≤ m) : ∀ (f : Nat) (l : List Bool) (b : Nat), (cutsF m f l b).length ≤ l.length
  | 0, _, _ => Nat.zero_le _
  | f + 1, l, b => by
    cases h : rd m l with
    | none => rw [cutsF_none h]; exact Nat.zero_le _
    | some p =>
      obtain ⟨n, e⟩ := p
      obtain ⟨e1, e2⟩ := rd_le hm h
      have := cutsF_len hm f (l.drop e) (b + e)
      rw [cutsF_some h, List.length_cons]
      rw [List.length_drop] at this
      omega
theorem cuts_len {m : Nat} (hm : 1 ≤ m) (l : List Bool) : (cuts m l).length ≤ l.length := cutsF_len hm _ l 0
end St
namespace St
open PySem PySem.Spec PyProof.Rows L2
/-! ### readers within words: their standings, sign by sign -/
abbrev St3 := Nat × Nat × Nat
/-- the standing behind a sign -/
def nxS (m : Nat) (t : Nat × Nat × Nat) (b : Bool) : Nat × Nat × Nat :=
  if t.1 < 2 ∧ b = true then (1, 0, 0) else if wideN m = 0 then (0, 0, 0) else
    if (if t.1 = 2 then t.2.2 + 1 else t.2.2) = wideN m ∨ ((if t.1 = 2 then t.2.2 + 1 else t.2.2) = wideN m - 1 ∧ (if t.1 = 2 then 2 * t.2.1 + b.toNat else t.2.1) < shortN m) then (0, 0, 0)
    else (2, (if t.1 = 2 then 2 * t.2.1 + b.toNat else t.2.1), (if t.1 = 2 then t.2.2 + 1 else t.2.2))
abbrev AtE : St3 := (0, 0, 0)
def run (m : Nat) (t : St3) (l : List Bool) : St3 := l.foldl (nxS m) t
theorem run_app (m : Nat) (t : St3) (a b : List Bool) : run m t (a ++ b) = run m (run m t a) b := List.foldl_append
theorem nx_le2 (m : Nat) (t : St3) (b : Bool) : (nxS m t b).1 ≤ 2 := by
  unfold nxS
  repeat' split
  all_goals simp
theorem snocL {α : Type} (l : List α) : l = [] ∨ ∃ p b, l = p ++ [b] := by
  rcases List.eq_nil_or_concat l with h | ⟨p, b, h⟩
  · exact .inl h
  · exact .inr ⟨p, b, by rw [h, List.concat_eq_append]⟩
theorem run_le2 (m : Nat) (l : List Bool) : (run m AtE l).1 ≤ 2 := by
  rcases snocL l with rfl | ⟨p, b, rfl⟩
  · exact Nat.zero_le _
  · rw [run_app]
    exact nx_le2 ..
theorem run_ones (m k : Nat) : run m AtE (List.replicate (k + 1) true) = (1, 0, 0) := by
  induction k with
  | zero => rfl
  | succ k ih =>
    rw [List.replicate_succ', run_app, ih]
    rfl
theorem short_one {m : Nat} (h : wideN m = 1) : shortN m = 0 := by
  have h1 := wideN_lt m 0 (by omega)
  unfold shortN
  rw [h]
  omega
theorem nx_zero {m : Nat} {t : St3} (ht : t.1 < 2) (h2 : t.2 = (0, 0)) : nxS m t false = if wideN m = 0 then AtE else (2, 0, 0) := by
  obtain ⟨a, b, c⟩ := t
  cases h2
  unfold nxS
  have h2 : ¬ (a = 2) := by have : a < 2 := ht; omega
  simp only [Bool.false_eq_true, and_false, if_false, h2]
  by_cases c0 : wideN m = 0
  · rw [if_pos c0, if_pos c0]
  · rw [if_neg c0, if_neg c0, if_neg]
    rintro (z | ⟨z1, z2⟩)
    · omega
    · rw [short_one (by omega)] at z2
      omega
theorem run_zero (m k : Nat) : run m AtE (List.replicate k true ++ [false]) = if wideN m = 0 then AtE else (2, 0, 0) := by
  rw [run_app]
  cases k with
  | zero => exact nx_zero (t := (0, 0, 0)) (by decide) rfl
  | succ k =>
    rw [run_ones]
    exact nx_zero (t := (1, 0, 0)) (by decide) rfl
theorem nx_bits {m r f : Nat} (hc : 1 ≤ wideN m) (b : Bool) : nxS m (2, r, f) b = if f + 1 = wideN m ∨ (f + 1 = wideN m - 1 ∧ 2 * r + b.toNat < shortN m) then AtE else (2, 2 * r + b.toNat, f + 1) := by
  unfold nxS
  rw [if_neg (by intro z; have := z.1; omega), if_neg (by omega)]
  rfl
theorem worth_snoc' (l : List Bool) (b : Bool) : worth (l ++ [b]) = 2 * worth l + b.toNat := by
  rw [worth_snoc]
  cases b <;> rfl
theorem run_bits {m : Nat} (hc : 1 ≤ wideN m) : ∀ (n : Nat) (p : List Bool), p.length = n → n ≤ wideN m - 1 → (n < wideN m - 1 ∨ shortN m ≤ worth p) → run m (2, 0, 0) p = (2, worth p, n)
  | 0, p, h, _, _ => by
    cases List.length_eq_zero_iff.mp h
    rfl
  | n + 1, p, h, h1, h2 => by
    rcases snocL p with rfl | ⟨q, b, rfl⟩
    · cases h
    rw [List.length_append, List.length_singleton] at h
    rw [run_app, run_bits hc n q (by omega) (by omega) (.inl (by omega))]
    show nxS m (2, worth q, n) b = _
    rw [nx_bits hc, ← worth_snoc', if_neg]
    rintro (z | ⟨z1, z2⟩) <;> omega
theorem run_end1 {m : Nat} (hm : 1 ≤ wideN m) {p : List Bool} (h : p.length = wideN m - 1) (h2 : worth p < shortN m) : run m (2, 0, 0) p = AtE := by
  rcases snocL p with rfl | ⟨q, b, rfl⟩
  · have : wideN m = 1 := by simp at h; omega
    rw [short_one this] at h2
    omega
  rw [List.length_append, List.length_singleton] at h
  rw [run_app, run_bits hm q.length q rfl (by omega) (.inl (by omega))]
  show nxS m (2, worth q, q.length) b = _
  rw [nx_bits hm, ← worth_snoc', if_pos (.inr ⟨h, h2⟩)]
theorem run_end2 {m : Nat} (hm : 1 ≤ wideN m) {p : List Bool} (h : p.length = wideN m) (h2 : shortN m ≤ worth (p.take (wideN m - 1))) : run m (2, 0, 0) p = AtE := by
  rcases snocL p with rfl | ⟨q, b, rfl⟩
  · simp at h; omega
  rw [List.length_append, List.length_singleton] at h
  rw [List.take_left' (by omega)] at h2
  rw [run_app, run_bits hm q.length q rfl (by omega) (.inr h2)]
  show nxS m (2, worth q, q.length) b = _
  rw [nx_bits hm, if_pos (.inl (by omega))]
/-- where a reader stands in its first word -/
theorem run_take {m : Nat} {l : List Bool} {i : Nat} (h : onesN l < i) (hi : i ≤ l.length) : run m AtE (l.take i) = if wideN m = 0 then run m AtE ((l.drop (onesN l + 1)).take (i - (onesN l + 1))) else run m (2, 0, 0) ((l.drop (onesN l + 1)).take (i - (onesN l + 1))) := by
  have e : l.take i = (List.replicate (onesN l) true ++ [false]) ++ (l.drop (onesN l + 1)).take (i - (onesN l + 1)) := by
    have hs := ones_split l (by omega)
    have e1 : (List.replicate (onesN l) true ++ [false]).length = onesN l + 1 := by simp
    have e2 : l = (List.replicate (onesN l) true ++ [false]) ++ l.drop (onesN l + 1) := by
      rw [List.append_assoc]
      exact hs
    have e3 : l.take i = ((List.replicate (onesN l) true ++ [false]) ++ l.drop (onesN l + 1)).take i := by rw [← e2]
    rw [e3, List.take_append, e1, List.take_of_length_le (by rw [e1]; omega)]
  rw [e, run_app, run_zero]
  split <;> rfl
theorem run_take_ones {m : Nat} {l : List Bool} {i : Nat} (h : i ≤ onesN l) (hi : 0 < i) : run m AtE (l.take i) ≠ AtE := by
  have ho : ∀ (l : List Bool) (i : Nat), i ≤ onesN l → l.take i = List.replicate i true := by
    intro l
    induction l with
    | nil => intro i h; cases Nat.le_zero.mp h; rfl
    | cons b r ih =>
      intro i h
      cases i with
      | zero => rfl
      | succ i =>
        cases b
        · exact absurd h (by show ¬ i + 1 ≤ 0; omega)
        · rw [List.take_succ_cons, List.replicate_succ, ih i (by have : i + 1 ≤ onesN r + 1 := h; omega)]
  obtain ⟨j, rfl⟩ : ∃ j, i = j + 1 := ⟨i - 1, by omega⟩
  rw [ho l _ h, run_ones]
  decide
theorem two_ne (a b : Nat) : ((2, a, b) : St3) ≠ AtE := fun z => by cases z
/-- a word is read: the reader is at an end just behind it -/
theorem run_rd {m : Nat} (hm : 1 ≤ m) (l : List Bool) : (∀ n e, rd m l = some (n, e) → run m AtE (l.take e) = AtE ∧ ∀ i, 0 < i → i < e → run m AtE (l.take i) ≠ AtE) ∧ (rd m l = none → ∀ i, 0 < i → i ≤ l.length → run m AtE (l.take i) ≠ AtE) := by
  have bits : ∀ p : List Bool, 1 ≤ wideN m → p.length ≤ wideN m - 1 → (p.length < wideN m - 1 ∨ shortN m ≤ worth p) → run m (2, 0, 0) p ≠ AtE := fun p h1 h2 h3 => by
    rw [run_bits h1 p.length p rfl h2 h3]
    exact two_ne _ _
  have tl : (l.drop (onesN l + 1)).length = l.length - (onesN l + 1) := List.length_drop
  have key : rd m l = if l.length ≤ onesN l then none else if (l.drop (onesN l + 1)).length < wideN m - 1 then none else
    if 0 < wideN m ∧ shortN m ≤ worth ((l.drop (onesN l + 1)).take (wideN m - 1)) then (if (l.drop (onesN l + 1)).length < wideN m then none else some (onesN l * m + (2 * worth ((l.drop (onesN l + 1)).take (wideN m - 1)) + (if (l.drop (onesN l + 1))[wideN m - 1]? = some true then 1 else 0) - shortN m), onesN l + 1 + wideN m))
    else some (onesN l * m + worth ((l.drop (onesN l + 1)).take (wideN m - 1)), onesN l + 1 + (wideN m - 1)) := rfl
  rw [key]
  clear key
  obtain ⟨k, hk⟩ : ∃ k, onesN l = k := ⟨_, rfl⟩
  have ones : ∀ i, i ≤ k → 0 < i → run m AtE (l.take i) ≠ AtE := fun i h h0 => run_take_ones (by omega) h0
  have rt : ∀ i, k < i → i ≤ l.length → run m AtE (l.take i) = if wideN m = 0 then run m AtE ((l.drop (k + 1)).take (i - (k + 1))) else run m (2, 0, 0) ((l.drop (k + 1)).take (i - (k + 1))) := fun i h1 h2 => by
    rw [← hk] at h1 ⊢
    exact run_take h1 h2
  rw [hk] at tl ⊢
  clear hk
  generalize l.drop (k + 1) = t at tl rt ⊢
  have lt : ∀ i, (t.take i).length = min i t.length := fun i => List.length_take
  by_cases h1 : l.length ≤ k
  · rw [if_pos h1]
    exact ⟨fun n e z => (by cases z), fun _ i a b => ones i (by omega) a⟩
  rw [if_neg h1]
  by_cases h2 : t.length < wideN m - 1
  · rw [if_pos h2]
    refine ⟨fun n e z => (by cases z), fun _ i a b => ?_⟩
    by_cases hi : i ≤ k
    · exact ones i hi a
    rw [rt i (by omega) b, if_neg (by omega)]
    have := lt (i - (k + 1))
    exact bits _ (by omega) (by omega) (.inl (by omega))
  rw [if_neg h2]
  by_cases h3 : 0 < wideN m ∧ shortN m ≤ worth (t.take (wideN m - 1))
  · rw [if_pos h3]
    have lower : ∀ i, 0 < i → i ≤ k + 1 + (wideN m - 1) → i ≤ l.length → run m AtE (l.take i) ≠ AtE := fun i a b c => by
      by_cases hi : i ≤ k
      · exact ones i hi a
      rw [rt i (by omega) c, if_neg (by omega)]
      have := lt (i - (k + 1))
      refine bits _ (by omega) (by omega) ?_
      by_cases e : i - (k + 1) = wideN m - 1
      · rw [e]
        exact .inr h3.2
      · exact .inl (by omega)
    by_cases h4 : t.length < wideN m
    · rw [if_pos h4]
      exact ⟨fun n e z => (by cases z), fun _ i a b => lower i a (by omega) b⟩
    · rw [if_neg h4]
      refine ⟨fun n e z => ?_, fun z => by cases z⟩
      have he : e = k + 1 + wideN m := ((Prod.mk.inj (Option.some.inj z)).2).symm
      subst he
      refine ⟨?_, fun i a b => lower i a (by omega) (by omega)⟩
      rw [rt _ (by omega) (by omega), if_neg (by omega), Nat.add_sub_cancel_left]
      refine run_end2 h3.1 (by rw [lt]; omega) ?_
      rw [List.take_take, Nat.min_eq_left (by omega)]
      exact h3.2
  · rw [if_neg h3]
    refine ⟨fun n e z => ?_, fun z => by cases z⟩
    have he : e = k + 1 + (wideN m - 1) := ((Prod.mk.inj (Option.some.inj z)).2).symm
    subst he
    refine ⟨?_, fun i a b => ?_⟩
    · rw [rt _ (by omega) (by omega), Nat.add_sub_cancel_left]
      by_cases c0 : wideN m = 0
      · rw [if_pos c0, c0]
        rfl
      · rw [if_neg c0]
        exact run_end1 (by omega) (by rw [lt]; omega) (by omega)
    · by_cases hi : i ≤ k
      · exact ones i hi a
      rw [rt i (by omega) (by omega), if_neg (by omega)]
      have := lt (i - (k + 1))
      exact bits _ (by omega) (by omega) (.inl (by omega))
/-! ### the ends of a text are the places where the reader is at an end -/
theorem mem_ends {m : Nat} (hm : 1 ≤ m) : ∀ (f : Nat) (l : List Bool) (b e : Nat), l.length < f → (e ∈ (cutsF m f l b).map (fun x => x.2) ↔ b < e ∧ e ≤ b + l.length ∧ run m AtE (l.take (e - b)) = AtE)
  | 0, l, b, e, h => by omega
  | f + 1, l, b, e, h => by
    obtain ⟨r1, r2⟩ := run_rd hm l
    cases hr : rd m l with
    | none =>
      rw [cutsF_none hr]
      refine ⟨fun z => (by cases z), fun ⟨z1, z2, z3⟩ => ?_⟩
      exact absurd z3 (r2 hr _ (by omega) (by omega))
    | some p =>
      obtain ⟨n, d⟩ := p
      obtain ⟨d1, d2⟩ := rd_le hm hr
      obtain ⟨q1, q2⟩ := r1 n d hr
      rw [cutsF_some hr, List.map_cons, List.mem_cons, mem_ends hm f (l.drop d) (b + d) e (by rw [List.length_drop]; omega), List.length_drop]
      have split : ∀ e, b + d < e → run m AtE (l.take (e - b)) = run m AtE ((l.drop d).take (e - (b + d))) := fun e he => by
        rw [show e - b = d + (e - (b + d)) by omega, List.take_add, run_app, q1]
      constructor
      · rintro (rfl | ⟨z1, z2, z3⟩)
        · exact ⟨by omega, by omega, by rw [Nat.add_sub_cancel_left]; exact q1⟩
        · exact ⟨by omega, by omega, by rw [split e z1]; exact z3⟩
      · rintro ⟨z1, z2, z3⟩
        by_cases c : e = b + d
        · exact .inl c
        · by_cases c2 : b + d < e
          · exact .inr ⟨c2, by omega, by rw [← split e c2]; exact z3⟩
          · exact absurd z3 (q2 _ (by omega) (by omega))
theorem ends_gt {m : Nat} (hm : 1 ≤ m) : ∀ (f : Nat) (l : List Bool) (b : Nat), l.length < f → ((cutsF m f l b).map (fun x => x.2)).Pairwise (· < ·)
  | 0, l, b, h => by omega
  | f + 1, l, b, h => by
    cases hr : rd m l with
    | none =>
      rw [cutsF_none hr]
      exact .nil
    | some p =>
      obtain ⟨n, d⟩ := p
      obtain ⟨d1, d2⟩ := rd_le hm hr
      rw [cutsF_some hr, List.map_cons]
      have hl : (l.drop d).length < f := by rw [List.length_drop]; omega
      refine .cons (fun e he => ?_) (ends_gt hm f _ _ hl)
      exact ((mem_ends hm f _ _ e hl).mp he).1
/-- the places behind the words of a text that is read from a place on -/
def endsN (m : Nat) (l : List Bool) (b : Nat) : List Nat := (cutsF m ((l.drop b).length + 1) (l.drop b) b).map (fun x => x.2)
theorem mem_endsN {m : Nat} (hm : 1 ≤ m) {l : List Bool} {b e : Nat} (hb : b ≤ l.length) : e ∈ endsN m l b ↔ b < e ∧ e ≤ l.length ∧ run m AtE ((l.drop b).take (e - b)) = AtE := by
  unfold endsN
  rw [mem_ends hm _ _ _ _ (Nat.lt_succ_self _), List.length_drop]
  constructor
  · rintro ⟨a, b, c⟩; exact ⟨a, by omega, c⟩
  · rintro ⟨a, b, c⟩; exact ⟨a, by omega, c⟩
theorem endsN_asc {m : Nat} (hm : 1 ≤ m) (l : List Bool) (b : Nat) : (endsN m l b).Pairwise (· < ·) := ends_gt hm _ _ _ (Nat.lt_succ_self _)
/-- the last of some numbers, ascending, is the greatest -/
theorem last_is {l : List Nat} (h : l.Pairwise (· < ·)) {e : Nat} (he : e ∈ l) (hm : ∀ x ∈ l, x ≤ e) : l.getLast? = some e := by
  induction l with
  | nil => cases he
  | cons a r ih =>
    obtain ⟨h1, h2⟩ := List.pairwise_cons.mp h
    cases r with
    | nil =>
      rcases List.mem_cons.mp he with rfl | z
      · rfl
      · cases z
    | cons b r =>
      rw [List.getLast?_cons_cons]
      refine ih h2 ?_ fun x hx => hm x (List.mem_cons_of_mem _ hx)
      rcases List.mem_cons.mp he with rfl | z
      · have := h1 b List.mem_cons_self
        have := hm b (List.mem_cons_of_mem _ List.mem_cons_self)
        omega
      · exact z
/-- the last end of a text is its length just if it is a row of words -/
theorem row_iff {m : Nat} (hm : 1 ≤ m) (l : List Bool) : ((endsN m l 0).getLast?.getD 0 = l.length) ↔ run m AtE l = AtE := by
  have hme : ∀ e, e ∈ endsN m l 0 ↔ 0 < e ∧ e ≤ l.length ∧ run m AtE (l.take e) = AtE := fun e => by
    rw [mem_endsN hm (Nat.zero_le _)]
    rfl
  constructor
  · intro h
    cases hl : (endsN m l 0).getLast? with
    | none =>
      rw [hl] at h
      have : l = [] := List.length_eq_zero_iff.mp h.symm
      subst this
      rfl
    | some e =>
      rw [hl] at h
      obtain ⟨h1, h2, h3⟩ := (hme e).mp (List.mem_of_getLast? hl)
      have h' : e = l.length := h
      rw [h', List.take_length] at h3
      exact h3
  · intro h
    by_cases h0 : l = []
    · subst h0
      cases hl : (endsN m [] 0).getLast? with
      | none => rfl
      | some e =>
        obtain ⟨h1, h2, h3⟩ := (hme e).mp (List.mem_of_getLast? hl)
        simp at h2
        omega
    · have hp : 0 < l.length := List.length_pos_iff.mpr h0
      have he : l.length ∈ endsN m l 0 := (hme _).mpr ⟨hp, Nat.le_refl _, by rw [List.take_length]; exact h⟩
      rw [last_is (endsN_asc hm l 0) he fun x hx => ((hme x).mp hx).2.1]
      rfl
/-- words, one behind the other -/
theorem run_word {m : Nat} (hm : 1 ≤ m) (n : Nat) : run m AtE (wordB m n) = AtE := by
  have h := rd_word m hm n []
  rw [List.append_nil] at h
  have := ((run_rd hm (wordB m n)).1 _ _ h).1
  rwa [List.take_length] at this
/-! ### there are few standings -/
def Std (m : Nat) (t : St3) : Prop := t = AtE ∨ t = (1, 0, 0) ∨ (t.1 = 2 ∧ t.2.2 < wideN m ∧ t.2.1 < 2 ^ t.2.2)
theorem std_le {m : Nat} {t : St3} (h : Std m t) : t.1 ≤ 2 := by
  rcases h with rfl | rfl | ⟨h, _⟩
  · decide
  · decide
  · omega
theorem std_nx {m : Nat} {t : St3} (h : Std m t) (b : Bool) : Std m (nxS m t b) := by
  have low : ∀ t : St3, t.1 < 2 → t.2 = (0, 0) → Std m (nxS m t b) := fun t h1 h2 => by
    cases b
    · rw [nx_zero h1 h2]
      split
      · exact .inl rfl
      · exact .inr (.inr ⟨rfl, by show 0 < _; omega, by show 0 < 2 ^ 0; decide⟩)
    · unfold nxS
      rw [if_pos ⟨h1, rfl⟩]
      exact .inr (.inl rfl)
  rcases h with rfl | rfl | ⟨h1, h2, h3⟩
  · exact low _ (by show 0 < 2; decide) rfl
  · exact low _ (by show 1 < 2; decide) rfl
  · obtain ⟨a, r, f⟩ := t
    cases (show a = 2 from h1)
    rw [nx_bits (by omega)]
    split
    · exact .inl rfl
    · rename_i c
      have h2 : f < wideN m := h2
      have h3 : r < 2 ^ f := h3
      refine .inr (.inr ⟨rfl, ?_, ?_⟩)
      · show f + 1 < wideN m
        have : ¬ f + 1 = wideN m := fun z => c (.inl z)
        omega
      · show 2 * r + b.toNat < 2 ^ (f + 1)
        rw [Nat.pow_succ]
        have : b.toNat ≤ 1 := by cases b <;> decide
        omega
theorem std_run {m : Nat} : ∀ (l : List Bool) {t : St3}, Std m t → Std m (run m t l)
  | [], _, h => h
  | b :: l, _, h => std_run l (std_nx h b)
theorem nodup_bound : ∀ (n : Nat) (l : List Nat), l.Nodup → (∀ x ∈ l, x < n) → l.length ≤ n
  | 0, [], _, _ => Nat.le_refl _
  | 0, x :: l, _, h => by have := h x List.mem_cons_self; omega
  | n + 1, l, h, hb => by
    have h1 : (l.erase n).Nodup := h.sublist List.erase_sublist
    have h2 := nodup_bound n (l.erase n) h1 fun x hx => by
      have := hb x (List.mem_of_mem_erase hx)
      have : x ≠ n := fun z => by
        rw [z] at hx
        exact (h.mem_erase_iff.mp hx).1 rfl
      omega
    rw [List.length_erase] at h2
    split at h2 <;> omega
def codeS (t : St3) : Nat := t.1 * 512 + t.2.2 * 64 + t.2.1
theorem std_small {m : Nat} (h64 : m ≤ 64) {t : St3} (h : Std m t) : t.1 ≤ 2 ∧ t.2.2 < 8 ∧ t.2.1 < 64 := by
  have h6 := wide_64 h64
  rcases h with rfl | rfl | ⟨h1, h2, h3⟩
  · exact ⟨by decide, by decide, by decide⟩
  · exact ⟨by decide, by decide, by decide⟩
  · have : 2 ^ t.2.2 ≤ 2 ^ 6 := Nat.pow_le_pow_right (by decide) (by omega)
    exact ⟨by omega, by omega, by omega⟩
theorem nodup_map {α β : Type} {f : α → β} : ∀ {l : List α}, l.Nodup → (∀ x ∈ l, ∀ y ∈ l, f x = f y → x = y) → (l.map f).Nodup
  | [], _, _ => .nil
  | a :: l, h, hi => by
    obtain ⟨h1, h2⟩ := List.nodup_cons.mp h
    refine List.nodup_cons.mpr ⟨fun z => ?_, nodup_map h2 fun x hx y hy => hi x (List.mem_cons_of_mem _ hx) y (List.mem_cons_of_mem _ hy)⟩
    obtain ⟨y, hy, e⟩ := List.mem_map.mp z
    exact h1 (hi y (List.mem_cons_of_mem _ hy) a List.mem_cons_self e ▸ hy)
theorem std_len {m : Nat} (h64 : m ≤ 64) {l : List St3} (h : l.Nodup) (hs : ∀ t ∈ l, Std m t) : l.length ≤ 1536 := by
  have hn : (l.map codeS).Nodup := nodup_map h fun x hx y hy e => by
    have a := std_small h64 (hs x hx)
    have b := std_small h64 (hs y hy)
    unfold codeS at e
    have e1 : x.1 = y.1 := by omega
    have e2 : x.2.2 = y.2.2 := by omega
    have e3 : x.2.1 = y.2.1 := by omega
    exact Prod.ext e1 (Prod.ext e3 e2)
  have := nodup_bound 1536 _ hn fun x hx => by
    obtain ⟨t, ht, rfl⟩ := List.mem_map.mp hx
    have a := std_small h64 (hs t ht)
    unfold codeS
    omega
  rwa [List.length_map] at this
end St
namespace St
open PySem PySem.Spec PyProof.Rows L2
/-! ### reading by a dict of the ends of words, as the laws do it -/
theorem rest_inj {m r s : Nat} (hm : 1 ≤ m) (hr : r < m) (hs : s < m) (h : restB m r = restB m s) : r = s := by
  have e : wordB m r ++ [] = wordB m s ++ [] := by
    unfold wordB
    rw [Nat.div_eq_of_lt hr, Nat.div_eq_of_lt hs, Nat.mod_eq_of_lt hr, Nat.mod_eq_of_lt hs, h]
  exact (word_pre hm e).1
structure Known (m j : Nat) (kvs : List (Key × V)) : Prop where
  len : kvs.length ≤ j
  has : ∀ r, r < j → valV kvs (.inr (tx (restB m r))) = some (.int (r : Nat))
  no : ∀ w, (∀ r, r < j → restB m r ≠ w) → valV kvs (.inr (tx w)) = none
theorem Known.nil (m : Nat) : Known m 0 [] := ⟨Nat.le_refl _, fun r h => by omega, fun w _ => valV_nil⟩
theorem Known.more {m j : Nat} {kvs : List (Key × V)} (hm : 1 ≤ m) (hj : j < m) (h : Known m j kvs) : Known m (j + 1) (putK kvs (.inr (tx (restB m j))) (.int (j : Nat))) := by
  refine ⟨?_, ?_, ?_⟩
  · have := length_putK kvs (.inr (tx (restB m j))) (.int (j : Nat))
    have := h.len
    omega
  · intro r hr
    rw [valV_put]
    by_cases c : r = j
    · rw [if_pos (by rw [c]), c]
    · rw [if_neg (fun z => c (rest_inj hm (by omega) hj (tx_inj (Sum.inr.inj z)))), h.has r (by omega)]
  · intro w hw
    rw [valV_put, if_neg (fun z => hw j (by omega) (tx_inj (Sum.inr.inj z)).symm), h.no w fun r hr => hw r (by omega)]
theorem word_of {m k r : Nat} (hr : r < m) : wordB m (k * m + r) = List.replicate k true ++ false :: restB m r := by
  have d1 : (k * m + r) / m = k := by
    rw [Nat.add_comm, Nat.add_mul_div_right _ _ (by omega), Nat.div_eq_of_lt hr, Nat.zero_add]
  have d2 : (k * m + r) % m = r := by
    rw [Nat.add_comm, Nat.add_mul_mod_self_right, Nat.mod_eq_of_lt hr]
  unfold wordB
  rw [d1, d2]
theorem fe_hit {m r c a k : Nat} {l : List Bool} (hm : 1 ≤ m) (hr : r < m) (hk : onesN (l.drop a) = k) (h : (l.drop (a + k + 1)).take c = restB m r) (hc : a + k + 1 + c ≤ l.length) :
    feN m l a = some (k * m + r, a + k + 1 + c) := by
  have hs := ones_split (l.drop a) (by rw [List.length_drop]; omega)
  rw [hk, List.drop_drop, show a + (k + 1) = a + k + 1 by omega] at hs
  have e : l.drop a = wordB m (k * m + r) ++ (l.drop (a + k + 1)).drop c := by
    rw [word_of hr, List.append_assoc, List.cons_append, ← h, List.take_append_drop]
    exact hs
  have hl : (wordB m (k * m + r)).length = k + 1 + c := by
    rw [word_of hr, List.length_append, List.length_replicate, List.length_cons, ← h, List.length_take, List.length_drop]
    omega
  unfold feN
  rw [e, rd_word m hm, hl]
  show some (k * m + r, a + (k + 1 + c)) = _
  rw [show a + (k + 1 + c) = a + k + 1 + c by omega]
theorem fe_is {m a k n e : Nat} {l : List Bool} (hm : 1 ≤ m) (ha : a ≤ l.length) (hk : onesN (l.drop a) = k) (h : feN m l a = some (n, e)) :
    ∃ r c, r < m ∧ c ≤ wideN m ∧ e = a + k + 1 + c ∧ e ≤ l.length ∧ (l.drop (a + k + 1)).take c = restB m r := by
  obtain ⟨h1, h2, d, h3, rfl⟩ := rd_bound hm ha h
  obtain ⟨post, e1, e2⟩ := rd_some m hm _ _ _ h3
  have hk2 : k = n / m := by
    rw [← hk, e1]
    unfold wordB
    rw [List.append_assoc, List.cons_append, ones_rep]
  have hlen := word_len m n
  refine ⟨n % m, (restB m (n % m)).length, Nat.mod_lt _ (by omega), rest_len_le m _, by rw [e2, hlen, hk2]; omega, h2, ?_⟩
  have e3 : l.drop (a + k + 1) = restB m (n % m) ++ post := by
    rw [show a + k + 1 = a + (k + 1) by omega, ← List.drop_drop, e1, hk2]
    have : wordB m n ++ post = (List.replicate (n / m) true ++ [false]) ++ (restB m (n % m) ++ post) := by
      unfold wordB
      simp [List.append_assoc]
    rw [this]
    exact List.drop_left' (by simp)
  rw [e3, List.take_left' rfl]
theorem ones_more {l : List Bool} {a i : Nat} (h : i ≤ onesN (l.drop a)) : (l[a + i]? = some true) ↔ i < onesN (l.drop a) := by
  have := ones_at (l.drop a) i h
  rw [List.getElem?_drop] at this
  exact this
end St
namespace St
open PySem PySem.Spec PyProof.Rows L2
/-- the words of the rests -/
def restsV (m : Nat) : List V := (List.range m).map fun r => V.str (tx (restB m r))
theorem endsN_none {m : Nat} {l : List Bool} {a : Nat} (h : feN m l a = none) : endsN m l a = [] := by
  unfold endsN
  rw [cutsF_none (fe_none h)]
  rfl
theorem endsN_some {m : Nat} (hm : 1 ≤ m) {l : List Bool} {a n e : Nat} (ha : a ≤ l.length) (h : feN m l a = some (n, e)) : endsN m l a = e :: endsN m l e := by
  unfold endsN
  rw [cuts_step hm ha h]
  rfl
theorem endsN_end (m : Nat) (l : List Bool) : endsN m l l.length = [] := by
  unfold endsN
  rw [List.drop_length, cutsF_none (rd_nil m)]
  rfl
theorem strOk_tx (l : List Bool) : PyData.strOk (tx l) = true := by
  show (tx l).cps.all _ = true
  rw [← Array.all_toList, tx_list, List.all_eq_true]
  intro x hx
  obtain ⟨b, _, rfl⟩ := List.mem_map.mp hx
  cases b <;> decide +kernel
theorem txs_ok (n : Nat) (ls : List (List Bool)) : OkN (n + 1) (.list (ls.map fun l => PyData.str (tx l))) := fun d hd => by
  obtain ⟨l, _, rfl⟩ := List.mem_map.mp hd
  cases n <;> exact strOk_tx l
theorem txs_dp {K : PySem.W.Frag} {H : Hp} {a : Addr} {ls : List (List Bool)} (h : SqL K H a (ls.map fun l => V.str (tx l))) : Dp K H (.ref a) (.list (ls.map fun l => PyData.str (tx l))) := by
  refine .lst h ?_
  induction ls with
  | nil => exact .nil
  | cons l ls ih =>
    have e : ∀ ls : List (List Bool), DpAll K H (ls.map fun l => V.str (tx l)) (ls.map fun l => PyData.str (tx l)) := fun ls => by
      induction ls with
      | nil => exact .nil
      | cons l ls ih => exact .cons (.str _) ih
    exact e (l :: ls)
/-- whether the word of a rest stands behind the ones and the 0 -/
def fitR (m : Nat) (l : List Bool) (h r : Nat) : Bool := decide (h < l.length) && decide ((l.drop (h + 1)).take (restB m r).length = restB m r)
theorem fit_none {m a kk : Nat} (hm : 1 ≤ m) {l : List Bool} (hk : onesN (l.drop a) = kk) (h : feN m l a = none) : ∀ r, r < m → fitR m l (a + kk) r = false := fun r hr => by
  unfold fitR
  by_cases c : a + kk < l.length ∧ (l.drop (a + kk + 1)).take (restB m r).length = restB m r
  · exfalso
    have hlen := congrArg List.length c.2
    rw [List.length_take, List.length_drop] at hlen
    have := fe_hit hm hr hk c.2 (by omega)
    rw [h] at this
    cases this
  · by_cases c1 : a + kk < l.length
    · have c2 : ¬ (l.drop (a + kk + 1)).take (restB m r).length = restB m r := fun z => c ⟨c1, z⟩
      rw [decide_eq_false c2, Bool.and_false]
    · rw [decide_eq_false c1, Bool.false_and]
theorem fit_some {m a kk n e : Nat} (hm : 1 ≤ m) {l : List Bool} (ha : a ≤ l.length) (hk : onesN (l.drop a) = kk) (h : feN m l a = some (n, e)) :
    ∃ r rs, (List.range m).filter (fitR m l (a + kk)) = r :: rs ∧ a + kk + 1 + (restB m r).length = e := by
  obtain ⟨r, c, hr, hc, rfl, he, h2⟩ := fe_is hm ha hk h
  have hlen := congrArg List.length h2
  rw [List.length_take, List.length_drop, Nat.min_eq_left (by omega)] at hlen
  have hf : fitR m l (a + kk) r = true := by
    unfold fitR
    rw [← hlen, h2, decide_eq_true (show a + kk < l.length by omega), decide_eq_true rfl]
    rfl
  have hmem : r ∈ (List.range m).filter (fitR m l (a + kk)) := List.mem_filter.mpr ⟨List.mem_range.mpr hr, hf⟩
  cases hl : (List.range m).filter (fitR m l (a + kk)) with
  | nil => rw [hl] at hmem; cases hmem
  | cons r' rs =>
    refine ⟨r', rs, rfl, ?_⟩
    have hm' : r' ∈ (List.range m).filter (fitR m l (a + kk)) := by rw [hl]; exact List.mem_cons_self
    obtain ⟨q1, q2⟩ := List.mem_filter.mp hm'
    unfold fitR at q2
    rw [Bool.and_eq_true, decide_eq_true_eq, decide_eq_true_eq] at q2
    have hlen' := congrArg List.length q2.2
    rw [List.length_take, List.length_drop] at hlen'
    have := fe_hit hm (List.mem_range.mp q1) hk q2.2 (by omega)
    rw [h] at this
    exact ((Prod.mk.inj (Option.some.inj this)).2).symm
end St
namespace St
open PySem PySem.Spec PyProof.Rows L2
/-- a standing that is come to -/
def StdR (m : Nat) (t : St3) : Prop := Std m t ∧ ∃ l, run m AtE l = t
theorem stdR_nx {m : Nat} {t : St3} (h : StdR m t) (b : Bool) : StdR m (nxS m t b) := by
  obtain ⟨h1, l, rfl⟩ := h
  exact ⟨std_nx h1 b, l ++ [b], by rw [run_app]; rfl⟩
/-- the standings that are come to: closed under signs -/
structure Closed (m : Nat) (gs : List St3) : Prop where
  ae : AtE ∈ gs
  nx : ∀ t ∈ gs, ∀ b, nxS m t b ∈ gs
  nd : gs.Nodup
  std : ∀ t ∈ gs, Std m t
  rch : ∀ t ∈ gs, ∃ l, run m AtE l = t
end St
namespace St
open PySem PySem.Spec PyProof.Rows L2
/-! ### dicts whose keys are tuples, tuples of tuples too, the module's own ones too -/
mutual
theorem nk_is {X : Cx} {pins : List (Addr × Obj)} {σ : L2.St} {H : Hp} {s : Shared} (I : Inv X pins σ H s) : ∀ (k : NestedKey) (v : V) (u : Value), Dp X.K H v k.data → RelV v u → PySem.NestedIs s.heap k u
  | .none, _, _, h, r => by
    cases h
    cases r
    exact .none
  | .num i, _, _, h, r => by
    cases h
    obtain ⟨t, rfl⟩ := r
    exact .int i t
  | .text x, _, _, h, r => by
    cases h
    obtain ⟨t, rfl⟩ := r
    exact .text x t
  | .tup ks, v, u, h, r => by
    cases h with
    | tup hq hd =>
      obtain ⟨its, rv, ⟨o, ho, hc, n, hdt⟩, _⟩ := I.tuple hq
      cases (show u = Value.ref _ from r)
      exact .tup ho hc hdt (by simpa using nk_all I ks _ _ hd rv)
theorem nk_all {X : Cx} {pins : List (Addr × Obj)} {σ : L2.St} {H : Hp} {s : Shared} (I : Inv X pins σ H s) : ∀ (ks : List NestedKey) (vs : List V) (us : List Value), DpAll X.K H vs (NestedKey.datas ks) → Vals vs us → PySem.NestedAll s.heap ks us
  | [], _, _, h, r => by
    cases h
    cases r
    exact .nil
  | k :: ks, _, _, h, r => by
    cases h with
    | cons h1 h2 =>
      cases r with
      | cons r1 r2 => exact .cons (nk_is I k _ _ h1 r1) (nk_all I ks _ _ h2 r2)
end
/-- where a key lies -/
def NkAt (K : PySem.W.Frag) (H : Hp) (b : Addr) (k : NestedKey) : Prop := Dp K H (.ref b) k.data ∧ k.depth ≤ 8
theorem NkAt.same {K : PySem.W.Frag} {H H' : Hp} {b : Addr} {k : NestedKey} (s : Same H H') (h : NkAt K H b k) : NkAt K H' b k := ⟨Dp.same s h.1, h.2⟩
abbrev DEnt := NestedKey × Addr × V
abbrev EntRel : List DEnt → List (NestedKey × Addr × Value) → Prop := Paired fun p q => p.1 = q.1 ∧ p.2.1 = q.2.1 ∧ RelV p.2.2 q.2.2
/-- the dict at d with these entries: key, where the key lies, value -/
def DV (P : Program) (w : World) (d : Addr) (xs : List DEnt) : HO := .ext fun h => xs.length ≤ sizeLine ∧ (d == sysModules) = false ∧ ∃ vs, EntRel xs vs ∧ ∃ o es ep, h.get? d = some o ∧ o.ExactDict ∧ o.data = .dict es ep ∧ es.toList = vs.map (entryOfKey (nestedKind P w)) ∧ (vs.map (·.1)).Nodup
def valD (xs : List DEnt) (k : NestedKey) : Option V := (xs.find? fun x => decide (x.1 = k)).map (·.2.2)
def putD (xs : List DEnt) (k : NestedKey) (b : Addr) (v : V) : List DEnt := if (valD xs k).isSome then xs.map (fun x => if x.1 = k then (x.1, x.2.1, v) else x) else xs ++ [(k, b, v)]
theorem EntRel.val {xs : List DEnt} {vs : List (NestedKey × Addr × Value)} (r : EntRel xs vs) (k : NestedKey) : RelO (valD xs k) ((atKey vs k).map (·.2)) := by
  unfold valD atKey
  induction r with
  | nil => exact True.intro
  | @cons p q l m h t ih =>
    rw [List.find?_cons, List.find?_cons, h.1]
    cases e : decide (q.1 = k) with
    | true => exact h.2.2
    | false => exact ih
theorem EntRel.len {xs : List DEnt} {vs : List (NestedKey × Addr × Value)} (r : EntRel xs vs) : xs.length = vs.length := Paired.length r
theorem EntRel.keys {xs : List DEnt} {vs : List (NestedKey × Addr × Value)} (r : EntRel xs vs) : ∀ q ∈ vs, ∃ p ∈ xs, p.1 = q.1 ∧ p.2.1 = q.2.1 := by
  induction r with
  | nil => intro q h; cases h
  | @cons p q l m h t ih =>
    intro x hx
    rcases List.mem_cons.mp hx with rfl | hx
    · exact ⟨p, List.mem_cons_self, h.1, h.2.1⟩
    · obtain ⟨y, hy, e⟩ := ih x hx
      exact ⟨y, List.mem_cons_of_mem _ hy, e⟩
theorem EntRel.repl {xs : List DEnt} {vs : List (NestedKey × Addr × Value)} (r : EntRel xs vs) (k : NestedKey) {y : V} {u : Value} (ry : RelV y u) :
    EntRel (xs.map fun x => if x.1 = k then (x.1, x.2.1, y) else x) (vs.map (putAt k u)) := by
  induction r with
  | nil => exact .nil
  | @cons p q l m h t ih =>
    refine .cons ?_ ih
    unfold putAt
    by_cases c : q.1 = k
    · have c' : p.1 = k := h.1.trans c
      simp only [if_pos c, if_pos c']
      exact ⟨h.1, h.2.1, ry⟩
    · have c' : ¬ p.1 = k := fun z => c (h.1.symm.trans z)
      simp only [if_neg c, if_neg c']
      exact h
theorem EntRel.snoc {xs : List DEnt} {vs : List (NestedKey × Addr × Value)} (r : EntRel xs vs) {k : NestedKey} {b : Addr} {y : V} {u : Value} (ry : RelV y u) : EntRel (xs ++ [(k, b, y)]) (vs ++ [(k, b, u)]) := by
  induction r with
  | nil => exact .cons ⟨rfl, rfl, ry⟩ .nil
  | cons h t ih => exact .cons h ih
theorem EntRel.put {xs : List DEnt} {vs : List (NestedKey × Addr × Value)} (r : EntRel xs vs) (k : NestedKey) (b : Addr) {y : V} {u : Value} (ry : RelV y u) : EntRel (putD xs k b y) (storedH vs k b u) := by
  have e : (valD xs k).isSome = (atKey vs k).isSome := by
    have h := r.val k
    cases hx : valD xs k <;> cases hv : atKey vs k <;> rw [hx, hv] at h
    · rfl
    · exact h.elim
    · exact h.elim
    · rfl
  unfold putD storedH
  rw [e]
  split
  · exact r.repl k ry
  · exact r.snoc ry
theorem putD_len (xs : List DEnt) (k : NestedKey) (b : Addr) (v : V) : (putD xs k b v).length ≤ xs.length + 1 := by
  unfold putD
  split
  · rw [List.length_map]
    omega
  · rw [List.length_append]
    exact Nat.le_refl _
section
variable {X : Cx} {pins : List (Addr × Obj)} {σ : L2.St} {H : Hp} {s : Shared} {a b : Addr} {xs : List DEnt} {k : NestedKey} {u : Value} {A : Around} {E : Value → Shared → Prop}
/-- a dict, read -/
def DAt (K : PySem.W.Frag) (P : Program) (w : World) (H : Hp) (a : Addr) (xs : List DEnt) : Prop := Rd H a (DV P w a xs) ∧ ∀ x ∈ xs, NkAt K H x.2.1 x.1
theorem dv_rd (I : Inv X pins σ H s) (e : DAt X.K X.prog X.w H a xs) : xs.length ≤ sizeLine ∧ (a == sysModules) = false ∧ ∃ vs, EntRel xs vs ∧ s.heap.DictOfH (nestedKind X.prog X.w) a vs := by
  obtain ⟨⟨z, hd, vs, rel, o, es, ep, h1, h2, h3, h4, h5⟩, _⟩ := rd_of I.hok e.1
  refine ⟨z, hd, vs, rel, o, es, ep, h1, h2, h3, h4, fun q hq => ?_, h5⟩
  obtain ⟨p, hp, e1, e2⟩ := rel.keys q hq
  obtain ⟨k1, k2⟩ := e.2 p hp
  rw [← e1, ← e2]
  exact ⟨nk_is I _ _ _ k1 rfl, k2⟩
theorem nk_key (I : Inv X pins σ H s) (kb : NkAt X.K H b k) : (nestedKind X.prog X.w).is s.heap k b := ⟨nk_is I _ _ _ kb.1 rfl, kb.2⟩
theorem nk_room (hu : A.units + 9 < cLine) : (nestedKind X.prog X.w).room A.in1 := by
  show A.units + 1 + 8 < cLine
  omega
/-- d[y] -/
theorem dv_getItem {v : V} {Q : Value → Shared → Prop} (hu : A.units + 9 < cLine) (I : Inv X pins σ H s) (e : DAt X.K X.prog X.w H a xs) (kb : NkAt X.K H b k) (hv : valD xs k = some v) (h : ∀ w' s', Inv X pins σ H s' → RelV v w' → Q w' s') :
    wpAny (model X.prog X.w) A (getItem (.ref a) (.ref b)) Q E s := by
  obtain ⟨z, hd, vs, rel, dd⟩ := dv_rd I e
  have r := rel.val k
  rw [hv] at r
  cases hw : atKey vs k with
  | none => rw [hw] at r; exact r.elim
  | some p =>
    rw [hw] at r
    exact wpAny_getItem_heap (nk_room (X := X) hu) (nk_key I kb) dd hw (h _ _ (I.tok _) r)
theorem dv_some (rel : EntRel xs vs) : (atKey vs k).isSome = (valD xs k).isSome := by
  have h := rel.val k
  cases hx : valD xs k <;> cases hv : atKey vs k <;> rw [hx, hv] at h
  · rfl
  · exact h.elim
  · exact h.elim
  · rfl
/-- y in d -/
theorem dv_in {Q : Value → Shared → Prop} (hu : A.units + 9 < cLine) (I : Inv X pins σ H s) (e : DAt X.K X.prog X.w H a xs) (kb : NkAt X.K H b k) (h : ∀ s', Inv X pins σ H s' → Q (.bool (valD xs k).isSome) s') :
    wpAny (model X.prog X.w) A (compareOp .In (.ref b) (.ref a)) Q E s := by
  obtain ⟨z, hd, vs, rel, dd⟩ := dv_rd I e
  refine wpAny_in_heap (nk_room (X := X) hu) (nk_key I kb) hd dd ?_
  rw [dv_some rel]
  exact h _ (I.tok _)
/-- d.get(y, x) -/
theorem dv_get2 {Q : Value → Shared → Prop} {d : V} {r : Value} (hu : A.units + 9 < cLine) (I : Inv X pins σ H s) (e : DAt X.K X.prog X.w H a xs) (kb : NkAt X.K H b k) (rd : RelV d r) (h : ∀ w' s', Inv X pins σ H s' → RelV ((valD xs k).getD d) w' → Q w' s') :
    wpAny (model X.prog X.w) A (call (.builtin "dict.get") [.ref a, .ref b, r]) Q E s := by
  obtain ⟨z, hd, vs, rel, dd⟩ := dv_rd I e
  refine call_meetsIn PySem.F.slot_dict_get dd.typeIs PySem.F.entry_dict_get (PySem.F.args_dict_get_3 _ _ _) (meetsH_dict_get_default (nestedKind X.prog X.w) a b hd r) ⟨nk_room (X := X) hu, k, vs, nk_key I kb, dd, h _ _ (I.tok _) ?_⟩
  exact (rel.val k).getD rd
theorem dv_at {h : Heap} {vs : List (NestedKey × Addr × Value)} (z : xs.length ≤ sizeLine) (hd : (a == sysModules) = false) (rel : EntRel xs vs) {o : Obj} {es : Array DictEntry} {ep : Nat} (h1 : h.get? a = some o) (h2 : o.ExactDict) (h3 : o.data = .dict es ep) (h4 : es.toList = vs.map (entryOfKey (nestedKind X.prog X.w))) (h5 : (vs.map (·.1)).Nodup) {H' : Hp} :
    ObjOk X.prog X.w H' h a (DV X.prog X.w a xs) := by
  refine ⟨⟨z, hd, vs, rel, o, es, ep, h1, h2, h3, h4, h5⟩, ⟨o, h1⟩, fun g1 g2 q k => ?_⟩
  obtain ⟨z, hd, vs, rel, o, es, ep, h1, h2, h3, h4, h5⟩ := q
  exact ⟨z, hd, vs, rel, o, es, ep, k o h1, h2, h3, h4, h5⟩
/-- d[y] = v -/
theorem dv_setItem {v : V} {r : Value} {Q : Unit → Shared → Prop} (hu : A.units + 9 < cLine) (I : Inv X pins σ H s) (e : H a = some (DV X.prog X.w a xs)) (hk : ∀ x ∈ xs, NkAt X.K H x.2.1 x.1) (kb : NkAt X.K H b k) (hl : xs.length < sizeLine) (rv : RelV v r) (h : ∀ s', Inv X pins σ (upd H a (DV X.prog X.w a (putD xs k b v))) s' → Q () s') :
    wpAny (model X.prog X.w) A (setItem (.ref a) (.ref b) r) Q E s := by
  obtain ⟨z, hd, vs, rel, dd⟩ := dv_rd I ⟨.inl e, hk⟩
  have hz : vs.length ≤ sizeLine := by rw [← rel.len]; exact z
  have hl2 : (putD xs k b v).length ≤ sizeLine := by have := putD_len xs k b v; omega
  refine wpAny_setItem_heap (hsz := hz) (nk_room (X := X) hu) (nk_key I kb) dd fun h' dd' hs => h _ ?_
  obtain ⟨q, es, ep, hq, h2, h3, h4, _, h5⟩ := dd'
  exact d_write I (by rw [e]; exact True.intro) hs ⟨q, hq⟩ (dv_at hl2 hd (rel.put k b rv) hq h2 h3 h4 h5)
end
section
variable {X : Cx} {o i e f value : Expr} {pos pos' apos cpos : Pos} {td ty tv tx : L2.TE}
def tDVGet (K : PySem.W.Frag) (P : Program) (w : World) (td ty : L2.TE) : L2.TE := fun σ H Q => td σ H fun x H1 => ty σ H1 fun y H2 => ∃ a b xs k v, x = .ref a ∧ y = .ref b ∧ DAt K P w H2 a xs ∧ NkAt K H2 b k ∧ valD xs k = some v ∧ Q v H2
def tDVIn (K : PySem.W.Frag) (P : Program) (w : World) (ty td : L2.TE) : L2.TE := fun σ H Q => ty σ H fun y H1 => td σ H1 fun x H2 => ∃ a b xs k, x = .ref a ∧ y = .ref b ∧ DAt K P w H2 a xs ∧ NkAt K H2 b k ∧ Q (.bl (valD xs k).isSome) H2
def tDVGet2 (K : PySem.W.Frag) (P : Program) (w : World) (td ty tx : L2.TE) : L2.TE := fun σ H Q => td σ H fun x H1 => ∃ a xs, x = .ref a ∧ DAt K P w H1 a xs ∧ ty σ H1 fun y H2 => tx σ H2 fun z H3 => ∃ b k ys, y = .ref b ∧ DAt K P w H3 a ys ∧ NkAt K H3 b k ∧ Q ((valD ys k).getD z) H3
def sDVPut (K : PySem.W.Frag) (P : Program) (w : World) (td ty tv : L2.TE) : L2.TS := fun D σ H => tv σ H fun v H1 => td σ H1 fun x H2 => ty σ H2 fun y H3 => ∃ a b xs k, x = .ref a ∧ y = .ref b ∧ H3 a = some (DV P w a xs) ∧ (∀ x ∈ xs, NkAt K H3 x.2.1 x.1) ∧ NkAt K H3 b k ∧ xs.length < sizeLine ∧ D.nx σ (upd H3 a (DV P w a (putD xs k b v)))
def tDVNew (P : Program) (w : World) : L2.TE := fun _ H Q => ∀ p, H p = none → Q (.ref p) (upd H p (DV P w p []))
theorem pe_dvget (hu : X.A.units + 9 < cLine) (ho : PE X o td) (hi : PE X i ty) (hs : NoSl i) : PE X (.Subscript o i pos) (tDVGet X.K X.prog X.w td ty) := by
  refine ⟨fun pins s σ H Q I h => ?_⟩
  refine subD_of PySem.F.slot_dict_getitem.lookup hs (thn (ho.run pins s σ H _ I h) fun u s1 ⟨x, H1, I1, rx, q1⟩ => thn (hi.run pins s1 σ H1 _ I1 q1) fun iv s2 ⟨y, H2, I2, ry, a, b, xs, k, v, ex, ey, g, kb, hv, q2⟩ => ?_)
  subst ex ey
  obtain rfl : u = Value.ref a := rx
  obtain rfl : iv = Value.ref b := ry
  obtain ⟨_, _, vs, _, dd⟩ := dv_rd I2 g
  exact ⟨dd.typeIs, dv_getItem hu I2 g kb hv fun w' s3 I3 rw' => ⟨v, H2, I3, rw', q2⟩⟩
theorem pc_dvin (hu : X.A.units + 9 < cLine) (hi : PE X i ty) (ho : PE X o td) : PC X .In i o (tDVIn X.K X.prog X.w ty td) := by
  refine ⟨fun pins s σ H Q I h => ?_⟩
  refine thn (hi.run pins s σ H _ I h) fun iv s1 ⟨y, H1, I1, ry, q1⟩ => thn (ho.run pins s1 σ H1 _ I1 q1) fun u s2 ⟨x, H2, I2, rx, a, b, xs, k, ex, ey, g, kb, q2⟩ => ?_
  subst ex ey
  obtain rfl : u = Value.ref a := rx
  obtain rfl : iv = Value.ref b := ry
  exact dv_in hu I2 g kb fun s3 I3 => ⟨.bl (valD xs k).isSome, H2, I3, rfl, q2⟩
theorem ps_dvput (hu : X.A.units + 9 < cLine) (ho : PE X o td) (hi : PE X i ty) (hv : PE X value tv) (hs : swapsWith value (some (.Subscript o i pos')) pos.line X.env = pure false) :
    PS X (.Assign [.Subscript o i pos'] value pos) (sDVPut X.K X.prog X.w td ty tv) := by
  refine ⟨fun pins s σ H D I h => ?_⟩
  refine wpAny_Assign_Subscript (thn (hv.run pins s σ H _ I h) fun r s1 ⟨v, H1, I1, rv, q1⟩ => thn (ho.run pins s1 σ H1 _ I1 q1) fun u s2 ⟨x, H2, I2, rx, q2⟩ => thn (hi.run pins s2 σ H2 _ I2 q2) fun iv s3 ⟨y, H3, I3, ry, a, b, xs, k, ex, ey, g, hk, kb, hl, q3⟩ => ?_) hs
  subst ex ey
  obtain rfl : u = Value.ref a := rx
  obtain rfl : iv = Value.ref b := ry
  exact dv_setItem hu I3 g hk kb hl rv fun s4 I4 => ⟨σ, _, I4, q3⟩
theorem pe_dvget2 (hu : X.A.units + 9 < cLine) (ho : PE X o td) (he : PE X e ty) (hf : PE X f tx) (m : M2 X o "get" apos e f cpos) : PE X (.Call (.Attribute o "get" apos) [e, f] [] cpos) (tDVGet2 X.K X.prog X.w td ty tx) := by
  refine ⟨fun pins s σ H Q I h => ?_⟩
  refine wpAny_Call_method m.base m.few m.line PySem.F.plainAttrs_dict PySem.F.slot_dict_get PySem.F.type_dict_get (thn (ho.run pins s σ H _ I h) fun u s1 ⟨x, H1, I1, rx, a, xs, ex, d, q1⟩ => ?_)
  subst ex
  obtain rfl : u = Value.ref a := rx
  obtain ⟨_, _, vs, _, dd⟩ := dv_rd I1 d
  obtain ⟨ob, es, ep, h1, h2, _⟩ := id dd
  refine ⟨dd.typeIs, fun b q => ?_, ?_⟩
  · cases q
    exact ⟨ob, h1, h2.2.1⟩
  rw [m.trees]
  refine Calls.callWith_builtin rfl (Calls.evalArgs_plain (Calls.spliced_cons (thn (he.run pins s1 σ H1 _ I1 q1) fun iv s2 ⟨y, H2, I2, ry, q2⟩ =>
    Calls.spliced_cons (thn (hf.run pins s2 σ H2 _ I2 q2) fun fv s3 ⟨z, H3, I3, rz, b, k, ys, ey, g, kb, q3⟩ => Calls.spliced_nil ?_))))
  subst ey
  obtain rfl : iv = Value.ref b := ry
  exact dv_get2 hu I3 g kb rz fun w' s4 I4 rw' => ⟨_, H3, I4, rw', q3⟩
theorem pe_dvnew : PE X (.Dict [] [] pos) (tDVNew X.prog X.w) := ⟨fun pins s σ H Q I h =>
  wpAny_Dict_empty ⟨.ref s.heap.objs.size, _, I.laid (a := s.heap.objs.size) (o := DV X.prog X.w s.heap.objs.size []) (t' := s.toks) (fun _ _ q => Heap.get?_push_of_some _ q) (Nat.le_refl _)
    (dv_at (Nat.zero_le _) (beq_eq_false_iff_ne.mpr (Ne.symm (Nat.ne_of_lt I.big))) .nil (Heap.get?_push_size _ rfl) ⟨rfl, rfl, rfl⟩ rfl (es := #[]) rfl List.nodup_nil), rfl, h _ (I.hok.fresh (Nat.le_refl _))⟩⟩
end
theorem nine {n c : Nat} (h : n + 64 < c) : n + 9 < c := by omega
def rSetDV (K : PySem.W.Frag) (P : Program) (w : World) : V → V → V → Hp → (Hp → Prop) → Prop := fun o i v H Q => ∃ a b xs k, o = .ref a ∧ i = .ref b ∧ H a = some (DV P w a xs) ∧ (∀ x ∈ xs, NkAt K H x.2.1 x.1) ∧ NkAt K H b k ∧ xs.length < sizeLine ∧ Q (upd H a (DV P w a (putD xs k b v)))
section
variable {X : Cx} {o i e f : Expr} {pos apos cpos : Pos} {td ty tx : L2.TE} (K : PySem.W.Frag) (P : Program) (w : World)
theorem set_dv (hu : X.A.units + 64 < cLine) (hK : X.K = K := by rfl) (hP : X.prog = P := by rfl) (hw : X.w = w := by rfl) : PSet X (rSetDV K P w) := by
  subst hK hP hw
  intro pins s σ H o i v ov iv u Q I ro ri rv h
  obtain ⟨a, b, xs, k, rfl, rfl, g, hk, kb, hl, q⟩ := h
  cases ro
  cases ri
  exact dv_setItem (nine hu) I g hk kb hl rv fun s' I' => ⟨_, I', q⟩
theorem pe_dvget_ (hu : X.A.units + 64 < cLine) (ho : PE X o td) (hi : PE X i ty) (hs : NoSl i) (hK : X.K = K := by rfl) (hP : X.prog = P := by rfl) (hw : X.w = w := by rfl) : PE X (.Subscript o i pos) (tDVGet K P w td ty) := by
  subst hK hP hw
  exact pe_dvget (nine hu) ho hi hs
theorem pc_dvin_ (hu : X.A.units + 64 < cLine) (hi : PE X i ty) (ho : PE X o td) (hK : X.K = K := by rfl) (hP : X.prog = P := by rfl) (hw : X.w = w := by rfl) : PC X .In i o (tDVIn K P w ty td) := by
  subst hK hP hw
  exact pc_dvin (nine hu) hi ho
theorem pe_dvget2_ (hu : X.A.units + 64 < cLine) (ho : PE X o td) (he : PE X e ty) (hf : PE X f tx) (m : M2 X o "get" apos e f cpos) (hK : X.K = K := by rfl) (hP : X.prog = P := by rfl) (hw : X.w = w := by rfl) : PE X (.Call (.Attribute o "get" apos) [e, f] [] cpos) (tDVGet2 K P w td ty tx) := by
  subst hK hP hw
  exact pe_dvget2 (nine hu) ho he hf m
theorem pe_dvnew_ (hP : X.prog = P := by rfl) (hw : X.w = w := by rfl) : PE X (.Dict [] [] pos) (tDVNew P w) := by
  subst hP hw
  exact pe_dvnew
end
end St
namespace St
open PySem PySem.Spec PyProof.Rows L2
/-! ### walks over the keys of such a dict -/
def ItV (P : Program) (w : World) (d : Addr) (o : Obj) (xs : List DEnt) : It :=
  ⟨fun i H => H d = some (.frz o (DV P w d xs)) ∧ i < xs.length, fun i H x H' => H' = H ∧ ∃ k b v, xs[i]? = some (k, b, v) ∧ x = .ref b, fun i H => H d = some (.frz o (DV P w d xs)) ∧ xs.length ≤ i⟩
section
variable {X : Cx} {pins : List (Addr × Obj)} {σ : L2.St} {H : Hp} {s : Shared} {d : Addr} {xs : List DEnt} {o : Obj}
theorem rel_get {xs : List DEnt} {vs : List (NestedKey × Addr × Value)} (r : EntRel xs vs) : ∀ {i : Nat} {k : NestedKey} {b : Addr} {v : V}, xs[i]? = some (k, b, v) → ∃ u, vs[i]? = some (k, b, u) := by
  induction r with
  | nil => intro i k b v h; cases h
  | @cons p q l m h t ih =>
    intro i k b v e
    cases i with
    | zero =>
      cases Option.some.inj (show some p = some (k, b, v) from e)
      obtain ⟨h1, h2, _⟩ := h
      obtain ⟨q1, q2, q3⟩ := q
      cases h1
      cases h2
      exact ⟨q3, rfl⟩
    | succ i => exact ih e
theorem frzV (I : Inv X pins σ H s) (h : H d = some (.frz o (DV X.prog X.w d xs))) :
    (d == sysModules) = false ∧ s.heap.get? d = some o ∧ o.ExactDict ∧ ∃ (es : Array DictEntry) (ep : Nat), o.data = .dict es ep ∧ es.size = xs.length ∧
      ∀ (i : Nat) (k : NestedKey) (b : Addr) (v : V), xs[i]? = some (k, b, v) → ∃ (en : DictEntry), es[i]? = some en ∧ en.key = .ref b := by
  obtain ⟨hd, ⟨z, hs, vs, rel, o', es, ep, ho, hx, hdt, he, _⟩, _⟩ := I.hok d _ h
  rw [hd] at ho
  cases ho
  refine ⟨hs, hd, hx, es, ep, hdt, ?_, fun i k b v e => ?_⟩
  · have l1 : es.size = vs.length := size_of_entries he
    have l2 := rel.len
    omega
  · obtain ⟨u, hu⟩ := rel_get rel e
    have q := entry_at he i
    rw [hu] at q
    exact ⟨_, q, rfl⟩
theorem turn_keysV {P : Program} {w : World} {K : PySem.W.Frag} {tg : Expr} {es : Array DictEntry} {ep : Nat} (it : Addr) (hod : o.data = .dict es ep) : Turn P w K tg (ItV P w d o xs) [it] it (fun i h => h.IsKeyIter it d i xs.length ep) where
  mem := by simp
  obj := fun i h st b hb => by
    have e : b = it := by simpa using hb
    subst e
    obtain ⟨oi, e, c, dd⟩ := st
    exact ⟨oi, e, fun v z => by rw [dd] at z; cases z⟩
  keep := fun i h h' st k => st.at fun oi e => k it (by simp) oi e
  item := by
    intro X hP hw hK hc i pins s σ H E I hf st hg
    subst hP hw hK
    obtain ⟨hd, hi⟩ := hg
    obtain ⟨f0, f1, f2, f3, f4, f5⟩ := hf it (by simp)
    obtain ⟨hs, hgd, hx, es', ep', hdt, hsz, ent⟩ := frzV I hd
    obtain ⟨rfl, rfl⟩ := dict_ep hod hdt
    obtain ⟨⟨k, b, v⟩, hkv⟩ : ∃ p, xs[i]? = some p := ⟨xs[i], List.getElem?_eq_getElem hi⟩
    obtain ⟨en, hen, hkey⟩ := ent i k b v hkv
    refine next_key_item st hgd hdt hsz hen fun h' st' sb => ?_
    have I1 : Inv X pins σ H { s with heap := h' } := I.turned (t' := s.toks) (fun b ob hb e => (sb.2 b hb).trans e) f0 f1 f3 f4 f5
    obtain ⟨oi, e, c, dd⟩ := id st'
    exact ⟨en.key, rfl, go_of (s := { s with heap := h' }) e c dd (by decide) ⟨.ref b, H, I1, hkey, ⟨rfl, k, b, v, hkv, rfl⟩, st', fun b hb => (hf b hb).1⟩⟩
  done := by
    intro X hP hw hK hc i pins s σ H E I hf st hg
    subst hP hw hK
    obtain ⟨hd, hi⟩ := hg
    obtain ⟨f0, f1, f2, f3, f4, f5⟩ := hf it (by simp)
    obtain ⟨hs, hgd, hx, es', ep', hdt, hsz, ent⟩ := frzV I hd
    obtain ⟨rfl, rfl⟩ := dict_ep hod hdt
    exact next_key_end (I.ok.hd hc) st hgd hdt hsz hi fun h' eb => ⟨rfl, I.turned (t' := s.toks) (fun b ob hb e => eb b ob hb e) f0 f1 f3 f4 f5⟩
  self := fun A i s Q E st h => by
    refine wpAny_pyIter_slot st.typeIs F.slot_dict_keyiterator_iter (wpAny_call_entry F.slot_dict_keyiterator_iter st.typeIs F.entry_dict_keyiterator_iter ?_ (F.args_dict_keyiterator_iter_1 _))
    show wpAny _ _ (ret (.ref it)) _ _ s
    exact wpAny_pure ⟨_, rfl, "dict_keyiterator", _, st.typeIs, F.slot_dict_keyiterator_next.lookup, h⟩
end
/-- for k in d: the dict is locked from then on (it is read only) -/
def iKeysV (P : Program) (w : World) (td : L2.TE) : TI := fun σ H R => td σ H fun x H1 => ∃ d xs, x = .ref d ∧
  ((H1 d = some (DV P w d xs) ∧ ∀ od, R (ItV P w d od xs) (upd H1 d (.frz od (DV P w d xs)))) ∨ ∃ od, H1 d = some (.frz od (DV P w d xs)) ∧ R (ItV P w d od xs) H1)
section
variable {X : Cx} {tg e : Expr} {td : L2.TE}
theorem pi_keysV (he : PE X e td) : PI X tg e (iKeysV X.prog X.w td) := by
  refine ⟨fun pins s σ H R I h => ?_⟩
  refine thn (he.run pins s σ H _ I h) fun u s1 ⟨x, H1, I1, rx, d, xs, ex, q⟩ => ?_
  subst ex
  obtain rfl : u = Value.ref d := rx
  rcases q with ⟨hd, q⟩ | ⟨od, hd, q⟩
  · obtain ⟨od, I2⟩ := I1.lock hd True.intro
    obtain ⟨hs, hgd, hx, es, ep, hdt, hsz, ent⟩ := frzV I2 upd_same
    refine iter_keys hs hgd hx hdt (pi_one (tk := s1.toks) I2 _ (turn_keysV _ hdt) ⟨_, Heap.get?_push_size _ rfl, rfl, ?_⟩ (q od))
    rw [hsz] <;> rfl
  · obtain ⟨hs, hgd, hx, es, ep, hdt, hsz, ent⟩ := frzV I1 hd
    refine iter_keys hs hgd hx hdt (pi_one (tk := s1.toks) I1 _ (turn_keysV _ hdt) ⟨_, Heap.get?_push_size _ rfl, rfl, ?_⟩ q)
    rw [hsz] <;> rfl
end
/-- a loop over the keys -/
theorem for_keysV {P : Program} {w : World} {d : Addr} {o : Obj} {xs : List DEnt} {g : TG} {tb : TS} {D : Ends} {σ : L2.St} {H : Hp} (Pv : Nat → L2.St → Hp → Prop) (h0 : Pv 0 σ H) (hl : ∀ i σ H, i ≤ xs.length → Pv i σ H → H d = some (.frz o (DV P w d xs)))
    (hs : ∀ i k b v σ H, xs[i]? = some (k, b, v) → Pv i σ H → g (.ref b) σ H fun σ2 H2 => tb { D with nx := Pv (i + 1), ct := Pv (i + 1), bk := D.nx } σ2 H2) (hd : ∀ σ H, Pv xs.length σ H → D.nx σ H) :
    ∃ W : Nat → Nat → L2.St → Hp → Prop, (∃ m, W 0 m σ H) ∧ ∀ i m σ H, W i m σ H →
      ((ItV P w d o xs).stop i H ∧ D.nx σ H) ∨ ((ItV P w d o xs).go i H ∧ ∃ Nx : L2.St → Hp → Prop, (∀ σ' H', Nx σ' H' → ∃ m', m' < m ∧ W (i + 1) m' σ' H') ∧
        ∀ x H', (ItV P w d o xs).yld i H x H' → g x σ H' fun σ2 H2 => tb { D with nx := Nx, ct := Nx, bk := D.nx } σ2 H2) := by
  refine ⟨fun i m σ H => m = xs.length - i ∧ i ≤ xs.length ∧ Pv i σ H, ⟨xs.length, by simp, Nat.zero_le _, h0⟩, ?_⟩
  rintro i m σ H ⟨rfl, hi, p⟩
  have q := hl i σ H hi p
  by_cases hlt : i < xs.length
  · refine .inr ⟨⟨q, hlt⟩, Pv (i + 1), fun σ' H' p' => ⟨xs.length - (i + 1), by omega, rfl, hlt, p'⟩, fun x H' y => ?_⟩
    obtain ⟨rfl, k, b, v, e, rfl⟩ := y
    exact hs i k b v σ _ e p
  · have e : i = xs.length := by omega
    subst e
    exact .inl ⟨⟨q, Nat.le_refl _⟩, hd σ H p⟩
section
variable {X : Cx} {tg e : Expr} {td : L2.TE} (P : Program) (w : World)
theorem pi_keysV_ (he : PE X e td) (hP : X.prog = P := by rfl) (hw : X.w = w := by rfl) : PI X tg e (iKeysV P w td) := by
  subst hP hw
  exact pi_keysV he
end
end St
namespace St
open PySem PySem.Spec PyProof.Rows L2
/-! ### {k: v} with a tuple as its key -/
section
variable {prog : Program} {w : World} {K : Type} [DecidableEq K] {knd : HeapKind prog w K} {A : Around} {E : Value → Shared → Prop}
theorem disp_one {env : Env} {ke ve : Expr} {pos : Pos} {s : Shared} {Q : Value → Shared → Prop} (hu : knd.room A)
    (h : wpAny (model prog w) A (evalPairs (pairTrees [some ke] [ve] env pos)) (fun vs s₁ => ∃ ps, CarriesH knd s₁.heap vs ps ∧ s₁.heap.DictOfH knd s.heap.objs.size [] ∧
      ∀ h' tk, h'.DictOfH knd s.heap.objs.size (storedAllH [] ps) → Heap.SameBut s.heap.objs.size s₁.heap h' → Q (.ref s.heap.objs.size) { s₁ with heap := h', toks := tk }) E
      { s with heap := s.heap.push { cls := .type "dict", data := .dict #[] } }) :
    wpAny (model prog w) A (eval (.Dict [some ke] [ve] pos) env) Q E s := by
  have hs := zip_pairTrees [some ke] [ve] env pos rfl rfl
  have hl := pairTrees_length [some ke] [ve] env pos rfl rfl
  rw [arm_eval_Dict, hs, dictDisplay_pairs (pairTrees [some ke] [ve] env pos) (by intro z; rw [z] at hl; cases hl) (by rw [hl]; show 1 < 17; decide)]
  exact wpAny_bind (wpAny_standAt (wpAny_bind (wpAny_subDictH (knd := knd) (Q := fun d s' => wpAny (model prog w) A (pure (Value.ref d)) Q E s') hu (by rw [hl]; show 1 ≤ 15; decide)
    (wpAny_mono h (fun vs s₁ h₁ => by obtain ⟨ps, hc, hm, hq⟩ := h₁; exact ⟨ps, hc, hm, fun h' tk a b => wpAny_pure (hq h' tk a b)⟩) fun _ _ e => e))))
end
def tDVOne (K : PySem.W.Frag) (P : Program) (w : World) (tk tv : L2.TE) : L2.TE := fun σ H Q => ∀ p, H p = none → L2.tPairs [(tk, tv)] σ (upd H p (DV P w p [])) fun ps H2 => ∃ b k y, ps = [(.ref b, y)] ∧ H2 p = some (DV P w p []) ∧ NkAt K H2 b k ∧ Q (.ref p) (upd H2 p (DV P w p [(k, b, y)]))
theorem pe_dvone {X : Cx} {pos : Pos} {ke ve : Expr} {tk tv : L2.TE} (hu : X.A.units + 9 < cLine) (h : PPs X pos [some ke] [ve] [(tk, tv)]) : PE X (.Dict [some ke] [ve] pos) (tDVOne X.K X.prog X.w tk tv) := by
  refine ⟨fun pins s σ H Q I q => ?_⟩
  have hn := I.hok.fresh (Nat.le_refl s.heap.objs.size)
  have I1 := I.laid (a := s.heap.objs.size) (o := DV X.prog X.w s.heap.objs.size []) (h' := s.heap.push { cls := .type "dict", data := .dict #[] }) (t' := s.toks) (fun _ _ q => Heap.get?_push_of_some _ q) (Nat.le_refl _)
    (dv_at (Nat.zero_le _) (beq_eq_false_iff_ne.mpr (Ne.symm (Nat.ne_of_lt I.big))) .nil (Heap.get?_push_size _ rfl) ⟨rfl, rfl, rfl⟩ rfl (es := #[]) rfl List.nodup_nil)
  refine disp_one (knd := nestedKind X.prog X.w) (by show X.A.units + 8 < cLine; omega) (thn (h.run pins _ σ _ _ I1 (q _ hn)) fun ws s2 ⟨ps, H2, I2, rel, b, k, y, ep, e, kb, q2⟩ => ?_)
  subst ep
  cases rel with
  | @cons p r l m h1 t =>
    cases t
    obtain ⟨r1, r2⟩ := r
    obtain ⟨ra, rb⟩ := h1
    cases (show r1 = Value.ref b from ra)
    obtain ⟨z, hd, vs0, r0, dd⟩ := dv_rd I2 ⟨.inl e, fun x hx => by cases hx⟩
    cases r0
    refine ⟨[(k, b, r2)], ⟨rfl, rfl, nk_key I2 kb, True.intro⟩, dd, fun h' tk dd' hs => ⟨.ref s.heap.objs.size, _, ?_, rfl, q2⟩⟩
    obtain ⟨o, es, ep, hq, g2, g3, g4, _, g5⟩ := dd'
    exact d_write I2 (by rw [e]; exact True.intro) hs ⟨o, hq⟩ (dv_at (by show 1 ≤ sizeLine; decide) hd (.cons ⟨rfl, rfl, rb⟩ .nil) hq g2 g3 g4 g5)
theorem pe_dvone_ {X : Cx} {pos : Pos} {ke ve : Expr} {tk tv : L2.TE} (K : PySem.W.Frag) (P : Program) (w : World) (hu : X.A.units + 64 < cLine) (h : PPs X pos [some ke] [ve] [(tk, tv)]) (hK : X.K = K := by rfl) (hP : X.prog = P := by rfl) (hw : X.w = w := by rfl) : PE X (.Dict [some ke] [ve] pos) (tDVOne K P w tk tv) := by
  subst hK hP hw
  exact pe_dvone (nine hu) h
end St
namespace St
open PySem PySem.Spec PyProof.Rows L2
/-! ### rows: things, each with a number, all different -/
/-- a row: how many fillings lead to each standing, in the order in which they came -/
abbrev SR (α : Type) := List (α × Nat)
section
variable {α : Type} [DecidableEq α]
def valR (r : SR α) (t : α) : Option Nat := (r.find? fun x => decide (x.1 = t)).map (·.2)
def addR (r : SR α) (t : α) (n : Nat) : SR α := if (valR r t).isSome then r.map (fun x => if x.1 = t then (x.1, (valR r t).getD 0 + n) else x) else r ++ [(t, n)]
/-! a row whose standings are different ones -/
def keysR (r : SR α) : List α := r.map (·.1)
theorem valR_none {r : SR α} {t : α} : valR r t = none ↔ t ∉ keysR r := by
  unfold valR keysR
  rw [Option.map_eq_none_iff, List.find?_eq_none]
  simp only [decide_eq_true_eq, List.mem_map, not_exists, not_and]
theorem valR_some {r : SR α} {t : α} : (valR r t).isSome = true ↔ t ∈ keysR r := by
  rw [← Decidable.not_iff_not, ← valR_none]
  cases valR r t <;> simp
theorem valR_mem {r : SR α} (h : (keysR r).Nodup) {t : α} {n : Nat} (hx : (t, n) ∈ r) : valR r t = some n := by
  unfold valR
  induction r with
  | nil => cases hx
  | cons a r ih =>
    obtain ⟨h1, h2⟩ := List.nodup_cons.mp h
    rw [List.find?_cons]
    rcases List.mem_cons.mp hx with z | z
    · subst z
      simp
    · have : a.1 ≠ t := fun e => h1 (List.mem_map.mpr ⟨_, z, e.symm⟩)
      rw [decide_eq_false this]
      exact ih h2 z
theorem keys_add (r : SR α) (t : α) (n : Nat) : keysR (addR r t n) = if t ∈ keysR r then keysR r else keysR r ++ [t] := by
  unfold addR
  by_cases c : t ∈ keysR r
  · rw [if_pos c, if_pos (valR_some.mpr c)]
    unfold keysR
    rw [List.map_map]
    refine List.map_congr_left fun x _ => ?_
    show (if x.1 = t then (x.1, (valR r t).getD 0 + n) else x).1 = _
    split <;> rfl
  · rw [if_neg c, if_neg (fun z => c (valR_some.mp z))]
    unfold keysR
    rw [List.map_append]
    rfl
theorem add_nodup {r : SR α} (h : (keysR r).Nodup) (t : α) (n : Nat) : (keysR (addR r t n)).Nodup := by
  rw [keys_add]
  split
  · exact h
  · rename_i c
    exact List.nodup_append.mpr ⟨h, by simp, fun a ha b hb => by
      rw [List.mem_singleton.mp hb]
      exact fun z => c (z ▸ ha)⟩
def wsum (g : α → Nat) (r : SR α) : Nat := (r.map fun x => x.2 * g x.1).sum
theorem add_sum (g : α → Nat) {r : SR α} (h : (keysR r).Nodup) (t : α) (n : Nat) : wsum g (addR r t n) = wsum g r + n * g t := by
  unfold addR wsum
  by_cases c : t ∈ keysR r
  · rw [if_pos (valR_some.mpr c)]
    obtain ⟨⟨t', k⟩, hk, rfl⟩ := List.mem_map.mp c
    rw [valR_mem h hk]
    show (List.map _ (List.map (fun x => if x.1 = t' then (x.1, k + n) else x) r)).sum = _ + n * g t'
    induction r with
    | nil => cases hk
    | cons a r ih =>
      obtain ⟨h1, h2⟩ := List.nodup_cons.mp h
      rw [List.map_cons, List.map_cons, List.map_cons, List.sum_cons, List.sum_cons]
      rcases List.mem_cons.mp hk with z | z
      · subst z
        have e : List.map (fun x : α × Nat => if x.1 = t' then (x.1, k + n) else x) r = r := by
          have : ∀ x ∈ r, (if x.1 = t' then (x.1, k + n) else x) = x := fun x hx => if_neg fun e => h1 (by rw [← e]; exact List.mem_map.mpr ⟨x, hx, rfl⟩)
          exact (List.map_congr_left this).trans (List.map_id _)
        rw [e, if_pos rfl]
        show (k + n) * g t' + _ = k * g t' + _ + _
        rw [Nat.add_mul]
        omega
      · have : a.1 ≠ t' := fun e => h1 (List.mem_map.mpr ⟨_, z, e.symm⟩)
        rw [if_neg this, ih h2 z (List.mem_map.mpr ⟨_, z, rfl⟩)]
        omega
  · rw [if_neg (fun z => c (valR_some.mp z)), List.map_append, List.sum_append]
    simp
theorem add_mem (r : SR α) (t : α) (n : Nat) (u : α) : u ∈ keysR (addR r t n) ↔ u ∈ keysR r ∨ u = t := by
  rw [keys_add]
  split
  · rename_i c
    exact ⟨.inl, fun z => z.elim id fun e => e ▸ c⟩
  · rw [List.mem_append, List.mem_singleton]
/-- many adds, one behind the other -/
def adds (r : SR α) (l : List (α × Nat)) : SR α := l.foldl (fun r x => addR r x.1 x.2) r
theorem adds_facts : ∀ (l : List (α × Nat)) {r : SR α}, (keysR r).Nodup → (keysR (adds r l)).Nodup ∧ (∀ g, wsum g (adds r l) = wsum g r + (l.map fun x => x.2 * g x.1).sum) ∧ ∀ u, u ∈ keysR (adds r l) ↔ u ∈ keysR r ∨ u ∈ l.map (·.1)
  | [], r, h => ⟨h, fun g => rfl, fun u => ⟨.inl, fun z => z.elim id fun e => by cases e⟩⟩
  | x :: l, r, h => by
    obtain ⟨h1, h2, h3⟩ := adds_facts l (add_nodup h x.1 x.2)
    refine ⟨h1, fun g => ?_, fun u => ?_⟩
    · show wsum g (adds (addR r x.1 x.2) l) = _
      rw [h2, add_sum g h, List.map_cons, List.sum_cons]
      omega
    · show u ∈ keysR (adds (addR r x.1 x.2) l) ↔ _
      rw [h3, add_mem, List.map_cons, List.mem_cons, or_assoc]
theorem wsum_one {r : SR α} (h : (keysR r).Nodup) (t : α) : wsum (fun u => if u = t then 1 else 0) r = (valR r t).getD 0 := by
  unfold wsum valR
  induction r with
  | nil => rfl
  | cons a r ih =>
    obtain ⟨h1, h2⟩ := List.nodup_cons.mp h
    rw [List.map_cons, List.sum_cons, ih h2, List.find?_cons]
    show a.2 * (if a.1 = t then 1 else 0) + _ = _
    by_cases c : a.1 = t
    · rw [decide_eq_true c, if_pos c]
      have e : (List.find? (fun x : α × Nat => decide (x.1 = t)) r) = none := List.find?_eq_none.mpr fun x hx z => h1 (List.mem_map.mpr ⟨x, hx, (of_decide_eq_true z).trans c.symm⟩)
      rw [e]
      show a.2 * 1 + 0 = a.2
      omega
    · rw [decide_eq_false c, if_neg c, Nat.mul_zero, Nat.zero_add]
end
theorem count_filter {α : Type} (l : List α) (p : α → Prop) [DecidablePred p] : (l.map fun x => if p x then 1 else 0).sum = (l.filter p).length := by
  induction l with
  | nil => rfl
  | cons a l ih =>
    rw [List.map_cons, List.sum_cons, ih, List.filter_cons]
    by_cases c : p a
    · rw [if_pos c, decide_eq_true c, if_pos rfl, List.length_cons, Nat.add_comm]
    · rw [if_neg c, decide_eq_false c, if_neg (by decide), Nat.zero_add]
theorem sum_flatMap {α β : Type} (l : List α) (f : α → List β) (g : β → Nat) : ((l.flatMap f).map g).sum = (l.map fun x => ((f x).map g).sum).sum := by
  induction l with
  | nil => rfl
  | cons a l ih => rw [List.flatMap_cons, List.map_append, List.sum_append, ih, List.map_cons, List.sum_cons]
section
variable {α : Type} [DecidableEq α]
/-- a number put to a thing -/
def setR (r : SR α) (t : α) (n : Nat) : SR α := if (valR r t).isSome then r.map (fun x => if x.1 = t then (x.1, n) else x) else r ++ [(t, n)]
theorem addR_set (r : SR α) (t : α) (n : Nat) : addR r t n = setR r t ((valR r t).getD 0 + n) := by
  unfold addR setR
  cases h : valR r t with
  | none => simp
  | some k => rfl
theorem valR_set (r : SR α) (t u : α) (n : Nat) : valR (setR r t n) u = if u = t then some n else valR r u := by
  unfold setR
  by_cases c : (valR r t).isSome = true
  · rw [if_pos c]
    have e : ∀ r : SR α, valR (r.map fun x => if x.1 = t then (x.1, n) else x) u = if u = t then (valR r t).map (fun _ => n) else valR r u := by
      intro r
      induction r with
      | nil => by_cases h : u = t <;> simp [valR, h]
      | cons a r ih =>
        unfold valR at ih ⊢
        rw [List.map_cons, List.find?_cons, List.find?_cons, List.find?_cons]
        by_cases h1 : a.1 = t
        · rw [if_pos h1, decide_eq_true h1]
          by_cases h2 : u = t
          · rw [if_pos h2, decide_eq_true (show a.1 = u by rw [h1, h2])]
            rfl
          · rw [if_neg h2, decide_eq_false (show ¬ a.1 = u by rw [h1]; exact Ne.symm h2)]
            rw [if_neg h2] at ih
            exact ih
        · rw [if_neg h1, decide_eq_false h1]
          by_cases h2 : u = t
          · rw [if_pos h2, decide_eq_false (show ¬ a.1 = u by rw [h2]; exact h1)]
            rw [if_pos h2] at ih
            exact ih
          · rw [if_neg h2]
            by_cases h3 : a.1 = u
            · rw [decide_eq_true h3]
            · rw [decide_eq_false h3]
              rw [if_neg h2] at ih
              exact ih
    rw [e]
    by_cases h : u = t
    · rw [if_pos h, if_pos h]
      cases hv : valR r t with
      | none => rw [hv] at c; cases c
      | some k => rfl
    · rw [if_neg h, if_neg h]
  · rw [if_neg c]
    unfold valR
    rw [List.find?_append]
    by_cases h : u = t
    · have e : List.find? (fun x : α × Nat => decide (x.1 = u)) r = none := by
        have : valR r u = none := by
          rw [h]
          cases hv : valR r t with
          | none => rfl
          | some k => rw [hv] at c; exact absurd rfl c
        exact Option.map_eq_none_iff.mp this
      rw [e, if_pos h, h]
      simp
    · rw [if_neg h]
      have : List.find? (fun x : α × Nat => decide (x.1 = u)) [(t, n)] = none := by
        simp [Ne.symm h]
      rw [this, Option.or_none]
end
section
variable {α : Type} [DecidableEq α]
theorem keys_set (r : SR α) (t : α) (n : Nat) : keysR (setR r t n) = if t ∈ keysR r then keysR r else keysR r ++ [t] := by
  unfold setR
  by_cases c : t ∈ keysR r
  · rw [if_pos c, if_pos (valR_some.mpr c)]
    unfold keysR
    rw [List.map_map]
    refine List.map_congr_left fun x _ => ?_
    show (if x.1 = t then (x.1, n) else x).1 = _
    split <;> rfl
  · rw [if_neg c, if_neg (fun z => c (valR_some.mp z))]
    unfold keysR
    rw [List.map_append]
    rfl
theorem set_nodup {r : SR α} (h : (keysR r).Nodup) (t : α) (n : Nat) : (keysR (setR r t n)).Nodup := by
  rw [keys_set]
  split
  · exact h
  · rename_i c
    exact List.nodup_append.mpr ⟨h, by simp, fun a ha b hb => by
      rw [List.mem_singleton.mp hb]
      exact fun z => c (z ▸ ha)⟩
theorem set_mem (r : SR α) (t : α) (n : Nat) (u : α) : u ∈ keysR (setR r t n) ↔ u ∈ keysR r ∨ u = t := by
  rw [keys_set]
  split
  · rename_i c
    exact ⟨.inl, fun z => z.elim id fun e => e ▸ c⟩
  · rw [List.mem_append, List.mem_singleton]
end
end St
namespace St
open PySem PySem.Spec PyProof.Rows L2
/-! ### fillings of a text some signs of which were not read -/
/-- the signs that can stand at a sign: one that was read, or not -/
def atS : Option Bool → List Bool
  | none => [false, true]
  | some b => [b]
abbrev SRow := SR St3
def stepR (m : Nat) (r : SRow) (o : Option Bool) : SRow := r.foldl (fun later x => (atS o).foldl (fun later b => addR later (nxS m x.1 b) ((valR r x.1).getD 0)) later) []
/-- the row behind so many signs -/
def rowAt (m : Nat) (l : List (Option Bool)) (i : Nat) : SRow := (l.take i).foldl (stepR m) [((0, 0, 0), 1)]
theorem rowAt_succ (m : Nat) {l : List (Option Bool)} {i : Nat} {o : Option Bool} (h : l[i]? = Option.some o) : rowAt m l (i + 1) = stepR m (rowAt m l i) o := by
  unfold rowAt
  rw [take_more h, List.foldl_append]
  rfl
theorem step_adds (m : Nat) (r : SRow) (o : Option Bool) (q : SRow) (later : SRow) : q.foldl (fun later x => (atS o).foldl (fun later b => addR later (nxS m x.1 b) ((valR r x.1).getD 0)) later) later = adds later (q.flatMap fun x => (atS o).map fun b => (nxS m x.1 b, (valR r x.1).getD 0)) := by
  unfold adds
  rw [List.flatMap_def, List.foldl_flatten, List.foldl_map]
  congr 1
  funext later x
  rw [List.foldl_map]
theorem step_facts (m : Nat) {r : SRow} (h : (keysR r).Nodup) (o : Option Bool) : (keysR (stepR m r o)).Nodup ∧ (∀ g, wsum g (stepR m r o) = wsum (fun t => ((atS o).map fun b => g (nxS m t b)).sum) r) ∧ ∀ u, u ∈ keysR (stepR m r o) ↔ ∃ t ∈ keysR r, ∃ b ∈ atS o, nxS m t b = u := by
  unfold stepR
  rw [step_adds]
  obtain ⟨h1, h2, h3⟩ := adds_facts (r.flatMap fun x => (atS o).map fun b => (nxS m x.1 b, (valR r x.1).getD 0)) (r := []) List.nodup_nil
  refine ⟨h1, fun g => ?_, fun u => ?_⟩
  · rw [h2, sum_flatMap]
    show 0 + _ = _
    rw [Nat.zero_add]
    unfold wsum
    congr 1
    refine List.map_congr_left fun x hx => ?_
    rw [valR_mem h (show (x.1, x.2) ∈ r from hx), List.map_map]
    show ((atS o).map fun b => x.2 * g (nxS m x.1 b)).sum = x.2 * ((atS o).map fun b => g (nxS m x.1 b)).sum
    rcases o with _ | b
    · simp [atS, Nat.mul_add]
    · simp [atS]
  · rw [h3]
    constructor
    · rintro (z | z)
      · cases z
      · obtain ⟨y, hy, rfl⟩ := List.mem_map.mp z
        obtain ⟨x, hx, hy⟩ := List.mem_flatMap.mp hy
        obtain ⟨b, hb, rfl⟩ := List.mem_map.mp hy
        exact ⟨x.1, List.mem_map.mpr ⟨x, hx, rfl⟩, b, hb, rfl⟩
    · rintro ⟨t, ht, b, hb, rfl⟩
      obtain ⟨x, hx, rfl⟩ := List.mem_map.mp ht
      refine .inr (List.mem_map.mpr ⟨_, List.mem_flatMap.mpr ⟨x, hx, List.mem_map.mpr ⟨b, hb, rfl⟩⟩, rfl⟩)
/-- all texts that have the signs that were read, ascending -/
def expand (l : List (Option Bool)) : List (List Bool) := l.foldl (fun some o => some.flatMap fun f => (atS o).map fun b => f ++ [b]) [[]]
theorem expand_snoc (l : List (Option Bool)) (o : Option Bool) : expand (l ++ [o]) = (expand l).flatMap fun f => (atS o).map fun b => f ++ [b] := by
  unfold expand
  rw [List.foldl_append]
  rfl
def Fit : List (Option Bool) → List Bool → Prop
  | [], [] => True
  | o :: l, b :: f => b ∈ atS o ∧ Fit l f
  | _, _ => False
theorem fit_len : ∀ {l : List (Option Bool)} {f : List Bool}, Fit l f → f.length = l.length
  | [], [], _ => rfl
  | _ :: l, _ :: f, h => congrArg (· + 1) (fit_len (l := l) (f := f) h.2)
  | [], _ :: _, h => h.elim
  | _ :: _, [], h => h.elim
theorem fit_app : ∀ {l k : List (Option Bool)} {f g : List Bool}, Fit l f → (Fit (l ++ k) (f ++ g) ↔ Fit k g)
  | [], _, [], _, _ => Iff.rfl
  | _ :: l, k, _ :: f, g, h => ⟨fun z => (fit_app h.2).mp z.2, fun z => ⟨h.1, (fit_app h.2).mpr z⟩⟩
  | [], _, _ :: _, _, h => h.elim
  | _ :: _, _, [], _, h => h.elim
theorem fit_split : ∀ {l k : List (Option Bool)} {f : List Bool}, Fit (l ++ k) f → Fit l (f.take l.length) ∧ Fit k (f.drop l.length)
  | [], _, f, h => ⟨trivial, h⟩
  | _ :: l, k, _ :: f, h => ⟨⟨h.1, (fit_split h.2).1⟩, (fit_split (l := l) h.2).2⟩
  | _ :: _, _, [], h => h.elim
theorem mem_expand (f : List Bool) : ∀ (l : List (Option Bool)), f ∈ expand l ↔ Fit l f := by
  suffices H : ∀ (n : Nat) (l : List (Option Bool)) (f : List Bool), l.length = n → (f ∈ expand l ↔ Fit l f) from fun l => H _ l f rfl
  intro n
  induction n with
  | zero =>
    intro l f h
    cases List.length_eq_zero_iff.mp h
    cases f with
    | nil => exact ⟨fun _ => trivial, fun _ => List.mem_singleton.mpr rfl⟩
    | cons b f => exact ⟨fun z => (by simp [expand] at z), fun z => z.elim⟩
  | succ n ih =>
    intro l f h
    rcases snocL l with rfl | ⟨p, o, rfl⟩
    · cases h
    rw [List.length_append, List.length_singleton] at h
    rw [expand_snoc]
    constructor
    · intro z
      obtain ⟨g, hg, z⟩ := List.mem_flatMap.mp z
      obtain ⟨b, hb, rfl⟩ := List.mem_map.mp z
      exact (fit_app ((ih p g (by omega)).mp hg)).mpr ⟨hb, trivial⟩
    · intro z
      have hl := fit_len z
      obtain ⟨z1, z2⟩ := fit_split z
      rw [List.length_append, List.length_singleton] at hl
      have e : f = f.take p.length ++ f.drop p.length := (List.take_append_drop _ _).symm
      have e2 : (f.drop p.length).length = 1 := by rw [List.length_drop]; omega
      obtain ⟨b, hb⟩ := List.length_eq_one_iff.mp e2
      rw [hb] at z2 e
      exact List.mem_flatMap.mpr ⟨f.take p.length, (ih p _ (by omega)).mpr z1, List.mem_map.mpr ⟨b, z2.1, e.symm⟩⟩
theorem fit_get : ∀ {l : List (Option Bool)} {f : List Bool}, Fit l f → ∀ {i : Nat} {o : Option Bool}, l[i]? = some o → ∃ b ∈ atS o, f[i]? = some b
  | [], [], _, i, o, h => by simp at h
  | o' :: l, b :: f, hf, 0, o, h => by
    cases Option.some.inj (show some o' = some o from h)
    exact ⟨b, hf.1, rfl⟩
  | o' :: l, b :: f, hf, i + 1, o, h => fit_get (l := l) (f := f) hf.2 (i := i) (by simpa using h)
  | [], _ :: _, h, _, _, _ => h.elim
  | _ :: _, [], h, _, _, _ => h.elim
/-- what a row stands for -/
theorem row_facts (m : Nat) (l : List (Option Bool)) : ∀ i, i ≤ l.length → (keysR (rowAt m l i)).Nodup ∧ (∀ g : St3 → Nat, wsum g (rowAt m l i) = ((expand (l.take i)).map fun f => g (run m AtE f)).sum) ∧ ∀ u, u ∈ keysR (rowAt m l i) ↔ ∃ f ∈ expand (l.take i), run m AtE f = u
  | 0, _ => by
    refine ⟨by simp [rowAt, keysR], fun g => by simp [rowAt, wsum, expand, run], fun u => ?_⟩
    simp [rowAt, keysR, expand, run]
    exact eq_comm
  | i + 1, h => by
    obtain ⟨h1, h2, h3⟩ := row_facts m l i (by omega)
    have e : l[i]? = some l[i] := List.getElem?_eq_getElem (by omega)
    obtain ⟨q1, q2, q3⟩ := step_facts m h1 l[i]
    rw [rowAt_succ m e, take_more e, expand_snoc]
    refine ⟨q1, fun g => ?_, fun u => ?_⟩
    · rw [q2, h2, sum_flatMap]
      congr 1
      refine List.map_congr_left fun f _ => ?_
      rw [List.map_map]
      congr 1
      refine List.map_congr_left fun b _ => ?_
      show _ = g (run m AtE (f ++ [b]))
      rw [run_app]
      rfl
    · rw [q3]
      constructor
      · rintro ⟨t, ht, b, hb, rfl⟩
        obtain ⟨f, hf, rfl⟩ := (h3 t).mp ht
        exact ⟨f ++ [b], List.mem_flatMap.mpr ⟨f, hf, List.mem_map.mpr ⟨b, hb, rfl⟩⟩, by rw [run_app]; rfl⟩
      · rintro ⟨f', hf0, rfl⟩
        obtain ⟨f, hf, z⟩ := List.mem_flatMap.mp hf0
        obtain ⟨b, hb, rfl⟩ := List.mem_map.mp z
        exact ⟨run m AtE f, (h3 _).mpr ⟨f, hf, rfl⟩, b, hb, by rw [run_app]; rfl⟩
/-- all fillings that are rows of words, ascending -/
def filled (m : Nat) (l : List (Option Bool)) : List (List Bool) := (expand l).filter fun f => run m AtE f = AtE
theorem fillings_count (m : Nat) (l : List (Option Bool)) : (valR (rowAt m l l.length) AtE).getD 0 = (filled m l).length := by
  obtain ⟨h1, h2, _⟩ := row_facts m l l.length (Nat.le_refl _)
  rw [← wsum_one h1, h2, List.take_length]
  exact count_filter (expand l) fun f => run m AtE f = AtE
/-! ### what can still come to an end -/
/-- the standings, behind all but j signs, of fillings that come to an end -/
def lvR (m : Nat) (l : List (Option Bool)) : Nat → List St3
  | 0 => if (valR (rowAt m l l.length) AtE).isSome then [AtE] else []
  | j + 1 => (keysR (rowAt m l (l.length - (j + 1)))).filter fun t => (atS ((l[l.length - (j + 1)]?).getD none)).any fun b => decide (nxS m t b ∈ lvR m l j)
theorem lv_mem (m : Nat) (l : List (Option Bool)) : ∀ j, j ≤ l.length → ∀ t, t ∈ lvR m l j ↔ t ∈ keysR (rowAt m l (l.length - j)) ∧ ∃ g, Fit (l.drop (l.length - j)) g ∧ run m t g = AtE
  | 0, _, t => by
    rw [lvR, Nat.sub_zero, List.drop_length]
    constructor
    · intro h
      split at h
      · rename_i c
        rw [List.mem_singleton.mp h]
        exact ⟨valR_some.mp c, [], trivial, rfl⟩
      · cases h
    · rintro ⟨h1, g, h2, h3⟩
      cases g with
      | cons => exact h2.elim
      | nil =>
        have : t = AtE := h3
        subst this
        rw [if_pos (valR_some.mpr h1)]
        exact List.mem_singleton.mpr rfl
  | j + 1, hj, t => by
    have ih := lv_mem m l j (by omega)
    obtain ⟨i, hi⟩ : ∃ i, i = l.length - (j + 1) := ⟨_, rfl⟩
    have e1 : l.length - j = i + 1 := by omega
    have e2 : l[i]? = some l[i] := List.getElem?_eq_getElem (by omega)
    rw [lvR, ← hi, List.mem_filter, e2, List.any_eq_true]
    rw [e1] at ih
    obtain ⟨k1, _, _⟩ := row_facts m l i (by omega)
    have key := (step_facts m k1 l[i]).2.2
    rw [← rowAt_succ m e2] at key
    have ed : l.drop i = l[i] :: l.drop (i + 1) := List.drop_eq_getElem_cons (by omega)
    rw [ed]
    constructor
    · rintro ⟨h1, b, hb, h2⟩
      obtain ⟨h3, g, h4, h5⟩ := (ih _).mp (of_decide_eq_true h2)
      exact ⟨h1, b :: g, ⟨hb, h4⟩, h5⟩
    · rintro ⟨h1, g, h2, h3⟩
      cases g with
      | nil => exact h2.elim
      | cons b g => exact ⟨h1, b, h2.1, decide_eq_true ((ih _).mpr ⟨(key _).mpr ⟨t, h1, b, h2.1, rfl⟩, g, h2.2, h3⟩)⟩
theorem lv_nodup (m : Nat) (l : List (Option Bool)) : ∀ j, (lvR m l j).Nodup
  | 0 => by
    rw [lvR]
    split <;> simp
  | j + 1 => List.Nodup.sublist List.filter_sublist (row_facts m l _ (Nat.sub_le _ _)).1
/-- the same by fillings: the standings behind i signs -/
theorem lv_filled (m : Nat) (l : List (Option Bool)) (i : Nat) (hi : i ≤ l.length) (t : St3) : t ∈ lvR m l (l.length - i) ↔ ∃ f ∈ filled m l, run m AtE (f.take i) = t := by
  rw [lv_mem m l _ (Nat.sub_le _ _), show l.length - (l.length - i) = i by omega, (row_facts m l i hi).2.2]
  have hl : (l.take i).length = i := by rw [List.length_take]; omega
  constructor
  · rintro ⟨⟨f, h1, rfl⟩, g, h2, h3⟩
    have hf := (mem_expand f _).mp h1
    have hfl := fit_len hf
    rw [hl] at hfl
    refine ⟨f ++ g, List.mem_filter.mpr ⟨(mem_expand _ _).mpr ?_, decide_eq_true ?_⟩, ?_⟩
    · have := (fit_app (k := l.drop i) (g := g) hf).mpr h2
      rwa [List.take_append_drop] at this
    · rw [run_app]; exact h3
    · rw [List.take_left' hfl]
  · rintro ⟨f, h1, rfl⟩
    obtain ⟨h2, h3⟩ := List.mem_filter.mp h1
    have hf := (mem_expand f _).mp h2
    have h3 := of_decide_eq_true h3
    rw [← List.take_append_drop i l] at hf
    obtain ⟨a, b⟩ := fit_split hf
    rw [hl] at a b
    refine ⟨⟨_, (mem_expand _ _).mpr a, rfl⟩, _, b, ?_⟩
    rw [← run_app, List.take_append_drop]
    exact h3
theorem row_std (m : Nat) (l : List (Option Bool)) {i : Nat} (hi : i ≤ l.length) : ∀ t ∈ keysR (rowAt m l i), Std m t := fun t ht => by
  obtain ⟨f, _, rfl⟩ := ((row_facts m l i hi).2.2 t).mp ht
  exact std_run f (.inl rfl)
theorem row_len {m : Nat} (h64 : m ≤ 64) (l : List (Option Bool)) {i : Nat} (hi : i ≤ l.length) : (rowAt m l i).length ≤ 1536 := by
  have := std_len h64 (row_facts m l i hi).1 (row_std m l hi)
  rwa [keysR, List.length_map] at this
theorem lv_std (m : Nat) (l : List (Option Bool)) (j : Nat) (hj : j ≤ l.length) : ∀ t ∈ lvR m l j, Std m t := fun t ht => row_std m l (Nat.sub_le _ _) t ((lv_mem m l j hj t).mp ht).1
def holes (l : List (Option Bool)) : Nat := (l.filter fun o => o == none).length
theorem flat_len (xs : List (List Bool)) (o : Option Bool) : (xs.flatMap fun f => (atS o).map fun b => f ++ [b]).length = xs.length * (if o = none then 2 else 1) := by
  induction xs with
  | nil => simp
  | cons a xs ih =>
    rw [List.flatMap_cons, List.length_append, ih, List.length_map, List.length_cons, Nat.add_mul]
    rcases o with _ | b
    · simp [atS]; omega
    · simp [atS]; omega
theorem expand_len (l : List (Option Bool)) : (expand l).length = 2 ^ holes l := by
  suffices H : ∀ (n : Nat) (l : List (Option Bool)), l.length = n → (expand l).length = 2 ^ holes l from H _ l rfl
  intro n
  induction n with
  | zero =>
    intro l h
    cases List.length_eq_zero_iff.mp h
    rfl
  | succ n ih =>
    intro l h
    rcases snocL l with rfl | ⟨p, o, rfl⟩
    · cases h
    rw [List.length_append, List.length_singleton] at h
    rw [expand_snoc, flat_len, ih p (by omega)]
    unfold holes
    rw [List.filter_append, List.length_append]
    rcases o with _ | b
    · simp [Nat.pow_succ]
    · simp
theorem holes_take (l : List (Option Bool)) (i : Nat) : holes (l.take i) ≤ holes l := by
  unfold holes
  conv => rhs; rw [← List.take_append_drop i l]
  rw [List.filter_append, List.length_append]
  omega
theorem filled_len (m : Nat) (l : List (Option Bool)) : (filled m l).length ≤ 2 ^ holes l := by
  rw [← expand_len]
  exact List.length_filter_le _ _
theorem expand_mem_len {l : List (Option Bool)} {f : List Bool} (h : f ∈ expand l) : f.length = l.length := fit_len ((mem_expand f l).mp h)
/-- the same signs, some not read -/
def Weak (l l' : List (Option Bool)) : Prop := l'.length = l.length ∧ ∀ (i : Nat) (o : Option Bool), l'[i]? = some o → o = none ∨ l[i]? = some o
theorem weak_refl (l : List (Option Bool)) : Weak l l := ⟨rfl, fun i o h => .inr h⟩
theorem weak_set {l l' : List (Option Bool)} (h : Weak l l') (s : Nat) : Weak l (l'.set s none) := by
  refine ⟨by rw [List.length_set]; exact h.1, fun i o e => ?_⟩
  rw [List.getElem?_set] at e
  split at e
  · split at e
    · exact .inl (Option.some.inj e).symm
    · cases e
  · exact h.2 i o e
theorem holes_set (l : List (Option Bool)) (s : Nat) : holes (l.set s none) ≤ holes l + 1 := by
  unfold holes
  induction l generalizing s with
  | nil => simp
  | cons a l ih =>
    cases s with
    | zero =>
      rw [List.set_cons_zero, List.filter_cons, List.filter_cons]
      split <;> split <;> simp_all
    | succ s =>
      rw [List.set_cons_succ, List.filter_cons, List.filter_cons]
      have := ih s
      split
      · rw [List.length_cons, List.length_cons]
        omega
      · exact this
theorem weak_fit : ∀ {l : List Bool} {l' : List (Option Bool)}, Weak (l.map some) l' → Fit l' l
  | [], [], _ => trivial
  | [], _ :: _, h => by have := h.1; simp at this
  | _ :: _, [], h => by have := h.1; simp at this
  | b :: l, o :: l', h => by
    have h0 := h.2 0 o rfl
    refine ⟨?_, weak_fit ⟨by have := h.1; simpa using this, fun i o e => by have := h.2 (i + 1) o (by simpa using e); simpa using this⟩⟩
    rcases h0 with rfl | h0
    · cases b <;> simp [atS]
    · cases (show some (some b) = some o from by simpa using h0)
      simp [atS]
end St
namespace St
open PySem PySem.Spec PyProof.Rows L2
/-! ### rows as dicts -/
def stV (t : Nat × Nat × Nat) : List V := [.int (t.1 : Nat), .int (t.2.1 : Nat), .int (t.2.2 : Nat)]
def nkS (t : St3) : NestedKey := .tup [.num (t.1 : Nat), .num (t.2.1 : Nat), .num (t.2.2 : Nat)]
theorem nkS_inj {t u : St3} (h : nkS t = nkS u) : t = u := by
  obtain ⟨a, b, c⟩ := t
  obtain ⟨x, y, z⟩ := u
  simp only [nkS, NestedKey.tup.injEq, List.cons.injEq, NestedKey.num.injEq, Int.ofNat_inj, and_true] at h
  obtain ⟨h1, h2, h3⟩ := h
  rw [h1, h2, h3]
theorem nkS_at {K : PySem.W.Frag} {H : Hp} {b : Addr} {t : St3} (h : SqT K H b (stV t)) : NkAt K H b (nkS t) := ⟨.tup h (.cons (.int _) (.cons (.int _) (.cons (.int _) .nil))), by simp [nkS, NestedKey.depth, NestedKey.depthAll]⟩
theorem nkS_of {K : PySem.W.Frag} {H : Hp} {b : Addr} {t : St3} (h : NkAt K H b (nkS t)) : SqT K H b (stV t) := by
  obtain ⟨h, _⟩ := h
  have h : Dp K H (.ref b) (.tuple [.int (t.1 : Nat), .int (t.2.1 : Nat), .int (t.2.2 : Nat)]) := h
  cases h with
  | tup hq hd =>
    cases hd with
    | cons a1 hd =>
      cases hd with
      | cons a2 hd =>
        cases hd with
        | cons a3 hd =>
          cases hd
          cases a1
          cases a2
          cases a3
          exact hq
/-! all but dicts that are not locked stands as it was -/
def SmT (H H' : Hp) : Prop := ∀ b u, H b = some u → (∀ f, u ≠ .ext f) → H' b = some u
theorem SmT.refl (H : Hp) : SmT H H := fun _ _ h _ => h
theorem SmT.trans {A B C : Hp} (h : SmT A B) (k : SmT B C) : SmT A C := fun b u e n => k b u (h b u e n) n
theorem SmT.of {H H' : Hp} (h : Same H H') : SmT H H' := fun b u e _ => h b u e
theorem SmT.dv {P : Program} {w : World} {H : Hp} {d : Addr} {xs : List DEnt} {o : HO} (e : H d = some (DV P w d xs)) : SmT H (upd H d o) := fun b u h n => by
  rw [upd_ne (fun z => by rw [z, e] at h; exact n _ (Option.some.inj h).symm)]
  exact h
theorem SqT.smT {K : PySem.W.Frag} {H H' : Hp} {a : Addr} {xs : List V} (s : SmT H H') (h : SqT K H a xs) : SqT K H' a xs := by
  rcases h with (h | ⟨o, h⟩) | h
  · exact .inl (.inl (s _ _ h fun f z => by cases z))
  · exact .inl (.inr ⟨o, s _ _ h fun f z => by cases z⟩)
  · exact .inr h
theorem SqL.smT {K : PySem.W.Frag} {H H' : Hp} {a : Addr} {xs : List V} (s : SmT H H') (h : SqL K H a xs) : SqL K H' a xs := by
  rcases h with (h | ⟨o, h⟩) | h
  · exact .inl (.inl (s _ _ h fun f z => by cases z))
  · exact .inl (.inr ⟨o, s _ _ h fun f z => by cases z⟩)
  · exact .inr h
mutual
theorem Dp.smT {K : PySem.W.Frag} {H H' : Hp} (s : SmT H H') : ∀ {v : V} {d : PyData}, Dp K H v d → Dp K H' v d
  | _, _, .non => .non
  | _, _, .bl b => .bl b
  | _, _, .int i => .int i
  | _, _, .str x => .str x
  | _, _, .lst h t => .lst (SqL.smT s h) (DpAll.smT s t)
  | _, _, .tup h t => .tup (SqT.smT s h) (DpAll.smT s t)
theorem DpAll.smT {K : PySem.W.Frag} {H H' : Hp} (s : SmT H H') : ∀ {v : List V} {d : List PyData}, DpAll K H v d → DpAll K H' v d
  | _, _, .nil => .nil
  | _, _, .cons h t => .cons (Dp.smT s h) (DpAll.smT s t)
end
theorem NkAt.smT {K : PySem.W.Frag} {H H' : Hp} {b : Addr} {k : NestedKey} (s : SmT H H') (h : NkAt K H b k) : NkAt K H' b k := ⟨Dp.smT s h.1, h.2⟩
/-! all but dicts that are not locked and lists stands as it was -/
def SmU (H H' : Hp) : Prop := ∀ b u, H b = some u → (∀ f, u ≠ .ext f) → (∀ xs, u ≠ .lst xs) → H' b = some u
theorem SmU.of {H H' : Hp} (h : SmT H H') : SmU H H' := fun b u e n _ => h b u e n
theorem SmU.refl (H : Hp) : SmU H H := fun _ _ h _ _ => h
theorem SmU.trans {A B C : Hp} (h : SmU A B) (k : SmU B C) : SmU A C := fun b u e n m => k b u (h b u e n m) n m
theorem SmU.lst {H : Hp} {d : Addr} {xs : List V} {o : HO} (e : H d = some (.lst xs)) : SmU H (upd H d o) := fun b u h n m => by
  rw [upd_ne (fun z => by rw [z, e] at h; exact m _ (Option.some.inj h).symm)]
  exact h
theorem SqT.smU {K : PySem.W.Frag} {H H' : Hp} {a : Addr} {xs : List V} (s : SmU H H') (h : SqT K H a xs) : SqT K H' a xs := by
  rcases h with (h | ⟨o, h⟩) | h
  · exact .inl (.inl (s _ _ h (fun f z => by cases z) fun f z => by cases z))
  · exact .inl (.inr ⟨o, s _ _ h (fun f z => by cases z) fun f z => by cases z⟩)
  · exact .inr h
mutual
theorem nkd_smU {K : PySem.W.Frag} {H H' : Hp} (s : SmU H H') : ∀ (k : NestedKey) (v : V), Dp K H v k.data → Dp K H' v k.data
  | .none, _, h => by
    cases h
    exact .non
  | .num i, _, h => by
    cases h
    exact .int _
  | .text x, _, h => by
    cases h
    exact .str _
  | .tup ks, _, h => by
    cases h with
    | tup hq hd => exact .tup (SqT.smU s hq) (nkds_smU s ks _ hd)
theorem nkds_smU {K : PySem.W.Frag} {H H' : Hp} (s : SmU H H') : ∀ (ks : List NestedKey) (vs : List V), DpAll K H vs (NestedKey.datas ks) → DpAll K H' vs (NestedKey.datas ks)
  | [], _, h => by
    cases h
    exact .nil
  | k :: ks, _, h => by
    cases h with
    | cons h1 h2 => exact .cons (nkd_smU s k _ h1) (nkds_smU s ks _ h2)
end
theorem NkAt.smU {K : PySem.W.Frag} {H H' : Hp} {b : Addr} {k : NestedKey} (s : SmU H H') (h : NkAt K H b k) : NkAt K H' b k := ⟨nkd_smU s k _ h.1, h.2⟩
section
variable {α : Type} [DecidableEq α] (nk : α → NestedKey)
/-- the entries of a dict are such a row -/
abbrev RowRel (K : PySem.W.Frag) (H : Hp) : List DEnt → SR α → Prop := Paired fun e r => e.1 = nk r.1 ∧ e.2.2 = V.int (r.2 : Nat) ∧ NkAt K H e.2.1 (nk r.1)
/-- the dict at d is such a row, locked or not -/
def RD (K : PySem.W.Frag) (P : Program) (w : World) (H : Hp) (d : Addr) (r : SR α) : Prop := ∃ xs, DAt K P w H d xs ∧ RowRel nk K H xs r
/-- the dict at d is such a row, not locked -/
def RW (K : PySem.W.Frag) (P : Program) (w : World) (H : Hp) (d : Addr) (r : SR α) : Prop := ∃ xs, H d = some (DV P w d xs) ∧ RowRel nk K H xs r
/-- the dict at d is such a row, locked -/
def RL (K : PySem.W.Frag) (P : Program) (w : World) (H : Hp) (d : Addr) (r : SR α) : Prop := ∃ od xs, H d = some (.frz od (DV P w d xs)) ∧ RowRel nk K H xs r
end
section
variable {α : Type} [DecidableEq α] {nk : α → NestedKey} {K : PySem.W.Frag} {P : Program} {w : World} {H H' : Hp} {xs : List DEnt} {r : SR α} {d : Addr}
theorem RowRel.val (hi : ∀ a b, nk a = nk b → a = b) (h : RowRel nk K H xs r) (t : α) : valD xs (nk t) = (valR r t).map fun n => V.int (n : Nat) := by
  unfold valD valR
  induction h with
  | nil => rfl
  | @cons e p l m a b ih =>
    rw [List.find?_cons, List.find?_cons]
    by_cases c : p.1 = t
    · have c' : e.1 = nk t := by rw [a.1, c]
      rw [decide_eq_true c, decide_eq_true c']
      exact congrArg some a.2.1
    · have c' : ¬ e.1 = nk t := fun z => c (hi _ _ (a.1.symm.trans z))
      rw [decide_eq_false c, decide_eq_false c']
      exact ih
theorem RowRel.some (hi : ∀ a b, nk a = nk b → a = b) (h : RowRel nk K H xs r) (t : α) : (valD xs (nk t)).isSome = (valR r t).isSome := by
  rw [h.val hi t]
  cases valR r t <;> rfl
theorem RowRel.set (hi : ∀ a b, nk a = nk b → a = b) (h : RowRel nk K H xs r) {t : α} {b : Addr} (n : Nat) (hb : NkAt K H b (nk t)) : RowRel nk K H (putD xs (nk t) b (.int (n : Nat))) (setR r t n) := by
  unfold putD setR
  rw [h.some hi t]
  generalize (valR r t).isSome = vo
  cases vo with
  | true =>
    rw [if_pos rfl, if_pos rfl]
    induction h with
    | nil => exact .nil
    | @cons e p l m a c ih =>
      refine .cons ?_ ih
      by_cases d : p.1 = t
      · have d' : e.1 = nk t := by rw [a.1, d]
        simp only [if_pos d, if_pos d']
        exact ⟨a.1, trivial, a.2.2⟩
      · have d' : ¬ e.1 = nk t := fun z => d (hi _ _ (a.1.symm.trans z))
        simp only [if_neg d, if_neg d']
        exact a
  | false =>
    rw [if_neg (by decide), if_neg (by decide)]
    induction h with
    | nil => exact .cons ⟨rfl, rfl, hb⟩ .nil
    | cons a c ih => exact .cons a ih
theorem RowRel.smT (s : SmT H H') (h : RowRel nk K H xs r) : RowRel nk K H' xs r := by
  induction h with
  | nil => exact .nil
  | cons a b ih => exact .cons ⟨a.1, a.2.1, a.2.2.smT s⟩ ih
theorem RowRel.keys (h : RowRel nk K H xs r) : ∀ x ∈ xs, NkAt K H x.2.1 x.1 := by
  induction h with
  | nil => intro x hx; cases hx
  | @cons e p l m a b ih =>
    intro x hx
    rcases List.mem_cons.mp hx with rfl | hx
    · rw [a.1]
      exact a.2.2
    · exact ih x hx
theorem RowRel.get (h : RowRel nk K H xs r) : ∀ {j : Nat} {k : NestedKey} {b : Addr} {v : V}, xs[j]? = Option.some (k, b, v) → ∃ x, r[j]? = Option.some x ∧ k = nk x.1 ∧ v = .int (x.2 : Nat) ∧ NkAt K H b (nk x.1) := by
  induction h with
  | nil => intro j k b v e; simp at e
  | @cons e p l m a t ih =>
    intro j k b v hj
    cases j with
    | zero =>
      cases Option.some.inj (show Option.some e = Option.some (k, b, v) from hj)
      exact ⟨p, rfl, a.1, a.2.1, a.2.2⟩
    | succ j => exact ih hj
theorem RowRel.len (h : RowRel nk K H xs r) : xs.length = r.length := Paired.length h
theorem RW.rd (h : RW nk K P w H d r) : RD nk K P w H d r := by
  obtain ⟨xs, e, x⟩ := h
  exact ⟨xs, ⟨.inl e, x.keys⟩, x⟩
theorem RL.rd (h : RL nk K P w H d r) : RD nk K P w H d r := by
  obtain ⟨od, xs, e, x⟩ := h
  exact ⟨xs, ⟨.inr ⟨od, e⟩, x.keys⟩, x⟩
theorem RL.smT (s : SmT H H') (h : RL nk K P w H d r) : RL nk K P w H' d r := by
  obtain ⟨od, xs, e, x⟩ := h
  exact ⟨od, xs, s _ _ e fun f z => (by cases z), x.smT s⟩
theorem RW.smT (s : SmT H H') (e : H' d = H d) (h : RW nk K P w H d r) : RW nk K P w H' d r := by
  obtain ⟨xs, z, x⟩ := h
  exact ⟨xs, e.trans z, x.smT s⟩
theorem RD.same (s : Same H H') (h : RD nk K P w H d r) : RD nk K P w H' d r := by
  obtain ⟨xs, ⟨e, z⟩, x⟩ := h
  refine ⟨xs, ⟨?_, (x.smT (.of s)).keys⟩, x.smT (.of s)⟩
  rcases e with e | ⟨o, e⟩
  · exact .inl (s _ _ e)
  · exact .inr ⟨o, s _ _ e⟩
/-- what the dict has at a key -/
theorem RD.at_ (hi : ∀ a b, nk a = nk b → a = b) (h : RD nk K P w H d r) {t : α} {n : Nat} (hv : valR r t = Option.some n) : ∃ xs, DAt K P w H d xs ∧ valD xs (nk t) = Option.some (.int (n : Nat)) := by
  obtain ⟨xs, a, x⟩ := h
  exact ⟨xs, a, by rw [x.val hi, hv]; rfl⟩
/-- a put -/
theorem RW.put (hi : ∀ a b, nk a = nk b → a = b) (h : RW nk K P w H d r) {t : α} {b : Addr} (n : Nat) (hb : NkAt K H b (nk t)) : ∃ xs, H d = Option.some (DV P w d xs) ∧ (∀ x ∈ xs, NkAt K H x.2.1 x.1) ∧ xs.length = r.length ∧ RW nk K P w (upd H d (DV P w d (putD xs (nk t) b (.int (n : Nat))))) d (setR r t n) := by
  obtain ⟨xs, e, x⟩ := h
  exact ⟨xs, e, x.keys, x.len, _, upd_same, (x.set hi n hb).smT (.dv e)⟩
theorem RW.new (d : Addr) : RW nk K P w (upd H d (DV P w d [])) d [] := ⟨[], upd_same, .nil⟩
end
theorem RD.get0 {α : Type} [DecidableEq α] {nk : α → NestedKey} {K : PySem.W.Frag} {P : Program} {w : World} {H : Hp} {d : Addr} {r : SR α} (hi : ∀ a b, nk a = nk b → a = b) (h : RD nk K P w H d r) (t : α) (z : Nat) : ∃ xs, DAt K P w H d xs ∧ (valD xs (nk t)).getD (.int (z : Nat)) = .int (((valR r t).getD z : Nat) : Int) := by
  obtain ⟨xs, a, x⟩ := h
  refine ⟨xs, a, ?_⟩
  rw [x.val hi]
  cases valR r t <;> rfl
theorem RD.get00 {α : Type} [DecidableEq α] {nk : α → NestedKey} {K : PySem.W.Frag} {P : Program} {w : World} {H : Hp} {d : Addr} {r : SR α} (hi : ∀ a b, nk a = nk b → a = b) (h : RD nk K P w H d r) (t : α) : ∃ xs, DAt K P w H d xs ∧ (valD xs (nk t)).getD (.int 0) = .int (((valR r t).getD 0 : Nat) : Int) := RD.get0 hi h t 0
theorem hiS : ∀ a b : St3, nkS a = nkS b → a = b := fun _ _ h => nkS_inj h
/-! texts some signs of which were not read -/
/-- a sign that was read, or not -/
def sgQ : Option Bool → Str
  | none => "?"
  | some b => tx [b]
/-- the code of a sign -/
def cQ : Option Bool → Nat
  | Option.none => 63
  | Option.some false => 48
  | Option.some true => 49
theorem sgQ_code (o : Option Bool) : sgQ o = ⟨#[cQ o]⟩ := by
  rcases o with _ | _ | _ <;> decide +kernel
def txQ (l : List (Option Bool)) : Str := ⟨(l.map cQ).toArray⟩
theorem txQ_list (l : List (Option Bool)) : (txQ l).cps.toList = l.map cQ := by simp [txQ]
theorem txQ_len (l : List (Option Bool)) : (txQ l).length = l.length := by simp [txQ, Str.length]
theorem txQ_size (l : List (Option Bool)) : (txQ l).cps.size = l.length := by simp [txQ]
theorem at_last (us : List V) (v : V) : atI (us ++ [v]) (-1) = Option.some v := by
  unfold atI
  have e : ixN (us ++ [v]).length (-1) = Option.some us.length := by
    unfold ixN
    rw [List.length_append, List.length_singleton, if_neg (by decide), if_pos (by omega)]
    congr 1
    omega
  rw [e]
  show (us ++ [v])[us.length]? = _
  rw [List.getElem?_append_right (Nat.le_refl _), Nat.sub_self]
  rfl
theorem code_sg (b : Bool) : (⟨#[sg b]⟩ : Str) = tx [b] := rfl
section
variable {α : Type} [DecidableEq α] {nk : α → NestedKey} {K : PySem.W.Frag} {P : Program} {w : World} {H H' : Hp} {xs : List DEnt} {r : SR α} {d e : Addr}
theorem RD.lock {od : Obj} (hd : H e = Option.some (DV P w e xs)) (h : RD nk K P w H d r) : RD nk K P w (upd H e (.frz od (DV P w e xs))) d r := by
  obtain ⟨ys, ⟨a, _⟩, x⟩ := h
  have x' := x.smT (SmT.dv (o := .frz od (DV P w e xs)) hd)
  refine ⟨ys, ⟨?_, x'.keys⟩, x'⟩
  by_cases c : d = e
  · subst c
    rcases a with a | ⟨o, a⟩
    · refine .inr ⟨od, ?_⟩
      rw [upd_same]
      rw [hd] at a
      rw [Option.some.inj a]
    · rw [hd] at a
      cases Option.some.inj a
  · rcases a with a | ⟨o, a⟩
    · exact .inl (by rw [upd_ne c]; exact a)
    · exact .inr ⟨o, by rw [upd_ne c]; exact a⟩
theorem RD.smT (s : SmT H H') (k : H' d = H d) (h : RD nk K P w H d r) : RD nk K P w H' d r := by
  obtain ⟨ys, ⟨a, _⟩, x⟩ := h
  have x' := x.smT s
  refine ⟨ys, ⟨?_, x'.keys⟩, x'⟩
  rcases a with a | ⟨o, a⟩
  · exact .inl (k.trans a)
  · exact .inr ⟨o, k.trans a⟩
end
section
variable {α : Type} [DecidableEq α] {nk : α → NestedKey} {K : PySem.W.Frag} {P : Program} {w : World} {H H' : Hp} {xs : List DEnt} {r : SR α} {d e : Addr}
theorem RowRel.smU (s : SmU H H') (h : RowRel nk K H xs r) : RowRel nk K H' xs r := by
  induction h with
  | nil => exact .nil
  | cons a b ih => exact .cons ⟨a.1, a.2.1, a.2.2.smU s⟩ ih
theorem RL.smU (s : SmU H H') (h : RL nk K P w H d r) : RL nk K P w H' d r := by
  obtain ⟨od, xs, e, x⟩ := h
  exact ⟨od, xs, s _ _ e (fun f z => (by cases z)) fun f z => (by cases z), x.smU s⟩
theorem RW.smU (s : SmU H H') (e : H' d = H d) (h : RW nk K P w H d r) : RW nk K P w H' d r := by
  obtain ⟨xs, z, x⟩ := h
  exact ⟨xs, e.trans z, x.smU s⟩
theorem RW.ne {xs : List V} (h : RW nk K P w H d r) (k : H e = Option.some (.lst xs)) : d ≠ e := fun z => by
  obtain ⟨ys, y, _⟩ := h
  rw [z, k] at y
  cases y
theorem RW.nf (h : RW nk K P w H d r) (k : H e = none) : d ≠ e := fun z => by
  obtain ⟨ys, y, _⟩ := h
  rw [z, k] at y
  cases y
end
theorem txQ_in (l : List (Option Bool)) : ∀ c ∈ (txQ l).cps.toList, c ∈ (("01" : Str) ++ ("?" : Str)).cps.toList := fun c hc => by
  rw [txQ_list] at hc
  obtain ⟨o, _, rfl⟩ := List.mem_map.mp hc
  rcases o with _ | _ | _ <;> decide +kernel
theorem tx_in (l : List Bool) : ∀ c ∈ (tx l).cps.toList, c ∈ ("01" : Str).cps.toList := fun c hc => by
  rw [tx_list] at hc
  obtain ⟨o, _, rfl⟩ := List.mem_map.mp hc
  cases o <;> decide +kernel
theorem last_at {ds : List Addr} {n : Nat} (h : ds.length = n + 1) : ∃ dl, ds[n]? = some dl ∧ atI (ds.map V.ref) (-1) = some (.ref dl) := by
  rcases snocL ds with rfl | ⟨g, F, rfl⟩
  · cases h
  · rw [List.length_append, List.length_singleton] at h
    refine ⟨F, by rw [List.getElem?_append_right (by omega), show n - g.length = 0 by omega]; rfl, ?_⟩
    rw [List.map_append]
    exact at_last _ _
theorem ref_at {ds : List Addr} {i : Nat} {d : Addr} (h : ds[i]? = some d) : atI (ds.map V.ref) ((i : Nat) : Int) = some (.ref d) := by
  refine atI_nat ?_
  rw [List.getElem?_map, h]
  rfl
theorem cutQ_to (l : List (Option Bool)) (j : Nat) : cutS (txQ l) none (some (j : Int)) = txQ (l.take j) := by
  apply str_ext
  unfold cutS
  rw [txQ_list, txQ_len, HT.sIx_nat, HT.sIx_none, txQ_list, List.map_take, List.drop_zero, Nat.sub_zero]
  by_cases h : j ≤ l.length
  · rw [Nat.min_eq_left h]
  · rw [Nat.min_eq_right (by omega), List.take_of_length_le (by simp), List.take_of_length_le (by simp; omega)]
theorem cutQ_from (l : List (Option Bool)) (i : Nat) : cutS (txQ l) (some (i : Int)) none = txQ (l.drop i) := by
  apply str_ext
  unfold cutS
  rw [txQ_list, txQ_len, HT.sIx_nat, HT.sIx_none, txQ_list, List.map_drop]
  by_cases h : i ≤ l.length
  · rw [Nat.min_eq_left h, List.take_of_length_le (by simp)]
  · rw [Nat.min_eq_right (by omega), List.drop_eq_nil_of_le (by simp), List.drop_eq_nil_of_le (by simp; omega)]
    simp
theorem txQ_app (a b : List (Option Bool)) : txQ a ++ txQ b = txQ (a ++ b) := by
  apply str_ext
  rw [app_list, txQ_list, txQ_list, txQ_list, List.map_append]
theorem cQ_inj {a b : Option Bool} (h : cQ a = cQ b) : a = b := by
  rcases a with _ | _ | _ <;> rcases b with _ | _ | _ <;> first | rfl | (exact absurd h (by decide))
theorem txQ_inj {a b : List (Option Bool)} (h : txQ a = txQ b) : a = b := by
  have e : a.map cQ = b.map cQ := by rw [← txQ_list, ← txQ_list, h]
  exact (List.map_inj_right (fun _ _ h => cQ_inj h)).mp e
theorem txQ_some (l : List Bool) : txQ (l.map some) = tx l := by
  apply str_ext
  rw [txQ_list, tx_list, List.map_map]
  refine List.map_congr_left fun b _ => ?_
  cases b <;> rfl
theorem txQ_hole : ("?" : Str) = txQ [none] := by decide +kernel
theorem txQ_nil : ("" : Str) = txQ [] := by decide +kernel
end St
namespace St
open PySem PySem.Spec PyProof.Rows L2
/-! ### lists of standings -/
def stD (t : St3) : PyData := .tuple [.int (t.1 : Nat), .int (t.2.1 : Nat), .int (t.2.2 : Nat)]
theorem stD_dp {K : PySem.W.Frag} {H : Hp} {b : Addr} {t : St3} (h : SqT K H b (stV t)) : Dp K H (.ref b) (stD t) := .tup h (.cons (.int _) (.cons (.int _) (.cons (.int _) .nil)))
theorem stD_ok (n : Nat) (t : St3) : OkN (n + 1) (stD t) := fun d hd => by
  simp only [List.mem_cons, List.not_mem_nil, or_false] at hd
  rcases hd with rfl | rfl | rfl <;> cases n <;> trivial
theorem stD_eqv (t u : St3) : PyData.eqv (stD t) (stD u) = decide (t = u) := by
  obtain ⟨a, b, c⟩ := t
  obtain ⟨x, y, z⟩ := u
  show PyData.eqv (.tuple [.int (a : Nat), .int (b : Nat), .int (c : Nat)]) (.tuple [.int (x : Nat), .int (y : Nat), .int (z : Nat)]) = _
  have e : ∀ a x : Nat, ((a : Int) == (x : Int)) = decide (a = x) := fun a x => by
    rw [Bool.eq_iff_iff]
    simp only [beq_iff_eq, decide_eq_true_eq]
    omega
  simp [PyData.eqv, PyData.eqvAll, Bool.decide_and, e]
/-- vs are standings -/
abbrev StAll (K : PySem.W.Frag) (H : Hp) : List V → List St3 → Prop := Paired fun v t => ∃ b, v = .ref b ∧ SqT K H b (stV t)
theorem StAll.dp {K : PySem.W.Frag} {H : Hp} {vs : List V} {ts : List St3} (h : StAll K H vs ts) : DpAll K H vs (ts.map stD) := by
  induction h with
  | nil => exact .nil
  | cons a t ih =>
    obtain ⟨b, rfl, hb⟩ := a
    exact .cons (stD_dp hb) ih
theorem StAll.smU {K : PySem.W.Frag} {H H' : Hp} (s : SmU H H') {vs : List V} {ts : List St3} (h : StAll K H vs ts) : StAll K H' vs ts := by
  induction h with
  | nil => exact .nil
  | cons a t ih =>
    obtain ⟨b, rfl, hb⟩ := a
    exact .cons ⟨b, rfl, SqT.smU s hb⟩ ih
theorem StAll.snoc {K : PySem.W.Frag} {H : Hp} {vs : List V} {ts : List St3} {b : Addr} {t : St3} (h : StAll K H vs ts) (hb : SqT K H b (stV t)) : StAll K H (vs ++ [.ref b]) (ts ++ [t]) := by
  induction h with
  | nil => exact .cons ⟨b, rfl, hb⟩ .nil
  | cons a t ih => exact .cons a ih
theorem StAll.get {K : PySem.W.Frag} {H : Hp} {vs : List V} {ts : List St3} (h : StAll K H vs ts) : ∀ {j : Nat} {v : V}, vs[j]? = Option.some v → ∃ b t, v = .ref b ∧ ts[j]? = some t ∧ SqT K H b (stV t) := by
  induction h with
  | nil => intro j v e; simp at e
  | @cons e p l m a t ih =>
    intro j v hj
    cases j with
    | zero =>
      cases Option.some.inj (show Option.some e = Option.some v from hj)
      obtain ⟨b, rfl, hb⟩ := a
      exact ⟨b, p, rfl, rfl, hb⟩
    | succ j => exact ih hj
theorem StAll.len {K : PySem.W.Frag} {H : Hp} {vs : List V} {ts : List St3} (h : StAll K H vs ts) : vs.length = ts.length := Paired.length h
def StL (K : PySem.W.Frag) (H : Hp) (a : Addr) (ts : List St3) : Prop := ∃ vs, SqL K H a vs ∧ StAll K H vs ts
theorem stL_dp {K : PySem.W.Frag} {H : Hp} {a : Addr} {ts : List St3} (h : StL K H a ts) : Dp K H (.ref a) (.list (ts.map stD)) := by
  obtain ⟨vs, h1, h2⟩ := h
  exact .lst h1 h2.dp
theorem stL_ok (ts : List St3) : OkN 2 (.list (ts.map stD)) := fun d hd => by
  obtain ⟨t, _, rfl⟩ := List.mem_map.mp hd
  exact stD_ok 0 t
theorem any_eqv (ts : List St3) (t : St3) : ((ts.map stD).any fun z => PyData.eqv z (stD t)) = decide (t ∈ ts) := by
  induction ts with
  | nil => simp
  | cons a ts ih =>
    rw [List.map_cons, List.any_cons, ih, stD_eqv]
    by_cases c : a = t
    · simp [c]
    · have : ¬ t = a := fun z => c z.symm
      simp [c, this]
def rInSt (K : PySem.W.Frag) : R2 := fun x y H Q => ∃ b t a ts, x = .ref b ∧ y = .ref a ∧ SqT K H b (stV t) ∧ StL K H a ts ∧ Q (.bl (decide (t ∈ ts))) H
def rNotInSt (K : PySem.W.Frag) : R2 := fun x y H Q => ∃ b t a ts, x = .ref b ∧ y = .ref a ∧ SqT K H b (stV t) ∧ StL K H a ts ∧ Q (.bl (!decide (t ∈ ts))) H
section
variable {X : Cx} (K : PySem.W.Frag) {k : Nat}
theorem op_inSt (hr : Room k X.A) (h : X.K = K := by rfl) : OpR X (compareOp .In) (rInSt K) := by
  subst h
  intro pins s σ H x y v u Q I rx ry h
  obtain ⟨b, t, a, ts, rfl, rfl, hb, ha, q⟩ := h
  have hu : X.A.units + 65 < cLine := by have := hr.un; omega
  exact op_inD hu pins s σ H _ _ v u Q I rx ry ⟨stD t, ts.map stD, stD_dp hb, stL_dp ha, ok_shaped (stD_ok 0 t) (by decide), ok_shaped (stL_ok ts) (by decide), by rw [any_eqv]; exact q⟩
theorem op_notInSt (hr : Room k X.A) (h : X.K = K := by rfl) : OpR X (compareOp .NotIn) (rNotInSt K) := by
  subst h
  intro pins s σ H x y v u Q I rx ry h
  obtain ⟨b, t, a, ts, rfl, rfl, hb, ha, q⟩ := h
  have hu : X.A.units + 65 < cLine := by have := hr.un; omega
  exact op_notInD hu pins s σ H _ _ v u Q I rx ry ⟨stD t, ts.map stD, stD_dp hb, stL_dp ha, ok_shaped (stD_ok 0 t) (by decide), ok_shaped (stL_ok ts) (by decide), by rw [any_eqv]; exact q⟩
end
/-- such a list is one of no standings, of one -/
theorem stL_eqv (ts us : List St3) : PyData.eqv (.list (ts.map stD)) (.list (us.map stD)) = decide (ts = us) := by
  show PyData.eqvAll _ _ = _
  induction ts generalizing us with
  | nil => cases us <;> simp [PyData.eqvAll]
  | cons a ts ih =>
    cases us with
    | nil => simp [PyData.eqvAll]
    | cons b us =>
      rw [List.map_cons, List.map_cons, PyData.eqvAll, ih, stD_eqv]
      simp [Bool.decide_and]
/-! all but one list stands as it was -/
def KB (S : Addr) (H H' : Hp) : Prop := ∀ b u, b ≠ S → H b = some u → H' b = some u
theorem KB.refl (S : Addr) (H : Hp) : KB S H H := fun _ _ _ h => h
theorem KB.of {S : Addr} {H H' : Hp} (h : Same H H') : KB S H H' := fun b u _ e => h b u e
theorem KB.trans {S : Addr} {A B C : Hp} (h : KB S A B) (k : KB S B C) : KB S A C := fun b u n e => k b u n (h b u n e)
theorem KB.upd {S : Addr} {H : Hp} {o : HO} : KB S H (upd H S o) := fun b u n e => by rw [upd_ne n]; exact e
theorem KB.smU {S : Addr} {H H' : Hp} {xs : List V} (e : H S = some (.lst xs)) (h : KB S H H') : SmU H H' := fun b u he _ m => h b u (fun z => by rw [z, e] at he; exact m _ (Option.some.inj he).symm) he
theorem KB.same {S : Addr} {H0 H H' : Hp} (s : Same H0 H) (n : H0 S = none) (h : KB S H H') : Same H0 H' := fun b u e => h b u (ne_of_none e n) (s _ _ e)
theorem SqL.kb {K : PySem.W.Frag} {S : Addr} {H H' : Hp} {a : Addr} {xs : List V} (n : a ≠ S) (s : KB S H H') (h : SqL K H a xs) : SqL K H' a xs := by
  rcases h with (h | ⟨o, h⟩) | h
  · exact .inl (.inl (s _ _ n h))
  · exact .inl (.inr ⟨o, s _ _ n h⟩)
  · exact .inr h
theorem StL.kb {K : PySem.W.Frag} {S : Addr} {H H' : Hp} {a : Addr} {ts : List St3} {xs : List V} (e : H S = some (.lst xs)) (n : a ≠ S) (s : KB S H H') (h : StL K H a ts) : StL K H' a ts := by
  obtain ⟨vs, h1, h2⟩ := h
  exact ⟨vs, SqL.kb n s h1, h2.smU (s.smU e)⟩
theorem StL.same {K : PySem.W.Frag} {H H' : Hp} {a : Addr} {ts : List St3} (s : Same H H') (h : StL K H a ts) : StL K H' a ts := by
  obtain ⟨vs, h1, h2⟩ := h
  exact ⟨vs, s.seq h1, h2.smU (.of (.of s))⟩
theorem StL.smT {K : PySem.W.Frag} {H H' : Hp} {a : Addr} {ts : List St3} (s : SmT H H') (h : StL K H a ts) : StL K H' a ts := by
  obtain ⟨vs, h1, h2⟩ := h
  exact ⟨vs, SqL.smT s h1, h2.smU (.of s)⟩
section
variable {α : Type} [DecidableEq α] {nk : α → NestedKey} {K : PySem.W.Frag} {P : Program} {w : World} {H H' : Hp} {xs : List DEnt} {r : SR α} {d e S : Addr}
theorem RD.smU (s : SmU H H') (k : ∀ u, H d = Option.some u → H' d = Option.some u) (h : RD nk K P w H d r) : RD nk K P w H' d r := by
  obtain ⟨ys, ⟨a, _⟩, x⟩ := h
  have x' := x.smU s
  refine ⟨ys, ⟨?_, x'.keys⟩, x'⟩
  rcases a with a | ⟨o, a⟩
  · exact .inl (k _ a)
  · exact .inr ⟨o, k _ a⟩
theorem RD.ne_lst {ls : List V} (h : RD nk K P w H d r) (k : H S = Option.some (.lst ls)) : d ≠ S := fun z => by
  obtain ⟨ys, ⟨a, _⟩, x⟩ := h
  rcases a with a | ⟨o, a⟩
  · rw [z, k] at a
    cases Option.some.inj a
  · rw [z, k] at a
    cases Option.some.inj a
theorem RD.kb {ls : List V} (e : H S = Option.some (.lst ls)) (s : KB S H H') (h : RD nk K P w H d r) : RD nk K P w H' d r := h.smU (s.smU e) fun u z => s _ _ (h.ne_lst e) z
theorem RL.kb {ls : List V} (e : H S = Option.some (.lst ls)) (s : KB S H H') (h : RL nk K P w H d r) : RL nk K P w H' d r := h.smU (s.smU e)
/-- what stands when the keys of a row are walked: the dict is locked from then on -/
structure Lk (nk : α → NestedKey) (K : PySem.W.Frag) (P : Program) (w : World) (H : Hp) (d : Addr) (r : SR α) (od : Obj) (xs : List DEnt) (H' : Hp) : Prop where
  el : H' d = Option.some (.frz od (DV P w d xs))
  rel : RowRel nk K H' xs r
  sm : SmT H H'
  ne : ∀ b, b ≠ d → H' b = H b
  all : ∀ d' (r' : SR α), RD nk K P w H d' r' → RD nk K P w H' d' r'
theorem Lk.inl {od : Obj} (a : H d = Option.some (DV P w d xs)) (x : RowRel nk K H xs r) : Lk nk K P w H d r od xs (upd H d (.frz od (DV P w d xs))) := ⟨upd_same, x.smT (.dv a), .dv a, fun b n => upd_ne n, fun d' r' h' => h'.lock a⟩
theorem Lk.inr {od : Obj} (a : H d = Option.some (.frz od (DV P w d xs))) (x : RowRel nk K H xs r) : Lk nk K P w H d r od xs H := ⟨a, x, .refl _, fun b n => rfl, fun d' r' h' => h'⟩
end
/-- a list of the def's own -/
def StW (K : PySem.W.Frag) (H : Hp) (a : Addr) (ts : List St3) : Prop := ∃ vs, H a = some (.lst vs) ∧ StAll K H vs ts
theorem StW.stL {K : PySem.W.Frag} {H : Hp} {a : Addr} {ts : List St3} (h : StW K H a ts) : StL K H a ts := by
  obtain ⟨vs, h1, h2⟩ := h
  exact ⟨vs, .inl (.inl h1), h2⟩
theorem StW.same {K : PySem.W.Frag} {H H' : Hp} {a : Addr} {ts : List St3} (s : Same H H') (h : StW K H a ts) : StW K H' a ts := by
  obtain ⟨vs, h1, h2⟩ := h
  exact ⟨vs, s _ _ h1, h2.smU (.of (.of s))⟩
theorem StW.smT {K : PySem.W.Frag} {H H' : Hp} {a : Addr} {ts : List St3} (s : SmT H H') (h : StW K H a ts) : StW K H' a ts := by
  obtain ⟨vs, h1, h2⟩ := h
  exact ⟨vs, s _ _ h1 fun f z => (by cases z), h2.smU (.of s)⟩
theorem StW.kb {K : PySem.W.Frag} {S : Addr} {H H' : Hp} {a : Addr} {ts : List St3} {xs : List V} (e : H S = some (.lst xs)) (n : a ≠ S) (s : KB S H H') (h : StW K H a ts) : StW K H' a ts := by
  obtain ⟨vs, h1, h2⟩ := h
  exact ⟨vs, s _ _ n h1, h2.smU (s.smU e)⟩
theorem StW.nf {K : PySem.W.Frag} {H : Hp} {a b : Addr} {ts : List St3} (h : StW K H a ts) (n : H b = none) : a ≠ b := fun z => by
  obtain ⟨vs, h1, h2⟩ := h
  rw [z, n] at h1
  cases h1
theorem StAll.back {K : PySem.W.Frag} {H : Hp} {vs : List V} {ts : List St3} {t : St3} (h : StAll K H vs (ts ++ [t])) : ∃ vs' b, vs = vs' ++ [.ref b] ∧ StAll K H vs' ts ∧ SqT K H b (stV t) := by
  induction ts generalizing vs with
  | nil =>
    cases h with
    | cons a r =>
      cases r
      obtain ⟨b, rfl, hb⟩ := a
      exact ⟨[], b, rfl, .nil, hb⟩
  | cons u ts ih =>
    cases h with
    | cons a r =>
      obtain ⟨vs', b, rfl, h1, h2⟩ := ih r
      exact ⟨_ :: vs', b, rfl, .cons a h1, h2⟩
end St
namespace St
open PySem PySem.Spec PyProof.Rows L2
/-! ### sets and sorted lists of standings -/
def kS (t : St3) : Nat := t.1 * 4096 + t.2.1 * 64 + t.2.2
def smS (t : St3) : Prop := t.1 < 64 ∧ t.2.1 < 64 ∧ t.2.2 < 64
theorem smS_std {m : Nat} (h64 : m ≤ 64) {t : St3} (h : Std m t) : smS t := by
  have := std_small h64 h
  exact ⟨by omega, by omega, by omega⟩
theorem kS_inj {t u : St3} (ht : smS t) (hu : smS u) (h : kS t = kS u) : t = u := by
  unfold kS smS at *
  exact Prod.ext (by omega) (Prod.ext (by omega) (by omega))
def leS (t u : St3) : Bool := decide (kS t ≤ kS u)
theorem leS_data {t u : St3} (ht : smS t) (hu : smS u) : (!PySem.W.dataLt (stD u) (stD t)) = leS t u := by
  unfold stD leS
  obtain ⟨a, b, c⟩ := t
  obtain ⟨x, y, z⟩ := u
  unfold kS smS at *
  dsimp only at *
  rw [PySem.W.dataLt_tuple, PySem.W.dataLt_cons (by simp [PySem.W.alike]), PySem.W.dataLt_int]
  simp only [PyData.eqv, beq_iff_eq]
  by_cases e1 : x = a
  · rw [if_pos (by omega), PySem.W.dataLt_cons (by simp [PySem.W.alike]), PySem.W.dataLt_int]
    simp only [PyData.eqv, beq_iff_eq]
    by_cases e2 : y = b
    · rw [if_pos (by omega), PySem.W.dataLt_cons (by simp [PySem.W.alike]), PySem.W.dataLt_int]
      simp only [PyData.eqv, beq_iff_eq]
      by_cases e3 : z = c
      · rw [if_pos (by omega)]
        subst e1 e2 e3
        rw [lex_irrefl]
        simp
      · rw [if_neg (by omega)]
        by_cases c4 : z < c
        · rw [decide_eq_true (by omega), decide_eq_false (by omega)]
          rfl
        · rw [decide_eq_false (by omega), decide_eq_true (by omega)]
          rfl
    · rw [if_neg (by omega)]
      by_cases c4 : y < b
      · rw [decide_eq_true (by omega), decide_eq_false (by omega)]
        rfl
      · rw [decide_eq_false (by omega), decide_eq_true (by omega)]
        rfl
  · rw [if_neg (by omega)]
    by_cases c4 : x < a
    · rw [decide_eq_true (by omega), decide_eq_false (by omega)]
      rfl
    · rw [decide_eq_false (by omega), decide_eq_true (by omega)]
      rfl
theorem st_alike (t u : St3) : PySem.W.alike (stD t) (stD u) = true := by
  unfold stD
  simp [PySem.W.alike, PySem.W.alikeAll]
theorem st_depth (t : St3) : (stD t).depth ≤ 50 := by
  unfold stD
  simp only [PyData.depth, PyData.depthAll]
  decide
def intsS (t : St3) : List Int := [(t.1 : Nat), (t.2.1 : Nat), (t.2.2 : Nat)]
theorem stV_ints (t : St3) : stV t = (intsS t).map V.int := rfl
theorem intsS_inj {t u : St3} (h : intsS t = intsS u) : t = u := by
  unfold intsS at h
  simp only [List.cons.injEq, Int.ofNat_inj, and_true] at h
  exact Prod.ext h.1 (Prod.ext h.2.1 h.2.2)
/-- sorted(xs), xs a list of standings -/
def rSortedSt (K : PySem.W.Frag) : List V → Hp → VK → Prop := fun vs H Q => ∃ (a : Addr) (ps : List (Addr × St3)), vs = [V.ref a] ∧ SqL K H a (ps.map fun p => V.ref p.1) ∧ (∀ p ∈ ps, SqT K H p.1 (stV p.2) ∧ smS p.2) ∧
  ∀ (qs : List (Addr × St3)) (p : Addr), qs.Perm ps → qs.Pairwise (fun a b => kS a.2 ≤ kS b.2) → H p = none → Q (.ref p) (upd H p (.lst (qs.map fun q => V.ref q.1)))
section
variable {X : Cx}
open Classical in
theorem cr_sortedSt (hu : X.A.units + 64 < cLine) : CallR X (.builtin "sorted") (rSortedSt X.K) := by
  intro pins s σ H vs us Q I r h
  obtain ⟨a, ps, rfl, hs, hp, q⟩ := h
  have one : ∀ p ∈ ps, ∀ p' ∈ ps, p.1 = p'.1 → p.2 = p'.2 := fun p h1 p' h2 e => by
    have a1 := Inv.isT I (k := intsS p.2) (hp p h1).1
    have a2 := Inv.isT I (k := intsS p'.2) (hp p' h2).1
    rw [e] at a1
    exact intsS_inj (a1.inj a2)
  obtain ⟨f, hf⟩ : ∃ f : V → PyData, ∀ p ∈ ps, f (.ref p.1) = stD p.2 := by
    refine ⟨fun v => if h : ∃ p ∈ ps, v = .ref p.1 then stD h.choose.2 else .none, fun p h1 => ?_⟩
    have h : ∃ p' ∈ ps, V.ref p.1 = .ref p'.1 := ⟨p, h1, rfl⟩
    show (if h : ∃ p' ∈ ps, V.ref p.1 = .ref p'.1 then stD h.choose.2 else .none) = _
    rw [dif_pos h]
    obtain ⟨c1, c2⟩ := h.choose_spec
    rw [one p h1 _ c1 (V.ref.inj c2)]
  refine cr_sortedD hu pins s σ H _ us Q I r ⟨a, _, f, rfl, hs, fun x hx => ?_, ?_, ?_, fun x hx => ?_, fun p np => ?_⟩
  · obtain ⟨p, h1, rfl⟩ := List.mem_map.mp hx
    rw [hf p h1]
    exact stD_dp (hp p h1).1
  · have e : (ps.map fun p => V.ref p.1).map f = (ps.map (·.2)).map stD := by
      rw [List.map_map, List.map_map]
      exact List.map_congr_left fun p h1 => hf p h1
    rw [e]
    exact PySem.W.AllAlike.of fun b b' => st_alike _ _
  · have e : (ps.map fun p => V.ref p.1).map f = (ps.map (·.2)).map stD := by
      rw [List.map_map, List.map_map]
      exact List.map_congr_left fun p h1 => hf p h1
    rw [e]
    exact PySem.W.Sortable.tuples fun b => ⟨_, _, rfl⟩
  · obtain ⟨p, h1, rfl⟩ := List.mem_map.mp hx
    rw [hf p h1]
    exact st_depth _
  · have e : (ps.map fun p => V.ref p.1).mergeSort (PySem.W.dataLe false f) = (ps.mergeSort fun a b => leS a.2 b.2).map fun p => V.ref p.1 := by
      refine (List.map_mergeSort fun a hm b hb => ?_).symm
      show leS a.2 b.2 = !PySem.W.dataLt (f (.ref b.1)) (f (.ref a.1))
      rw [hf a hm, hf b hb, leS_data (hp a hm).2 (hp b hb).2]
    rw [e]
    refine q _ p (List.mergeSort_perm _ _) ?_ np
    refine (List.pairwise_mergeSort (le := fun a b : Addr × St3 => leS a.2 b.2) (fun a b c h1 h2 => ?_) (fun a b => ?_) ps).imp fun h => of_decide_eq_true h
    · unfold leS at *
      have h1 := of_decide_eq_true h1
      have h2 := of_decide_eq_true h2
      exact decide_eq_true (by omega)
    · unfold leS
      rw [Bool.or_eq_true, decide_eq_true_eq, decide_eq_true_eq]
      omega
/-- set(xs), xs a list of standings, of which fewer than 63 are different -/
def rSetSt (K : PySem.W.Frag) (P : Program) (w : World) : List V → Hp → VK → Prop := fun xs H Q => ∃ (l : Addr) (ps : List (Addr × St3)), xs = [V.ref l] ∧ SqL K H l (ps.map fun p => V.ref p.1) ∧ (∀ p ∈ ps, SqT K H p.1 (stV p.2)) ∧ (∀ L : List St3, L.Nodup → (∀ t ∈ L, t ∈ ps.map (·.2)) → L.length < 63) ∧
  ∀ a (L : List (Addr × St3)), H a = none → (∀ p ∈ L, p ∈ ps) → (∀ p ∈ ps, p.2 ∈ L.map (·.2)) → Q (.ref a) (upd H a (SetTO P w a (L.map fun p => (p.1, intsS p.2))))
theorem got_back {ps : List (Addr × St3)} : ∀ {L : List (Addr × List Int)}, (∀ p ∈ L, p ∈ ps.map fun p => (p.1, intsS p.2)) → ∃ L' : List (Addr × St3), L = L'.map (fun p => (p.1, intsS p.2)) ∧ ∀ p ∈ L', p ∈ ps
  | [], _ => ⟨[], rfl, fun p h => by cases h⟩
  | x :: L, h => by
    obtain ⟨L', e, hs⟩ := got_back (ps := ps) (L := L) fun p hp => h p (List.mem_cons_of_mem _ hp)
    obtain ⟨q, hq, rfl⟩ := List.mem_map.mp (h x List.mem_cons_self)
    refine ⟨q :: L', by rw [e]; rfl, fun p hp => ?_⟩
    rcases List.mem_cons.mp hp with rfl | hp
    · exact hq
    · exact hs p hp
theorem cr_setSt (hc : X.calm = true) (hu : X.A.units + 64 < cLine) : CallR X (.type "set") (rSetSt X.K X.prog X.w) := by
  intro pins s σ H xs us Q I r h
  obtain ⟨l, ps, rfl, hl, hk, hfew, q⟩ := h
  rw [Vals.ref1 r]
  obtain ⟨its, rv, pl, hz⟩ := I.list hl
  have hn : H s.heap.objs.size = none := I.hok.fresh (Nat.le_refl _)
  obtain ⟨ks, hks⟩ : ∃ ks : List (Addr × List Int), ks = ps.map fun p => (p.1, intsS p.2) := ⟨_, rfl⟩
  have hkT : ∀ p ∈ ks, IsT X.prog X.w s.heap p.2 p.1 := fun p hp => by
    rw [hks] at hp
    obtain ⟨p', h1, rfl⟩ := List.mem_map.mp hp
    exact Inv.isT I (k := intsS p'.2) (hk p' h1)
  have hits : its = ks.map fun p => Value.ref p.1 := by
    have e : (ps.map fun p => V.ref p.1) = ks.map fun p => V.ref p.1 := by rw [hks, List.map_map]; rfl
    rw [e] at rv
    exact refs_of_vals rv
  have few : ∀ L : List (Addr × List Int), (L.map (·.2)).Nodup → (∀ p ∈ L, p ∈ ks) → L.length < 63 := fun L hnd hsub => by
    rw [hks] at hsub
    obtain ⟨L', rfl, h2⟩ := got_back hsub
    have e : ((L'.map fun p => (p.1, intsS p.2)).map (·.2)) = (L'.map (·.2)).map intsS := by rw [List.map_map, List.map_map]; rfl
    rw [e] at hnd
    have := hfew (L'.map (·.2)) (nodup_of_map hnd) fun t ht => by
      obtain ⟨p, hp, rfl⟩ := List.mem_map.mp ht
      exact List.mem_map.mpr ⟨p, h2 p hp, rfl⟩
    rw [List.length_map] at this ⊢
    exact this
  refine call_set_of (fun i h' => ∃ L es ep t, SetTR X.prog X.w h' s.heap.objs.size L es ep t ∧ Got ks i L) (I.ok.hd hc) pl.isList (fun h' e old => ?_) (fun i h h' ⟨L, es, ep, t, R, g⟩ k old => ?_) (fun A' i v s' Q' E' hu' hi hv ⟨L, es, ep, t, R, g⟩ old nx => ?_) fun h' tk ⟨L, es, ep, t, R, g⟩ old => ?_
  · exact ⟨[], #[], 0, _, setTR_fresh (e.trans (Heap.get?_push_size _ rfl)), Got.zero ks⟩
  · exact ⟨L, es, ep, t, R.keep k fun p hp => isT_keep (hkT p (List.mem_of_mem_take (g.sub p hp))) old, g⟩
  · obtain ⟨p, hp, rfl⟩ : ∃ p, ks[i]? = some p ∧ v = .ref p.1 := by
      have hv : its[i]? = some v := by simpa using hv
      rw [hits, List.getElem?_map] at hv
      cases e : ks[i]? with
      | none => rw [e] at hv; cases hv
      | some p => rw [e] at hv; exact ⟨p, rfl, (Option.some.inj hv).symm⟩
    have hx : IsT X.prog X.w s'.heap p.2 p.1 := isT_keep (hkT p (List.mem_of_getElem? hp)) old
    have hu2 : A'.units < cLine := by omega
    unfold setAdd
    refine wpAny_holding ?_
    refine wpAny_bind (wpAny_pyHash_tuple hu2 hx ?_)
    refine add_at (s := { s' with toks := s'.toks + (p.2.length + 1) }) R hx hu2 (by have := few L R.nd fun p hp => List.mem_of_mem_take (g.sub p hp); omega) fun b h' L' es' ep' t' hsb hS2 c1 c2 => ?_
    have g' : Got ks (i + 1) L' := by
      rcases Classical.em (p.2 ∈ L.map (·.2)) with c | c
      · rw [c1 c]; exact g.same hp c
      · exact g.more hp (c2 c)
    exact nx h' _ b (Nat.le_add_right _ _) hsb ⟨L', es', ep', t', hS2, g'⟩
  · have ez : its.toArray.size = ks.length := by
      show its.length = _
      rw [hits, List.length_map]
    rw [ez] at g
    have hsub : ∀ p ∈ L, p ∈ ks := fun p hp => List.mem_of_mem_take (g.sub p hp)
    rw [hks] at hsub
    obtain ⟨L', eL, h2⟩ := got_back hsub
    refine ⟨.ref s.heap.objs.size, upd H s.heap.objs.size (SetTO X.prog X.w s.heap.objs.size L), I.laid (t' := tk) old (Nat.le_refl _) (setTO_new R.t0), rfl, ?_⟩
    rw [eL]
    refine q _ L' hn h2 fun p hp => ?_
    have := g.all (p.1, intsS p.2) (by rw [List.take_length, hks]; exact List.mem_map.mpr ⟨p, hp, rfl⟩)
    rw [eL, List.map_map] at this
    obtain ⟨p', hp', e⟩ := List.mem_map.mp this
    exact List.mem_map.mpr ⟨p', hp', intsS_inj e⟩
/-- sorted(s), s a set of standings -/
def rSortedSet (K : PySem.W.Frag) (P : Program) (w : World) : List V → Hp → VK → Prop := fun vs H Q => ∃ (a : Addr) (L : List (Addr × St3)), vs = [V.ref a] ∧ H a = some (SetTO P w a (L.map fun p => (p.1, intsS p.2))) ∧ (∀ p ∈ L, SqT K H p.1 (stV p.2) ∧ smS p.2) ∧
  ∀ (L' : List (Addr × St3)) (p : Addr), L'.Perm L → (L'.map (·.2)).Nodup → L'.Pairwise (fun q r => kS q.2 ≤ kS r.2) → H p = none → Q (.ref p) (upd H p (.lst (L'.map fun q => V.ref q.1)))
theorem code_st (t : St3) : TS.code 64 (intsS t) = (kS t : Nat) := by
  have e2 : (64 : Int) ^ 2 = 4096 := by decide
  have e1 : (64 : Int) ^ 1 = 64 := by decide
  have e0 : (64 : Int) ^ 0 = 1 := by decide
  show (t.1 : Int) * 64 ^ 2 + ((t.2.1 : Int) * 64 ^ 1 + ((t.2.2 : Int) * 64 ^ 0 + 0)) = _
  rw [e2, e1, e0]
  unfold kS
  omega
theorem perm_back {L2 L : List (Addr × St3)} (pm : (L2.map fun p => (p.1, intsS p.2)).Perm (L.map fun p => (p.1, intsS p.2))) : L2.Perm L := by
  have back : ∀ l : List (Addr × St3), (l.map fun p => (p.1, intsS p.2)).map (fun p => (p.1, (((p.2.getD 0 0).toNat, (p.2.getD 1 0).toNat, (p.2.getD 2 0).toNat) : St3))) = l := fun l => by
    rw [List.map_map]
    exact (List.map_congr_left fun p _ => rfl).trans (List.map_id _)
  have := pm.map fun p => (p.1, (((p.2.getD 0 0).toNat, (p.2.getD 1 0).toNat, (p.2.getD 2 0).toNat) : St3))
  rwa [back, back] at this
theorem cr_sortedSet (hc : X.calm = true) : CallR X (.builtin "sorted") (rSortedSet X.K X.prog X.w) := by
  intro pins s σ H vs us Q I r h
  obtain ⟨a, L, rfl, ha, hp, q⟩ := h
  refine cr_sortedT hc pins s σ H _ us Q I r ⟨a, _, 3, 64, rfl, ha, fun p hp' => ?_, by decide, fun p hp' => ?_, fun L' p pm nd hlt pw np => ?_⟩
  · obtain ⟨p', h1, rfl⟩ := List.mem_map.mp hp'
    exact (hp p' h1).1
  · obtain ⟨p', h1, rfl⟩ := List.mem_map.mp hp'
    obtain ⟨b1, b2, b3⟩ := (hp p' h1).2
    refine ⟨rfl, fun i hi => ?_⟩
    have hi : i ∈ [((p'.2.1 : Nat) : Int), ((p'.2.2.1 : Nat) : Int), ((p'.2.2.2 : Nat) : Int)] := hi
    simp only [List.mem_cons, List.not_mem_nil, or_false] at hi
    rcases hi with rfl | rfl | rfl <;> omega
  · obtain ⟨L2, rfl, h2⟩ := got_back (ps := L) (L := L') fun p hp' => pm.mem_iff.mp hp'
    have e1 : ((L2.map fun p => (p.1, intsS p.2)).map (·.2)) = (L2.map (·.2)).map intsS := by rw [List.map_map, List.map_map]; rfl
    have e2 : ((L2.map fun p => (p.1, intsS p.2)).map fun q => V.ref q.1) = L2.map fun q => V.ref q.1 := by rw [List.map_map]; rfl
    rw [e1] at nd
    rw [e2]
    refine q L2 p ?_ (nodup_of_map nd) ?_ np
    · refine perm_back pm
    · refine (List.pairwise_map.mp pw).imp fun {x y} h => ?_
      have h : TS.code 64 (intsS x.2) ≤ TS.code 64 (intsS y.2) := h
      rw [code_st, code_st] at h
      exact Int.ofNat_le.mp h
end
section
variable {X : Cx} (K : PySem.W.Frag) (P : Program) (w : World)
theorem cr_sortedSt_ (hu : X.A.units + 64 < cLine) (h : X.K = K := by rfl) : CallR X (.builtin "sorted") (rSortedSt K) := h ▸ cr_sortedSt hu
theorem cr_setSt_ (hc : X.calm = true) (hu : X.A.units + 64 < cLine) (hK : X.K = K := by rfl) (hP : X.prog = P := by rfl) (hw : X.w = w := by rfl) : CallR X (.type "set") (rSetSt K P w) := by
  subst hK hP hw
  exact cr_setSt hc hu
theorem cr_sortedSet_ (hc : X.calm = true) (hK : X.K = K := by rfl) (hP : X.prog = P := by rfl) (hw : X.w = w := by rfl) : CallR X (.builtin "sorted") (rSortedSet K P w) := by
  subst hK hP hw
  exact cr_sortedSet hc
end
end St
namespace St
open PySem PySem.Spec PyProof.Rows L2
/-! ### all rows of words of so many signs, ascending -/
def wN (m : Nat) : St3 → Nat → Nat
  | t, 0 => if t = AtE then 1 else 0
  | t, n + 1 => wN m (nxS m t false) n + wN m (nxS m t true) n
def rowsF (m : Nat) : St3 → Nat → List (List Bool)
  | t, 0 => if t = AtE then [[]] else []
  | t, n + 1 => (rowsF m (nxS m t false) n).map (false :: ·) ++ (rowsF m (nxS m t true) n).map (true :: ·)
theorem rowsF_len (m : Nat) : ∀ (n : Nat) (t : St3), (rowsF m t n).length = wN m t n
  | 0, t => by
    unfold rowsF wN
    split <;> rfl
  | n + 1, t => by rw [rowsF, wN, List.length_append, List.length_map, List.length_map, rowsF_len, rowsF_len]
def nthB (m : Nat) : St3 → Nat → Nat → List Bool
  | _, 0, _ => []
  | t, n + 1, i => if i < wN m (nxS m t false) n then false :: nthB m (nxS m t false) n i else true :: nthB m (nxS m t true) n (i - wN m (nxS m t false) n)
def rankB (m : Nat) : St3 → List Bool → Nat
  | _, [] => 0
  | t, b :: f => (if b = true then wN m (nxS m t false) f.length else 0) + rankB m (nxS m t b) f
theorem nth_get (m : Nat) : ∀ (n : Nat) (t : St3) (i : Nat), i < wN m t n → (rowsF m t n)[i]? = some (nthB m t n i)
  | 0, t, i, h => by
    unfold wN at h
    unfold rowsF nthB
    split at h
    · rename_i c
      have : i = 0 := by omega
      subst this
      rw [if_pos c]
      rfl
    · omega
  | n + 1, t, i, h => by
    rw [wN] at h
    rw [rowsF, nthB]
    by_cases c : i < wN m (nxS m t false) n
    · rw [if_pos c, List.getElem?_append_left (by rw [List.length_map, rowsF_len]; exact c), List.getElem?_map, nth_get m n _ i c]
      rfl
    · rw [if_neg c, List.getElem?_append_right (by rw [List.length_map, rowsF_len]; omega), List.getElem?_map, List.length_map, rowsF_len, nth_get m n _ _ (by omega)]
      rfl
theorem nth_len (m : Nat) : ∀ (n : Nat) (t : St3) (i : Nat), (nthB m t n i).length = n
  | 0, _, _ => rfl
  | n + 1, t, i => by
    rw [nthB]
    split <;> rw [List.length_cons, nth_len]
theorem nth_run (m : Nat) : ∀ (n : Nat) (t : St3) (i : Nat), i < wN m t n → run m t (nthB m t n i) = AtE
  | 0, t, i, h => by
    unfold wN at h
    split at h
    · rename_i c; exact c
    · omega
  | n + 1, t, i, h => by
    rw [wN] at h
    rw [nthB]
    split
    · rename_i c
      exact nth_run m n _ i c
    · exact nth_run m n _ _ (by omega)
theorem rank_nth (m : Nat) : ∀ (n : Nat) (t : St3) (i : Nat), i < wN m t n → rankB m t (nthB m t n i) = i
  | 0, t, i, h => by
    unfold wN at h
    show 0 = i
    split at h <;> omega
  | n + 1, t, i, h => by
    rw [wN] at h
    rw [nthB]
    split
    · rename_i c
      rw [rankB, rank_nth m n _ i c, if_neg (by decide), Nat.zero_add]
    · rw [rankB, rank_nth m n _ _ (by omega), if_pos rfl, nth_len]
      omega
theorem rank_lt (m : Nat) : ∀ (f : List Bool) (t : St3), run m t f = AtE → rankB m t f < wN m t f.length
  | [], t, h => by
    unfold wN rankB
    rw [List.length_nil]
    simp only
    rw [if_pos (show t = AtE from h)]
    exact Nat.one_pos
  | b :: f, t, h => by
    have ih := rank_lt m f (nxS m t b) h
    rw [rankB, List.length_cons, wN]
    cases b
    · rw [if_neg (by decide)]
      omega
    · rw [if_pos rfl]
      omega
theorem nth_rank (m : Nat) : ∀ (f : List Bool) (t : St3), run m t f = AtE → nthB m t f.length (rankB m t f) = f
  | [], t, h => rfl
  | b :: f, t, h => by
    have hl := rank_lt m f (nxS m t b) h
    have ih := nth_rank m f (nxS m t b) h
    rw [rankB, List.length_cons, nthB]
    cases b
    · rw [if_neg (show ¬ false = true by decide), Nat.zero_add, if_pos hl, ih]
    · rw [if_pos rfl, if_neg (by omega), Nat.add_sub_cancel_left, ih]
theorem nth_ltB (m : Nat) : ∀ (n : Nat) (t : St3) (i j : Nat), i < j → j < wN m t n → ltB (nthB m t n i) (nthB m t n j)
  | 0, t, i, j, h1, h2 => by
    unfold wN at h2
    split at h2 <;> omega
  | n + 1, t, i, j, h1, h2 => by
    rw [wN] at h2
    rw [nthB, nthB]
    by_cases c : i < wN m (nxS m t false) n
    · rw [if_pos c]
      by_cases c2 : j < wN m (nxS m t false) n
      · rw [if_pos c2]
        exact ltB_pre [false] (nth_ltB m n _ i j h1 c2)
      · rw [if_neg c2]
        exact ⟨[], _, _, rfl, rfl⟩
    · rw [if_neg c, if_neg (by omega)]
      exact ltB_pre [true] (nth_ltB m n _ _ _ (by omega) (by omega))
/-! all texts, by their first sign and by their last one -/
def allF : Nat → List (List Bool)
  | 0 => [[]]
  | n + 1 => (allF n).map (false :: ·) ++ (allF n).map (true :: ·)
def snoc2 (f : List Bool) : List (List Bool) := [f ++ [false], f ++ [true]]
theorem snoc2_cons (b : Bool) (l : List (List Bool)) : (l.flatMap snoc2).map (b :: ·) = (l.map (b :: ·)).flatMap snoc2 := by
  induction l with
  | nil => rfl
  | cons a l ih =>
    rw [List.flatMap_cons, List.map_append, ih, List.map_cons, List.flatMap_cons]
    rfl
theorem allF_snoc : ∀ n, allF (n + 1) = (allF n).flatMap snoc2
  | 0 => rfl
  | n + 1 => by
    have ih := allF_snoc n
    rw [allF]
    rw [ih, snoc2_cons, snoc2_cons, ← List.flatMap_append]
    rw [← ih]
    rfl
theorem allF_expand : ∀ n, expand (List.replicate n none) = allF n
  | 0 => rfl
  | n + 1 => by
    rw [List.replicate_succ', expand_snoc, allF_expand n, allF_snoc]
    rfl
theorem rowsF_all (m : Nat) : ∀ (n : Nat) (t : St3), rowsF m t n = (allF n).filter fun f => run m t f = AtE
  | 0, t => by
    unfold rowsF allF
    rw [List.filter_cons]
    by_cases c : t = AtE
    · rw [if_pos c, decide_eq_true (show run m t [] = AtE from c)]
      rfl
    · rw [if_neg c, decide_eq_false (show ¬ run m t [] = AtE from c)]
      rfl
  | n + 1, t => by
    rw [rowsF, allF, List.filter_append, List.filter_map, List.filter_map, rowsF_all m n, rowsF_all m n]
    rfl
theorem rowsF_filled (m n : Nat) : rowsF m AtE n = filled m (List.replicate n none) := by
  rw [rowsF_all]
  unfold filled
  rw [allF_expand]
theorem mem_allF {n : Nat} {f : List Bool} : f ∈ allF n ↔ f.length = n := by
  induction n generalizing f with
  | zero =>
    show f ∈ [[]] ↔ _
    rw [List.mem_singleton, List.length_eq_zero_iff]
  | succ n ih =>
    rw [allF, List.mem_append, List.mem_map, List.mem_map]
    constructor
    · rintro (⟨g, hg, rfl⟩ | ⟨g, hg, rfl⟩) <;> simp [ih.mp hg]
    · intro h
      cases f with
      | nil => cases h
      | cons b f =>
        have h' : f.length = n := by simpa using h
        cases b
        · exact .inl ⟨f, ih.mpr h', rfl⟩
        · exact .inr ⟨f, ih.mpr h', rfl⟩
/-- the place of a row in the list is how many stand ahead of it -/
theorem rank_place {m n : Nat} {pre post : List (List Bool)} {f : List Bool} (h : allF n = pre ++ f :: post) (hf : run m AtE f = AtE) : rankB m AtE f = (pre.filter fun f => run m AtE f = AtE).length := by
  have hl : f.length = n := mem_allF.mp (by rw [h]; exact List.mem_append.mpr (.inr List.mem_cons_self))
  have e : rowsF m AtE n = (pre.filter fun f => run m AtE f = AtE) ++ f :: (post.filter fun f => run m AtE f = AtE) := by
    rw [rowsF_all, h, List.filter_append, List.filter_cons, decide_eq_true hf, if_pos rfl]
  have hk : (rowsF m AtE n)[(pre.filter fun f => run m AtE f = AtE).length]? = some f := by
    rw [e, List.getElem?_append_right (Nat.le_refl _), Nat.sub_self]
    rfl
  have hlt : (pre.filter fun f => run m AtE f = AtE).length < wN m AtE n := by
    rw [← rowsF_len, e, List.length_append, List.length_cons]
    omega
  have := nth_get m n AtE _ hlt
  rw [hk] at this
  rw [Option.some.inj this]
  exact rank_nth m n AtE _ hlt
theorem wN_le (m : Nat) : ∀ (n : Nat) (t : St3), wN m t n ≤ 2 ^ n
  | 0, t => by
    unfold wN
    split <;> omega
  | n + 1, t => by
    have a := wN_le m n (nxS m t false)
    have b := wN_le m n (nxS m t true)
    rw [wN, Nat.pow_succ]
    omega
/-! ascending lists with the same members -/
theorem asc_ext : ∀ {a b : List Nat}, a.Pairwise (· < ·) → b.Pairwise (· < ·) → (∀ x, x ∈ a ↔ x ∈ b) → a = b
  | [], [], _, _, _ => rfl
  | [], y :: b, _, _, h => by cases (h y).mpr List.mem_cons_self
  | x :: a, [], _, _, h => by cases (h x).mp List.mem_cons_self
  | x :: a, y :: b, ha, hb, h => by
    obtain ⟨a1, a2⟩ := List.pairwise_cons.mp ha
    obtain ⟨b1, b2⟩ := List.pairwise_cons.mp hb
    have e : x = y := by
      rcases List.mem_cons.mp ((h x).mp List.mem_cons_self) with z | z
      · exact z
      · rcases List.mem_cons.mp ((h y).mpr List.mem_cons_self) with w | w
        · exact w.symm
        · have := b1 x z
          have := a1 y w
          omega
    subst e
    rw [asc_ext a2 b2 fun z => ?_]
    constructor
    · intro hz
      rcases List.mem_cons.mp ((h z).mp (List.mem_cons_of_mem _ hz)) with w | w
      · have := a1 z hz
        omega
      · exact w
    · intro hz
      rcases List.mem_cons.mp ((h z).mpr (List.mem_cons_of_mem _ hz)) with w | w
      · have := b1 z hz
        omega
      · exact w
theorem endsN_eq {m : Nat} (hm : 1 ≤ m) {l : List Bool} {b : Nat} (hb : b ≤ l.length) : endsN m l b = (List.range' (b + 1) (l.length - b)).filter fun e => run m AtE ((l.drop b).take (e - b)) = AtE := by
  refine asc_ext (endsN_asc hm l b) (List.Pairwise.sublist List.filter_sublist List.pairwise_lt_range') fun x => ?_
  rw [mem_endsN hm hb, List.mem_filter, List.mem_range'_1, decide_eq_true_eq]
  constructor
  · rintro ⟨h1, h2, h3⟩; exact ⟨by omega, h3⟩
  · rintro ⟨⟨h1, h2⟩, h3⟩; exact ⟨by omega, by omega, h3⟩
end St
namespace St
open PySem PySem.Spec PyProof.Rows L2
/-! ### texts behind which each reader is at an end -/
def SrtS (ts : List St3) : Prop := ts.Pairwise fun a b => kS a < kS b
theorem srtS_ext : ∀ {a b : List St3}, SrtS a → SrtS b → (∀ t ∈ a, smS t) → (∀ t, t ∈ a ↔ t ∈ b) → a = b
  | [], [], _, _, _, _ => rfl
  | [], y :: b, _, _, _, h => by cases (h y).mpr List.mem_cons_self
  | x :: a, [], _, _, _, h => by cases (h x).mp List.mem_cons_self
  | x :: a, y :: b, ha, hb, hs, h => by
    obtain ⟨a1, a2⟩ := List.pairwise_cons.mp ha
    obtain ⟨b1, b2⟩ := List.pairwise_cons.mp hb
    have e : x = y := by
      rcases List.mem_cons.mp ((h x).mp List.mem_cons_self) with z | z
      · exact z
      · rcases List.mem_cons.mp ((h y).mpr List.mem_cons_self) with w | w
        · exact w.symm
        · have := b1 x z
          have := a1 y w
          omega
    subst e
    rw [srtS_ext a2 b2 (fun t ht => hs t (List.mem_cons_of_mem _ ht)) fun z => ?_]
    constructor
    · intro hz
      rcases List.mem_cons.mp ((h z).mp (List.mem_cons_of_mem _ hz)) with w | w
      · have := a1 z hz
        rw [w] at this
        omega
      · exact w
    · intro hz
      rcases List.mem_cons.mp ((h z).mpr (List.mem_cons_of_mem _ hz)) with w | w
      · have := b1 z hz
        rw [w] at this
        omega
      · exact w
theorem srtS_of {ts : List St3} (h : ts.Pairwise fun a b => kS a ≤ kS b) (hn : ts.Nodup) (hs : ∀ t ∈ ts, smS t) : SrtS ts := by
  refine List.Pairwise.imp_of_mem (fun {a b} ha hb h => ?_) (List.Pairwise.and h hn)
  obtain ⟨h1, h2⟩ := h
  have : kS a ≠ kS b := fun z => h2 (kS_inj (hs a ha) (hs b hb) z)
  omega
/-- the place of a text in the order by lengths, then by signs -/
def codeB (l : List Bool) : Nat := l.foldl (fun c b => 2 * c + 1 + b.toNat) 0
theorem code_snoc (l : List Bool) (b : Bool) : codeB (l ++ [b]) = 2 * codeB l + 1 + b.toNat := by
  unfold codeB
  rw [List.foldl_append]
  rfl
theorem code_worth (l : List Bool) : codeB l + 1 = 2 ^ l.length + worth l := by
  have : ∀ (n : Nat) (l : List Bool), l.length = n → codeB l + 1 = 2 ^ l.length + worth l := by
    intro n
    induction n with
    | zero =>
      intro l hl
      have : l = [] := List.length_eq_zero_iff.mp hl
      subst this
      rfl
    | succ n ih =>
      intro l hl
      rcases snocL l with rfl | ⟨p, b, rfl⟩
      · cases hl
      · have := ih p (by simpa using hl)
        rw [code_snoc, worth_snoc', List.length_append, List.length_singleton, Nat.pow_succ]
        omega
  exact this _ l rfl
theorem code_len {a b : List Bool} (h : codeB a ≤ codeB b) : a.length ≤ b.length := by
  have h1 := code_worth a
  have h2 := code_worth b
  have w1 := worth_lt b
  refine Nat.not_lt.mp fun z => ?_
  have : 2 ^ (b.length + 1) ≤ 2 ^ a.length := Nat.pow_le_pow_right (by decide) z
  rw [Nat.pow_succ] at this
  omega
theorem code_lt (l : List Bool) : codeB l + 1 < 2 ^ (l.length + 1) := by
  have h1 := code_worth l
  have w1 := worth_lt l
  rw [Nat.pow_succ]
  omega
theorem worth_inj' : ∀ {a b : List Bool}, a.length = b.length → worth a = worth b → a = b := fun {a b} h1 h2 => by
  rw [← fig_worth a, ← fig_worth b, h1, h2]
theorem code_inj {a b : List Bool} (h : codeB a = codeB b) : a = b := by
  have h1 := code_worth a
  have h2 := code_worth b
  have l1 := code_len (Nat.le_of_eq h)
  have l2 := code_len (Nat.le_of_eq h.symm)
  have el : a.length = b.length := by omega
  exact worth_inj' el (by rw [el] at h1; omega)
theorem code_ltB {a b : List Bool} (h : a.length = b.length) (hl : codeB a < codeB b) : ltB a b := by
  have h1 := code_worth a
  have h2 := code_worth b
  have := worth_ltB a b [] [] h (by rw [h] at h1; omega)
  rwa [List.append_nil, List.append_nil] at this
/-- whatever stands ahead, a word ends with the last sign -/
def Sure (m : Nat) (v : List Bool) : Prop := ∀ l, run m AtE (l ++ v) = AtE
/-- the standings that come of all of gs -/
def Img (m : Nat) (gs : List St3) (v : List Bool) (ts : List St3) : Prop := ∀ u, u ∈ ts ↔ ∃ t ∈ gs, run m t v = u
theorem img_snoc {m : Nat} {gs ts us : List St3} {v : List Bool} (b : Bool) (h : Img m gs v ts) : Img m gs (v ++ [b]) us ↔ ∀ u, u ∈ us ↔ ∃ t ∈ ts, nxS m t b = u := by
  have e : ∀ u, (∃ t ∈ gs, run m t (v ++ [b]) = u) ↔ ∃ t ∈ ts, nxS m t b = u := fun u => by
    constructor
    · rintro ⟨t, ht, rfl⟩
      exact ⟨run m t v, (h _).mpr ⟨t, ht, rfl⟩, by rw [run_app]; rfl⟩
    · rintro ⟨t, ht, rfl⟩
      obtain ⟨t', h1, rfl⟩ := (h t).mp ht
      exact ⟨t', h1, by rw [run_app]; rfl⟩
  exact ⟨fun z u => (z u).trans (e u), fun z u => (z u).trans (e u).symm⟩
theorem sure_img {m : Nat} {gs : List St3} (C : Closed m gs) (v : List Bool) : Sure m v ↔ Img m gs v [AtE] := by
  constructor
  · intro h u
    rw [List.mem_singleton]
    constructor
    · rintro rfl
      exact ⟨AtE, C.ae, h []⟩
    · rintro ⟨t, ht, rfl⟩
      obtain ⟨l, rfl⟩ := C.rch t ht
      rw [← run_app]
      exact h l
  · intro h l
    have hl : ∀ l : List Bool, run m AtE l ∈ gs := fun l => by
      have : ∀ (l : List Bool) (t : St3), t ∈ gs → run m t l ∈ gs := by
        intro l
        induction l with
        | nil => exact fun t h => h
        | cons b l ih => exact fun t h => ih _ (C.nx t h b)
      exact this l _ C.ae
    rw [run_app]
    exact List.mem_singleton.mp ((h _).mpr ⟨_, hl l, rfl⟩)
/-- what stands in the line when so many of it have been gone through, and so many signs of the next one -/
structure Bfs (m : Nat) (gs : List St3) (es : List (List St3 × List Bool)) (a i : Nat) : Prop where
  img : ∀ e ∈ es, SrtS e.1 ∧ Img m gs e.2 e.1
  asc : (es.map fun e => codeB e.2).Pairwise (· < ·)
  nd : (es.map (·.1)).Nodup
  e0 : ∃ e ∈ es, e.2 = []
  no : ∀ j e, j < a → es[j]? = some e → e.1 ≠ [AtE]
  out : ∀ j e, j < a → es[j]? = some e → ∀ b, ∃ e' ∈ es, Img m gs (e.2 ++ [b]) e'.1 ∧ codeB e'.2 ≤ codeB (e.2 ++ [b])
  cur : ∀ e, es[a]? = some e → ∀ b ∈ [false, true].take i, ∃ e' ∈ es, Img m gs (e.2 ++ [b]) e'.1 ∧ codeB e'.2 ≤ codeB (e.2 ++ [b])
  bd : ∀ e, es[a]? = some e → ∀ e' ∈ es, codeB e'.2 < 2 * codeB e.2 + 1 + i
theorem asc_get {es : List (List St3 × List Bool)} (h : (es.map fun e => codeB e.2).Pairwise (· < ·)) {i j : Nat} {e e' : List St3 × List Bool} (hi : es[i]? = some e) (hj : es[j]? = some e') (hij : i < j) : codeB e.2 < codeB e'.2 := by
  have := List.pairwise_iff_getElem.mp h i j (by rw [List.length_map]; exact (List.getElem?_eq_some_iff.mp hi).1) (by rw [List.length_map]; exact (List.getElem?_eq_some_iff.mp hj).1) hij
  rw [List.getElem_map, List.getElem_map] at this
  obtain ⟨_, e1⟩ := List.getElem?_eq_some_iff.mp hi
  obtain ⟨_, e2⟩ := List.getElem?_eq_some_iff.mp hj
  rw [e1, e2] at this
  exact this
theorem asc_le {es : List (List St3 × List Bool)} (h : (es.map fun e => codeB e.2).Pairwise (· < ·)) : ∀ {i : Nat} {e : List St3 × List Bool}, es[i]? = some e → i ≤ codeB e.2
  | 0, _, _ => Nat.zero_le _
  | i + 1, e, hi => by
    have hl := (List.getElem?_eq_some_iff.mp hi).1
    have e1 : es[i]? = some es[i] := List.getElem?_eq_getElem (by omega)
    have := asc_le h e1
    have := asc_get h e1 hi (Nat.lt_succ_self _)
    omega
theorem Bfs.len {m : Nat} {gs : List St3} {es : List (List St3 × List Bool)} {a i : Nat} (B : Bfs m gs es a i) {e : List St3 × List Bool} (he : es[a]? = some e) : es.length ≤ 2 * codeB e.2 + 1 + i := by
  have hl := (List.getElem?_eq_some_iff.mp he).1
  have e1 : es[es.length - 1]? = some es[es.length - 1] := List.getElem?_eq_getElem (by omega)
  have h1 := asc_le B.asc e1
  have h2 := B.bd e he _ (List.mem_of_getElem? e1)
  omega
/-- the sets are as the texts say: the same ones for texts that lead to the same set -/
theorem Bfs.cover {m : Nat} {gs : List St3} {es : List (List St3 × List Bool)} {a : Nat} (B : Bfs m gs es a 0) : ∀ (n : Nat) (v : List Bool), v.length = n → (∃ e ∈ es, Img m gs v e.1 ∧ codeB e.2 ≤ codeB v) ∨ ∃ j e, a ≤ j ∧ es[j]? = some e ∧ codeB e.2 ≤ codeB v
  | 0, v, hv => by
    have : v = [] := List.length_eq_zero_iff.mp hv
    subst this
    obtain ⟨e, he, e0⟩ := B.e0
    exact .inl ⟨e, he, by rw [← e0]; exact (B.img e he).2, by rw [e0]; exact Nat.le_refl _⟩
  | n + 1, v, hv => by
    rcases snocL v with rfl | ⟨u, b, rfl⟩
    · cases hv
    have hu : u.length = n := by simpa using hv
    have hc : codeB u < codeB (u ++ [b]) := by rw [code_snoc]; omega
    rcases B.cover n u hu with ⟨e, he, h1, h2⟩ | ⟨j, e, h1, h2, h3⟩
    · obtain ⟨j, hj⟩ := List.getElem?_of_mem he
      by_cases c : j < a
      · obtain ⟨e', he', i1, i2⟩ := B.out j e c hj b
        refine .inl ⟨e', he', (img_snoc b h1).mpr ((img_snoc b (B.img e he).2).mp i1), ?_⟩
        rw [code_snoc] at i2 ⊢
        omega
      · exact .inr ⟨j, e, by omega, hj, by omega⟩
    · exact .inr ⟨j, e, h1, h2, by omega⟩
/-- a text that does it is not gone by -/
theorem Bfs.more {m : Nat} {gs : List St3} (C : Closed m gs) {es : List (List St3 × List Bool)} {a : Nat} (B : Bfs m gs es a 0) {v : List Bool} (hv : Sure m v) : ∃ e, es[a]? = some e ∧ codeB e.2 ≤ codeB v := by
  have key : ∃ j e, a ≤ j ∧ es[j]? = some e ∧ codeB e.2 ≤ codeB v := by
    rcases B.cover _ v rfl with ⟨e, he, h1, h2⟩ | h
    · obtain ⟨j, hj⟩ := List.getElem?_of_mem he
      refine ⟨j, e, Nat.not_lt.mp fun z => B.no j e z hj ?_, hj, h2⟩
      refine srtS_ext (B.img e he).1 (List.pairwise_singleton _ _) ?_ fun t => ?_
      · intro t ht
        obtain ⟨t', h3, rfl⟩ := (h1 t).mp ht
        have := (h1 _).mpr ⟨t', h3, rfl⟩
        rw [List.mem_singleton.mp (((sure_img C v).mp hv _).mpr ⟨t', h3, rfl⟩)]
        exact ⟨by decide, by decide, by decide⟩
      · rw [h1 t, ((sure_img C v).mp hv) t]
    · exact h
  obtain ⟨j, e, h1, h2, h3⟩ := key
  have hl := (List.getElem?_eq_some_iff.mp h2).1
  have e1 : es[a]? = some es[a] := List.getElem?_eq_getElem (by omega)
  refine ⟨_, e1, ?_⟩
  by_cases c : a = j
  · subst c
    rw [h2] at e1
    rw [← Option.some.inj e1]
    exact h3
  · have := asc_get B.asc e1 h2 (by omega)
    omega
theorem Bfs.found {m : Nat} {gs : List St3} (C : Closed m gs) {es : List (List St3 × List Bool)} {a : Nat} (B : Bfs m gs es a 0) {e : List St3 × List Bool} (he : es[a]? = some e) (h : e.1 = [AtE]) : Sure m e.2 ∧ ∀ v, Sure m v → codeB e.2 ≤ codeB v := by
  refine ⟨(sure_img C _).mpr (h ▸ (B.img e (List.mem_of_getElem? he)).2), fun v hv => ?_⟩
  obtain ⟨e', h1, h2⟩ := B.more C hv
  rw [he] at h1
  rw [Option.some.inj h1]
  exact h2
theorem Bfs.start {m : Nat} {gs ts : List St3} (h1 : SrtS ts) (h2 : ∀ t, t ∈ ts ↔ t ∈ gs) : Bfs m gs [(ts, [])] 0 0 where
  img := fun e he => by
    rw [List.mem_singleton.mp he]
    exact ⟨h1, fun u => by rw [h2 u]; exact ⟨fun h => ⟨u, h, rfl⟩, fun ⟨t, h, e⟩ => e ▸ h⟩⟩
  asc := List.pairwise_singleton _ _
  nd := by simp
  e0 := ⟨_, List.mem_singleton.mpr rfl, rfl⟩
  no := fun j e h => by omega
  out := fun j e h => by omega
  cur := fun e _ b hb => by cases hb
  bd := fun e he e' he' => by
    cases Option.some.inj (show some (ts, []) = some e from he)
    rw [List.mem_singleton.mp he']
    show codeB [] < 2 * codeB [] + 1 + 0
    decide
/-- a sign of the one that is gone through, that leads to a set that is known -/
theorem Bfs.known {m : Nat} {gs : List St3} {es : List (List St3 × List Bool)} {a i : Nat} (B : Bfs m gs es a i) {e e' : List St3 × List Bool} {b : Bool} (he : es[a]? = some e) (hb : [false, true][i]? = some b) (he' : e' ∈ es) (hi : Img m gs (e.2 ++ [b]) e'.1) : Bfs m gs es a (i + 1) where
  img := B.img
  asc := B.asc
  nd := B.nd
  e0 := B.e0
  no := B.no
  out := B.out
  cur := fun x hx b' hb' => by
    rw [he] at hx
    cases Option.some.inj hx
    rw [take_more hb] at hb'
    rcases List.mem_append.mp hb' with z | z
    · exact B.cur e he b' z
    · rw [List.mem_singleton.mp z]
      refine ⟨e', he', hi, ?_⟩
      have := B.bd e he e' he'
      rw [code_snoc]
      have : b.toNat = i := by
        match i, hb with
        | 0, hb => cases Option.some.inj (show some false = some b from hb); rfl
        | 1, hb => cases Option.some.inj (show some true = some b from hb); rfl
        | i + 2, hb => cases hb
      omega
  bd := fun x hx e' he' => by
    have := B.bd x hx e' he'
    omega
/-- .. to a new one -/
theorem Bfs.put {m : Nat} {gs us : List St3} {es : List (List St3 × List Bool)} {a i : Nat} (B : Bfs m gs es a i) {e : List St3 × List Bool} {b : Bool} (he : es[a]? = some e) (hb : [false, true][i]? = some b) (hs : SrtS us) (hi : Img m gs (e.2 ++ [b]) us) (hn : us ∉ es.map (·.1)) : Bfs m gs (es ++ [(us, e.2 ++ [b])]) a (i + 1) := by
  have hl := (List.getElem?_eq_some_iff.mp he).1
  have bi : b.toNat = i := by
    match i, hb with
    | 0, hb => cases Option.some.inj (show some false = some b from hb); rfl
    | 1, hb => cases Option.some.inj (show some true = some b from hb); rfl
    | i + 2, hb => cases hb
  have cb : ∀ e' ∈ es, codeB e'.2 < codeB (e.2 ++ [b]) := fun e' he' => by
    have := B.bd e he e' he'
    rw [code_snoc]
    omega
  exact {
    img := fun x hx => by
      rcases List.mem_append.mp hx with z | z
      · exact B.img x z
      · rw [List.mem_singleton.mp z]
        exact ⟨hs, hi⟩
    asc := by
      rw [List.map_append, List.pairwise_append]
      refine ⟨B.asc, List.pairwise_singleton _ _, fun x hx y hy => ?_⟩
      obtain ⟨e', he', rfl⟩ := List.mem_map.mp hx
      rw [List.mem_singleton.mp hy]
      exact cb e' he'
    nd := by
      rw [List.map_append]
      exact List.nodup_append.mpr ⟨B.nd, by simp, fun x hx y hy => by
        have e : y = us := List.mem_singleton.mp hy
        rw [e]
        exact fun z => hn (z ▸ hx)⟩
    e0 := by
      obtain ⟨x, hx, e0⟩ := B.e0
      exact ⟨x, List.mem_append.mpr (.inl hx), e0⟩
    no := fun j x hj hx => by
      rw [List.getElem?_append_left (by omega)] at hx
      exact B.no j x hj hx
    out := fun j x hj hx b' => by
      rw [List.getElem?_append_left (by omega)] at hx
      obtain ⟨e', he', r⟩ := B.out j x hj hx b'
      exact ⟨e', List.mem_append.mpr (.inl he'), r⟩
    cur := fun x hx b' hb' => by
      rw [List.getElem?_append_left hl, he] at hx
      cases Option.some.inj hx
      rw [take_more hb] at hb'
      rcases List.mem_append.mp hb' with z | z
      · obtain ⟨e', he', r⟩ := B.cur e he b' z
        exact ⟨e', List.mem_append.mpr (.inl he'), r⟩
      · rw [List.mem_singleton.mp z]
        exact ⟨_, List.mem_append.mpr (.inr List.mem_cons_self), hi, Nat.le_refl _⟩
    bd := fun x hx e' he' => by
      rw [List.getElem?_append_left hl, he] at hx
      cases Option.some.inj hx
      rcases List.mem_append.mp he' with z | z
      · have := B.bd e he e' z
        omega
      · rw [List.mem_singleton.mp z]
        show codeB (e.2 ++ [b]) < _
        rw [code_snoc]
        omega }
theorem Bfs.next {m : Nat} {gs : List St3} {es : List (List St3 × List Bool)} {a : Nat} (B : Bfs m gs es a 2) {e : List St3 × List Bool} (he : es[a]? = some e) (hn : e.1 ≠ [AtE]) : Bfs m gs es (a + 1) 0 where
  img := B.img
  asc := B.asc
  nd := B.nd
  e0 := B.e0
  no := fun j x hj hx => by
    by_cases c : j = a
    · subst c
      rw [he] at hx
      cases Option.some.inj hx
      exact hn
    · exact B.no j x (by omega) hx
  out := fun j x hj hx b => by
    by_cases c : j = a
    · subst c
      exact B.cur x hx b (by cases b <;> simp)
    · exact B.out j x (by omega) hx b
  cur := fun e _ b hb => by cases hb
  bd := fun x hx e' he' => by
    have h1 := B.bd e he e' he'
    have h2 := asc_get B.asc he hx (Nat.lt_succ_self _)
    omega
/-! a text that does it -/
def sureV (m : Nat) : List Bool := if wideN m = 0 then [false] else List.replicate (wideN m) true ++ false :: List.replicate (if 0 < shortN m then wideN m - 1 else wideN m) false
theorem worth_zeros (n : Nat) : worth (List.replicate n false) = 0 := by
  induction n with
  | zero => rfl
  | succ n ih => rw [List.replicate_succ, worth, ih]; rfl
theorem ones_out {m : Nat} (hc : 1 ≤ wideN m) : ∀ (n : Nat) (t : St3), Std m t → (t.1 = 2 → wideN m - t.2.2 ≤ n) → run m t (List.replicate n true) = AtE ∨ run m t (List.replicate n true) = (1, 0, 0)
  | 0, t, ht, h => by
    rcases ht with rfl | rfl | ⟨h1, h2, h3⟩
    · exact .inl rfl
    · exact .inr rfl
    · have := h h1
      omega
  | n + 1, t, ht, h => by
    rw [List.replicate_succ]
    show run m (nxS m t true) (List.replicate n true) = AtE ∨ run m (nxS m t true) (List.replicate n true) = (1, 0, 0)
    refine ones_out hc n _ (std_nx ht true) fun h2 => ?_
    rcases ht with rfl | rfl | ⟨h1, h3, h4⟩
    · have e : nxS m AtE true = (1, 0, 0) := rfl
      rw [e] at h2
      cases h2
    · have e : nxS m (1, 0, 0) true = (1, 0, 0) := rfl
      rw [e] at h2
      cases h2
    · obtain ⟨k, r, f⟩ := t
      have h1 : k = 2 := h1
      subst h1
      have h := h rfl
      rw [nx_bits hc] at h2 ⊢
      split at h2
      · cases h2
      · rename_i c
        rw [if_neg c]
        have h : wideN m - f ≤ n + 1 := h
        show wideN m - (f + 1) ≤ n
        omega
theorem sureV_sure {m : Nat} : Sure m (sureV m) := by
  intro l
  have hst : Std m (run m AtE l) := std_run l (.inl rfl)
  rw [run_app]
  unfold sureV
  by_cases c : wideN m = 0
  · rw [if_pos c]
    generalize run m AtE l = t at hst
    rcases hst with rfl | rfl | ⟨h1, h2, h3⟩
    · show nxS m AtE false = AtE
      rw [nx_zero (by decide) rfl, if_pos c]
    · show nxS m (1, 0, 0) false = AtE
      rw [nx_zero (by decide) rfl, if_pos c]
    · omega
  · rw [if_neg c, run_app]
    have h := ones_out (by omega) (wideN m) _ hst fun _ => by omega
    have e : run m (run m (run m AtE l) (List.replicate (wideN m) true)) (false :: List.replicate (if 0 < shortN m then wideN m - 1 else wideN m) false) = run m (nxS m (run m (run m AtE l) (List.replicate (wideN m) true)) false) (List.replicate (if 0 < shortN m then wideN m - 1 else wideN m) false) := rfl
    rw [e]
    have e2 : nxS m (run m (run m AtE l) (List.replicate (wideN m) true)) false = (2, 0, 0) := by
      rcases h with h | h
      · rw [h, nx_zero (by decide) rfl, if_neg c]
      · rw [h, nx_zero (by decide) rfl, if_neg c]
    rw [e2]
    by_cases cs : 0 < shortN m
    · rw [if_pos cs]
      exact run_end1 (by omega) (List.length_replicate) (by rw [worth_zeros]; exact cs)
    · rw [if_neg cs]
      exact run_end2 (by omega) (List.length_replicate) (by omega)
theorem sureV_len (m : Nat) : (sureV m).length ≤ 2 * wideN m + 1 := by
  unfold sureV
  split
  · simp
  · rw [List.length_append, List.length_replicate, List.length_cons, List.length_replicate]
    split <;> omega
theorem sureV_code {m : Nat} (h64 : m ≤ 64) : codeB (sureV m) < 16384 := by
  have h1 := code_lt (sureV m)
  have h2 := sureV_len m
  have h3 := wide_64 h64
  have : 2 ^ ((sureV m).length + 1) ≤ 2 ^ 14 := Nat.pow_le_pow_right (by decide) (by omega)
  have e : (2 : Nat) ^ 14 = 16384 := by decide
  omega
/-- of all standings few are left behind a sign -/
theorem img_few {m : Nat} (h64 : m ≤ 64) (b : Bool) {L : List St3} (hn : L.Nodup) (h : ∀ u ∈ L, ∃ t, Std m t ∧ nxS m t b = u) : L.length < 63 := by
  have h6 := wide_64 h64
  -- a place for each
  let pl : St3 → Nat := fun u => if u.1 = 0 then 60 else if u.1 = 1 then 61 else if u.2.2 = 0 then 59 else 2 ^ (u.2.2 - 1) + u.2.1 / 2
  have key : ∀ u ∈ L, (u = AtE ∨ u = (1, 0, 0) ∨ u = (2, 0, 0)) ∨ ∃ r f, u = (2, 2 * r + b.toNat, f + 1) ∧ r < 2 ^ f ∧ f + 1 < wideN m := fun u hu => by
    obtain ⟨t, ht, rfl⟩ := h u hu
    have hs := std_nx ht b
    by_cases hc : wideN m = 0
    · rcases hs with z | z | ⟨z1, z2, z3⟩
      · exact .inl (.inl z)
      · exact .inl (.inr (.inl z))
      · omega
    · rcases ht with rfl | rfl | ⟨h1, h2, h3⟩
      · cases b
        · rw [nx_zero (by decide) rfl, if_neg hc]
          exact .inl (.inr (.inr rfl))
        · exact .inl (.inr (.inl rfl))
      · cases b
        · rw [nx_zero (by decide) rfl, if_neg hc]
          exact .inl (.inr (.inr rfl))
        · exact .inl (.inr (.inl rfl))
      · obtain ⟨k, r, f⟩ := t
        have h1 : k = 2 := h1
        subst h1
        rw [nx_bits (by omega)] at hs ⊢
        split
        · exact .inl (.inl rfl)
        · rename_i c
          rw [if_neg c] at hs
          refine .inr ⟨r, f, rfl, h3, ?_⟩
          rcases hs with z | z | ⟨z1, z2, z3⟩
          · cases z
          · cases z
          · exact z2
  have hpl : ∀ u ∈ L, pl u < 62 := fun u hu => by
    rcases key u hu with (rfl | rfl | rfl) | ⟨r, f, rfl, h1, h2⟩
    · decide
    · decide
    · decide
    · show (if (2 : Nat) = 0 then 60 else if (2 : Nat) = 1 then 61 else if f + 1 = 0 then 59 else 2 ^ (f + 1 - 1) + (2 * r + b.toNat) / 2) < 62
      rw [if_neg (by decide), if_neg (by decide), if_neg (by omega), Nat.add_sub_cancel]
      have : 2 ^ f ≤ 2 ^ 4 := Nat.pow_le_pow_right (by decide) (by omega)
      have e : (2 * r + b.toNat) / 2 = r := by cases b <;> simp <;> omega
      omega
  have hin : ∀ u ∈ L, ∀ v ∈ L, pl u = pl v → u = v := fun u hu v hv e => by
    have big : ∀ r f, r < 2 ^ f → f + 1 < wideN m → pl (2, 2 * r + b.toNat, f + 1) = 2 ^ f + r ∧ 2 ^ f + r < 2 ^ (f + 1) ∧ 2 ^ (f + 1) ≤ 32 := fun r f h1 h2 => by
      have : 2 ^ (f + 1) ≤ 2 ^ 5 := Nat.pow_le_pow_right (by decide) (by omega)
      have e : (2 * r + b.toNat) / 2 = r := by cases b <;> simp <;> omega
      refine ⟨?_, by rw [Nat.pow_succ]; omega, this⟩
      show (if (2 : Nat) = 0 then 60 else if (2 : Nat) = 1 then 61 else if f + 1 = 0 then 59 else 2 ^ (f + 1 - 1) + (2 * r + b.toNat) / 2) = _
      rw [if_neg (by decide), if_neg (by decide), if_neg (by omega), Nat.add_sub_cancel, e]
    have p0 : pl AtE = 60 := rfl
    have p1 : pl (1, 0, 0) = 61 := rfl
    have p2 : pl (2, 0, 0) = 59 := rfl
    rcases key u hu with (rfl | rfl | rfl) | ⟨r, f, rfl, h1, h2⟩ <;> rcases key v hv with (rfl | rfl | rfl) | ⟨r', f', rfl, h1', h2'⟩ <;> first | rfl | (rw [p0, p1] at e; omega) | (rw [p0, p2] at e; omega) | (rw [p1, p0] at e; omega) | (rw [p1, p2] at e; omega) | (rw [p2, p0] at e; omega) | (rw [p2, p1] at e; omega) | skip
    · have := big r' f' h1' h2'; rw [p0] at e; omega
    · have := big r' f' h1' h2'; rw [p1] at e; omega
    · have := big r' f' h1' h2'; rw [p2] at e; omega
    · have := big r f h1 h2; rw [p0] at e; omega
    · have := big r f h1 h2; rw [p1] at e; omega
    · have := big r f h1 h2; rw [p2] at e; omega
    · obtain ⟨a1, a2, a3⟩ := big r f h1 h2
      obtain ⟨b1, b2, b3⟩ := big r' f' h1' h2'
      rw [a1, b1] at e
      have ef : f = f' := by
        rcases Nat.lt_trichotomy f f' with z | z | z
        · have : 2 ^ (f + 1) ≤ 2 ^ f' := Nat.pow_le_pow_right (by decide) z
          omega
        · exact z
        · have : 2 ^ (f' + 1) ≤ 2 ^ f := Nat.pow_le_pow_right (by decide) z
          omega
      subst ef
      have : r = r' := by omega
      rw [this]
  have := nodup_bound 62 (L.map pl) (nodup_map hn hin) fun x hx => by
    obtain ⟨u, hu, rfl⟩ := List.mem_map.mp hx
    exact hpl u hu
  rw [List.length_map] at this
  omega
end St
namespace St
open PySem PySem.Spec PyProof.Rows L2
/-! ### the signs with which a word can begin lead to all standings -/
/-- the signs with which a word can begin -/
def BegB (m : Nat) (b : List Bool) : Prop := b = [] ∨ b = [true] ∨ ∃ r k, r < m ∧ k < (restB m r).length ∧ b = false :: (restB m r).take k
theorem fig_shift (p : List Bool) : ∀ j, fig (worth p * 2 ^ j) (p.length + j) = p ++ List.replicate j false
  | 0 => by rw [Nat.pow_zero, Nat.mul_one, Nat.add_zero, fig_worth]; simp
  | j + 1 => by
    rw [← Nat.add_assoc, fig_snoc, List.replicate_succ', ← List.append_assoc, ← fig_shift p j, Nat.pow_succ, ← Nat.mul_assoc, Nat.mul_div_cancel _ (by decide)]
    congr 1
    have : worth p * 2 ^ j * 2 % 2 = 0 := by omega
    rw [this]
    rfl
theorem ext_rest {m : Nat} (hm : 1 ≤ m) (hc : 1 ≤ wideN m) {p : List Bool} (hp : p.length ≤ wideN m - 1) (h : p.length < wideN m - 1 ∨ shortN m ≤ worth p) : ∃ r, r < m ∧ p.length < (restB m r).length ∧ (restB m r).take p.length = p := by
  obtain ⟨j, hj⟩ : ∃ j, wideN m - 1 = p.length + j := ⟨wideN m - 1 - p.length, by omega⟩
  have hw := worth_lt p
  have hV : worth p * 2 ^ j < 2 ^ (wideN m - 1) := by
    rw [hj, Nat.pow_add]
    exact Nat.mul_lt_mul_of_pos_right hw (Nat.two_pow_pos j)
  have ha := short_add (m := m)
  have hs := short_lt hm
  have h2 : 2 ^ wideN m = 2 * 2 ^ (wideN m - 1) := pow_half hc
  by_cases c : worth p * 2 ^ j < shortN m
  · refine ⟨worth p * 2 ^ j, by omega, ?_⟩
    have e : restB m (worth p * 2 ^ j) = p ++ List.replicate j false := by
      unfold restB
      rw [if_pos c, hj, fig_shift]
    have hlt : p.length < wideN m - 1 := by
      refine h.elim id fun z => ?_
      refine Nat.not_le.mp fun y => ?_
      have : j = 0 := by omega
      subst this
      omega
    rw [e]
    refine ⟨?_, List.take_left' rfl⟩
    rw [List.length_append, List.length_replicate]
    omega
  · have e4 : worth p * 2 ^ (j + 1) = 2 * (worth p * 2 ^ j) := by rw [Nat.pow_succ, Nat.mul_comm (2 ^ j) 2, ← Nat.mul_assoc, Nat.mul_comm (worth p) 2, Nat.mul_assoc]
    refine ⟨2 * (worth p * 2 ^ j) - shortN m, by omega, ?_⟩
    have e : restB m (2 * (worth p * 2 ^ j) - shortN m) = p ++ List.replicate (j + 1) false := by
      unfold restB
      rw [if_neg (by omega), show 2 * (worth p * 2 ^ j) - shortN m + shortN m = worth p * 2 ^ (j + 1) by rw [e4]; omega, show wideN m = p.length + (j + 1) by omega, fig_shift]
    rw [e]
    refine ⟨?_, List.take_left' rfl⟩
    rw [List.length_append, List.length_replicate]
    omega
theorem beg_rep {m : Nat} (hm : 1 ≤ m) : ∀ (n : Nat) (l : List Bool), l.length = n → ∃ b, BegB m b ∧ run m AtE l = run m AtE b
  | 0, l, hl => ⟨[], .inl rfl, by rw [List.length_eq_zero_iff.mp hl]⟩
  | n + 1, l, hl => by
    rcases snocL l with rfl | ⟨p, x, rfl⟩
    · cases hl
    obtain ⟨b, hb, e⟩ := beg_rep hm n p (by simpa using hl)
    rw [run_app, e]
    show ∃ b', BegB m b' ∧ nxS m (run m AtE b) x = run m AtE b'
    have zero : ∃ b', BegB m b' ∧ nxS m AtE false = run m AtE b' := by
      by_cases c0 : wideN m = 0
      · exact ⟨[], .inl rfl, by rw [nx_zero (by decide) rfl, if_pos c0]; rfl⟩
      · refine ⟨false :: (restB m (m - 1)).take 0, .inr (.inr ⟨m - 1, 0, by omega, ?_, rfl⟩), rfl⟩
        rw [rest_len, if_neg (by have := short_lt hm; omega)]
        omega
    rcases hb with rfl | rfl | ⟨r, k, hr, hk, rfl⟩
    · cases x
      · exact zero
      · exact ⟨[true], .inr (.inl rfl), rfl⟩
    · cases x
      · obtain ⟨b', h1, h2⟩ := zero
        refine ⟨b', h1, ?_⟩
        rw [← h2]
        show nxS m (1, 0, 0) false = _
        rw [nx_zero (by decide) rfl, nx_zero (by decide) rfl]
      · exact ⟨[true], .inr (.inl rfl), rfl⟩
    · have hl := rest_len_le m r
      have hc : 1 ≤ wideN m := by omega
      have e2 : ∀ q : List Bool, run m AtE (false :: q) = run m (2, 0, 0) q := fun q => by
        show run m (nxS m AtE false) q = _
        rw [nx_zero (by decide) rfl, if_neg (by omega)]
      have hql : ((restB m r).take k).length = k := by rw [List.length_take]; omega
      obtain ⟨q, hq⟩ : ∃ q, q = (restB m r).take k := ⟨_, rfl⟩
      rw [← hq] at hql ⊢
      rw [e2]
      have e3 : nxS m (run m (2, 0, 0) q) x = run m (2, 0, 0) (q ++ [x]) := by rw [run_app]; rfl
      rw [e3]
      have pl : (q ++ [x]).length = k + 1 := by rw [List.length_append, hql]; rfl
      by_cases ck : k + 1 = wideN m
      · refine ⟨[], .inl rfl, ?_⟩
        rw [run_end2 hc (by rw [pl, ck]) ?_]
        · rfl
        rw [List.take_left' (by omega)]
        have rl := rest_len m r
        have cr : ¬ r < shortN m := fun z => by rw [if_pos z] at rl; omega
        have eq : q = fig ((r + shortN m) / 2) (wideN m - 1) := by
          rw [hq]
          unfold restB
          rw [if_neg cr, ← ck, fig_snoc, List.take_left' (by rw [fig_len]), Nat.add_sub_cancel]
        have ha := short_add (m := m)
        have h2 : 2 ^ wideN m = 2 * 2 ^ (wideN m - 1) := pow_half hc
        rw [eq, worth_fig, Nat.mod_eq_of_lt (by omega)]
        omega
      · by_cases cA : k + 1 < wideN m - 1 ∨ shortN m ≤ worth (q ++ [x])
        · obtain ⟨r', h1, h2, h3⟩ := ext_rest hm hc (p := q ++ [x]) (by omega) (by rw [pl]; exact cA)
          exact ⟨_, .inr (.inr ⟨r', _, h1, h2, rfl⟩), by rw [h3, e2]⟩
        · exact ⟨[], .inl rfl, by rw [run_end1 hc (by omega) (by omega)]; rfl⟩
theorem sure_beg {m : Nat} (hm : 1 ≤ m) (v : List Bool) : Sure m v ↔ ∀ b, BegB m b → run m AtE (b ++ v) = AtE := by
  constructor
  · exact fun h b _ => h b
  · intro h l
    obtain ⟨b, hb, e⟩ := beg_rep hm _ l rfl
    rw [run_app, e, ← run_app]
    exact h b hb
theorem beg_len {m : Nat} (h64 : m ≤ 64) {b : List Bool} (h : BegB m b) : b.length ≤ 7 := by
  have h6 := wide_64 h64
  rcases h with rfl | rfl | ⟨r, k, hr, hk, rfl⟩
  · simp
  · simp
  · have := rest_len_le m r
    rw [List.length_cons, List.length_take]
    omega
end St
namespace St
open PySem PySem.Spec PyProof.Rows L2
/-! ### y not in d -/
def tDVNotIn (K : PySem.W.Frag) (P : Program) (w : World) (ty td : L2.TE) : L2.TE := fun σ H Q => ty σ H fun y H1 => td σ H1 fun x H2 => ∃ a b xs k, x = .ref a ∧ y = .ref b ∧ DAt K P w H2 a xs ∧ NkAt K H2 b k ∧ Q (.bl (!(valD xs k).isSome)) H2
section
variable {X : Cx} {pins : List (Addr × Obj)} {σ : L2.St} {H : Hp} {s : Shared} {a b : Addr} {xs : List DEnt} {k : NestedKey} {A : Around} {E : Value → Shared → Prop}
theorem dv_notin {Q : Value → Shared → Prop} (hu : A.units + 9 < cLine) (I : Inv X pins σ H s) (e : DAt X.K X.prog X.w H a xs) (kb : NkAt X.K H b k) (h : ∀ s', Inv X pins σ H s' → Q (.bool (!(valD xs k).isSome)) s') :
    wpAny (model X.prog X.w) A (compareOp .NotIn (.ref b) (.ref a)) Q E s := by
  obtain ⟨z, hd, vs, rel, dd⟩ := dv_rd I e
  refine PyProof.Rows.wpAny_notIn_heap (nk_room (X := X) hu) (nk_key I kb) hd dd ?_
  have e2 := dv_some (k := k) rel
  rw [e2]
  exact h _ (I.tok _)
end
section
variable {X : Cx} {o i : Expr} {td ty : L2.TE} (K : PySem.W.Frag) (P : Program) (w : World)
theorem pc_dvnotin_ (hu : X.A.units + 64 < cLine) (hi : PE X i ty) (ho : PE X o td) (hK : X.K = K := by rfl) (hP : X.prog = P := by rfl) (hw : X.w = w := by rfl) : PC X .NotIn i o (tDVNotIn K P w ty td) := by
  subst hK hP hw
  refine ⟨fun pins s σ H Q I h => ?_⟩
  refine thn (hi.run pins s σ H _ I h) fun iv s1 ⟨y, H1, I1, ry, q1⟩ => thn (ho.run pins s1 σ H1 _ I1 q1) fun u s2 ⟨x, H2, I2, rx, a, b, xs, k, ex, ey, g, kb, q2⟩ => ?_
  subst ex ey
  obtain rfl : u = Value.ref a := rx
  obtain rfl : iv = Value.ref b := ry
  exact dv_notin (nine hu) I2 g kb fun s3 I3 => ⟨.bl (!(valD xs k).isSome), H2, I3, rfl, q2⟩
end
end St
namespace St
open PySem PySem.Spec PyProof.Rows L2
/-! ### sets of standings as keys; a dict of texts -/
def nkL (ts : List St3) : NestedKey := .tup (ts.map nkS)
theorem nkL_inj {a b : List St3} (h : nkL a = nkL b) : a = b := by
  have h : a.map nkS = b.map nkS := NestedKey.tup.inj h
  exact (List.map_inj_right fun _ _ e => nkS_inj e).mp h
/-- the tuple at b has these standings -/
def KnAt (K : PySem.W.Frag) (H : Hp) (b : Addr) (ts : List St3) : Prop := ∃ vs, SqT K H b vs ∧ StAll K H vs ts
theorem KnAt.smU {K : PySem.W.Frag} {H H' : Hp} {b : Addr} {ts : List St3} (s : SmU H H') (h : KnAt K H b ts) : KnAt K H' b ts := by
  obtain ⟨vs, h1, h2⟩ := h
  exact ⟨vs, SqT.smU s h1, h2.smU s⟩
theorem KnAt.dp {K : PySem.W.Frag} {H : Hp} {b : Addr} {ts : List St3} (h : KnAt K H b ts) : Dp K H (.ref b) (.tuple (ts.map stD)) := by
  obtain ⟨vs, h1, h2⟩ := h
  exact .tup h1 h2.dp
theorem nkS_depth (ts : List St3) : NestedKey.depthAll (ts.map nkS) ≤ 2 := by
  induction ts with
  | nil => simp [NestedKey.depthAll]
  | cons t ts ih =>
    rw [List.map_cons]
    simp only [NestedKey.depthAll]
    have : (nkS t).depth ≤ 2 := by simp [nkS, NestedKey.depth, NestedKey.depthAll]
    omega
theorem nkL_at {K : PySem.W.Frag} {H : Hp} {b : Addr} {ts : List St3} (h : KnAt K H b ts) : NkAt K H b (nkL ts) := by
  refine ⟨?_, ?_⟩
  · have e : ∀ ts : List St3, NestedKey.datas (ts.map nkS) = ts.map stD := by
      intro ts
      induction ts with
      | nil => rfl
      | cons t ts ih => rw [List.map_cons, List.map_cons, ← ih]; rfl
    show Dp K H (.ref b) (.tuple (NestedKey.datas (ts.map nkS)))
    rw [e]
    exact h.dp
  · show (NestedKey.tup (ts.map nkS)).depth ≤ 8
    simp only [NestedKey.depth]
    have := nkS_depth ts
    omega
abbrev EnR (K : PySem.W.Frag) (H : Hp) : List DEnt → List (List St3 × List Bool) → Prop := Paired fun x e => x.1 = nkL e.1 ∧ x.2.2 = .str (tx e.2) ∧ KnAt K H x.2.1 e.1
theorem EnR.smU {K : PySem.W.Frag} {H H' : Hp} {xs : List DEnt} {es : List (List St3 × List Bool)} (s : SmU H H') (h : EnR K H xs es) : EnR K H' xs es := by
  induction h with
  | nil => exact .nil
  | cons a t ih => exact .cons ⟨a.1, a.2.1, a.2.2.smU s⟩ ih
theorem EnR.snoc {K : PySem.W.Frag} {H : Hp} {xs : List DEnt} {es : List (List St3 × List Bool)} {b : Addr} {ts : List St3} {w : List Bool} (h : EnR K H xs es) (hb : KnAt K H b ts) : EnR K H (xs ++ [(nkL ts, b, .str (tx w))]) (es ++ [(ts, w)]) := by
  induction h with
  | nil => exact .cons ⟨rfl, rfl, hb⟩ .nil
  | cons a t ih => exact .cons a ih
theorem EnR.len {K : PySem.W.Frag} {H : Hp} {xs : List DEnt} {es : List (List St3 × List Bool)} (h : EnR K H xs es) : xs.length = es.length := Paired.length h
theorem EnR.keys {K : PySem.W.Frag} {H : Hp} {xs : List DEnt} {es : List (List St3 × List Bool)} (h : EnR K H xs es) : ∀ x ∈ xs, NkAt K H x.2.1 x.1 := by
  induction h with
  | nil => intro x hx; cases hx
  | cons a t ih =>
    intro x hx
    rcases List.mem_cons.mp hx with rfl | hx
    · rw [a.1]
      exact nkL_at a.2.2
    · exact ih x hx
theorem EnR.get {K : PySem.W.Frag} {H : Hp} {xs : List DEnt} {es : List (List St3 × List Bool)} (h : EnR K H xs es) : ∀ {i : Nat} {e : List St3 × List Bool}, es[i]? = some e → ∃ x, xs[i]? = some x ∧ x.1 = nkL e.1 ∧ x.2.2 = .str (tx e.2) ∧ KnAt K H x.2.1 e.1 := by
  induction h with
  | nil => intro i e he; simp at he
  | @cons p q l m a t ih =>
    intro i e he
    cases i with
    | zero =>
      cases Option.some.inj (show some q = some e from he)
      exact ⟨p, rfl, a⟩
    | succ i => exact ih he
theorem EnR.val {K : PySem.W.Frag} {H : Hp} {xs : List DEnt} {es : List (List St3 × List Bool)} (h : EnR K H xs es) (ts : List St3) : valD xs (nkL ts) = (es.find? fun e => decide (e.1 = ts)).map fun e => .str (tx e.2) := by
  unfold valD
  induction h with
  | nil => rfl
  | @cons p q l m a t ih =>
    rw [List.find?_cons, List.find?_cons]
    by_cases c : q.1 = ts
    · rw [decide_eq_true c, decide_eq_true (by rw [a.1, c])]
      show some p.2.2 = some _
      rw [a.2.1]
    · rw [decide_eq_false c, decide_eq_false (fun z => c (nkL_inj (by rw [← a.1, z])))]
      exact ih
theorem EnR.at_ {K : PySem.W.Frag} {H : Hp} {xs : List DEnt} {es : List (List St3 × List Bool)} (h : EnR K H xs es) (hn : (es.map (·.1)).Nodup) {e : List St3 × List Bool} (he : e ∈ es) : valD xs (nkL e.1) = some (.str (tx e.2)) := by
  rw [h.val]
  have : (es.find? fun x => decide (x.1 = e.1)) = some e := by
    clear h
    induction es with
    | nil => cases he
    | cons a es ih =>
      obtain ⟨h1, h2⟩ := List.nodup_cons.mp hn
      rw [List.find?_cons]
      rcases List.mem_cons.mp he with rfl | he
      · rw [decide_eq_true rfl]
      · rw [decide_eq_false fun z => h1 (List.mem_map.mpr ⟨e, he, z.symm⟩)]
        exact ih h2 he
  rw [this]
  rfl
theorem EnR.some_ {K : PySem.W.Frag} {H : Hp} {xs : List DEnt} {es : List (List St3 × List Bool)} (h : EnR K H xs es) (ts : List St3) : (valD xs (nkL ts)).isSome = decide (ts ∈ es.map (·.1)) := by
  rw [h.val, Option.isSome_map, Bool.eq_iff_iff, List.find?_isSome, decide_eq_true_eq]
  constructor
  · rintro ⟨e, he, z⟩
    exact List.mem_map.mpr ⟨e, he, of_decide_eq_true z⟩
  · intro z
    obtain ⟨e, he, rfl⟩ := List.mem_map.mp z
    exact ⟨e, he, decide_eq_true rfl⟩
theorem EnR.put {K : PySem.W.Frag} {H : Hp} {xs : List DEnt} {es : List (List St3 × List Bool)} (h : EnR K H xs es) {ts : List St3} (hn : ts ∉ es.map (·.1)) (b : Addr) (v : V) : putD xs (nkL ts) b v = xs ++ [(nkL ts, b, v)] := by
  unfold putD
  rw [h.some_, decide_eq_false hn]
  rfl
theorem stAll_ps {K : PySem.W.Frag} {H : Hp} {vs : List V} {ts : List St3} (h : StAll K H vs ts) : ∃ ps : List (Addr × St3), vs = (ps.map fun p => V.ref p.1) ∧ ts = ps.map (·.2) ∧ ∀ p ∈ ps, SqT K H p.1 (stV p.2) := by
  induction h with
  | nil => exact ⟨[], rfl, rfl, fun p h => by cases h⟩
  | cons a t ih =>
    obtain ⟨b, rfl, hb⟩ := a
    obtain ⟨ps, rfl, rfl, h3⟩ := ih
    exact ⟨(b, _) :: ps, rfl, rfl, fun p hp => by
      rcases List.mem_cons.mp hp with rfl | hp
      · exact hb
      · exact h3 p hp⟩
theorem stAll_of {K : PySem.W.Frag} {H : Hp} : ∀ {ps : List (Addr × St3)}, (∀ p ∈ ps, SqT K H p.1 (stV p.2)) → StAll K H (ps.map fun p => V.ref p.1) (ps.map (·.2))
  | [], _ => .nil
  | p :: ps, h => .cons ⟨p.1, rfl, h p List.mem_cons_self⟩ (stAll_of fun q hq => h q (List.mem_cons_of_mem _ hq))
theorem stT_eqv (ts us : List St3) : PyData.eqv (.tuple (ts.map stD)) (.tuple (us.map stD)) = decide (ts = us) := by
  have h := stL_eqv ts us
  exact h
theorem stT_ok (ts : List St3) : OkN 2 (.tuple (ts.map stD)) := fun d hd => by
  obtain ⟨t, _, rfl⟩ := List.mem_map.mp hd
  exact stD_ok 0 t
end St
namespace St
open PySem PySem.Spec PyProof.Rows L2
/-! ### an int in a list of ints -/
theorem inV_dec (e : Nat) (ys : List Nat) : inV (.int (e : Nat)) (ys.map fun n => V.int (n : Nat)) = decide (e ∈ ys) := by
  unfold inV
  rw [Bool.eq_iff_iff, List.any_eq_true, decide_eq_true_eq]
  constructor
  · rintro ⟨v, hv, h⟩
    obtain ⟨n, hn, rfl⟩ := List.mem_map.mp hv
    have : (n : Int) = (e : Int) := by simpa [eqV] using h
    have : e = n := by omega
    exact this ▸ hn
  · intro h
    exact ⟨_, List.mem_map.mpr ⟨e, h, rfl⟩, by simp [eqV]⟩
theorem flat_ints (ns : List Nat) : (ns.map fun n => V.int (n : Nat)).all flatV = true := by
  rw [List.all_eq_true]
  intro x hx
  obtain ⟨n, _, rfl⟩ := List.mem_map.mp hx
  rfl
end St
namespace St
open PySem PySem.Spec PyProof.Rows L2
def topS (i : Nat) : Stmt := PySem.Challenge.pw_stepruns_k17_whole_sure_texts.main.body.getD i (.Pass ⟨0, 0, 0, 0⟩)

abbrev s__law_mix : Stmt := topS 18
theorem sc__law_mix : FnScope ["_law_script", "_law_seed", "_law_state", "_law_cell"] ["_law_script", "_law_seed"] (defScope s__law_mix) := ⟨rfl, rfl, rfl, by decide +kernel, rfl, by decide +kernel, by decide +kernel⟩
def sp__law_mix (K : PySem.W.Frag) : Sp := fun vs H Q _ => ∃ (a : Addr) (ns : List Int) (sd : Int), vs = [.ref a, .int sd] ∧ SqL K H a (ns.map V.int) ∧ ns.length ≤ 63 ∧
  ∀ (h q : Addr) (H' : Hp), Same H H' → H h = none → H q = none → LawH H' h q → Q (.ref h) H'
section
variable {P : Program} {w : World} {K : PySem.W.Frag} {mg : Str → Option Value} {base : Heap}
theorem ok__law_mix (A : At K mg "_law_mix" s__law_mix ["_law_script", "_law_seed"]) (B : Bn mg) : CalE P w K mg base "_law_mix" ["_law_script", "_law_seed"] 1 (sp__law_mix K) := by
  obtain ⟨f, fd, F, gF, bF⟩ := A
  refine ⟨f, fd, F.ok sc__law_mix (fun vs H Q E h => ?_) (fun cdv A outer s H vs Q E hr h => ?_), gF, F.kp, bF⟩
  · repeat (first | (obtain ⟨rfl, _⟩ := h; rfl) | (obtain ⟨_, h⟩ := h))
  · obtain ⟨a, ns, sd, rfl, hS, hl, q⟩ := h
    refine ⟨_, (pss_cons (ps_set (i := 2) sc__law_mix.nd rfl (.inl rfl) (pv 1))
      (pss_cons (ps_for PassesOwn.never rfl (pi_list (pv 0)) (pg_name (i := 3) sc__law_mix.nd rfl (.inl rfl))
      (pss_one (ps_set (i := 2) sc__law_mix.nd rfl (.inl rfl) (pe_op op_mod (pe_callTy call_int1 (by rfl) B.int_ (by decide +kernel) (pa_cons (pe_op op_add (pe_op op_add (pe_op op_mul (pv 2) pe_int) (pe_op op_mod (pe_callTy call_int1 (by rfl) B.int_ (by decide +kernel) (pa_cons (pv 3) pa_nil)) pe_int)) pe_int) pa_nil)) pe_int))))
      (pss_one (ps_ret (pe_lst (pa_cons (pv 2) (pa_cons (pe_callTy (call_list_of_ K) (by rfl) B.list_ (by decide +kernel) (pa_cons (pv 0) pa_nil)) (pa_cons pe_int pa_nil)))))))), ?_⟩
    -- _law_state = _law_seed
    refine ⟨_, rfl, ?_⟩
    refine ⟨_, rfl, a, rfl, ⟨_, hS⟩, for_list (K := K) (a := a) (xs := ns.map V.int) (fun i σ H2 => ∃ (st : Int) (v : Option V), σ = [some (.ref a), some (.int sd), some (.int st), v] ∧ H2 = H)
      ⟨_, _, rfl, rfl⟩ (fun i σ H2 _ ⟨_, _, _, e⟩ => e ▸ hS) ?_ ?_⟩
    · rintro i y σ H2 hi ⟨st, v, rfl, rfl⟩
      obtain ⟨z, rfl⟩ : ∃ z, y = V.int z := by
        rw [List.getElem?_map] at hi
        cases e : ns[i]? with
        | none => rw [e] at hi; cases hi
        | some z => rw [e] at hi; exact ⟨z, (Option.some.inj hi).symm⟩
      refine ⟨_, rfl, _, _, rfl, rfl, .inr (by omega), _, rfl, .inl ⟨_, rfl, _, _, rfl, rfl, (by decide : (0 : Int) < 2147483629), _, _, rfl, rfl, _, _, rfl, rfl, .inl ⟨_, rfl, _, _, rfl, rfl, (by decide : (0 : Int) < 2147483647), ?_⟩⟩⟩
      exact ⟨_, _, rfl, rfl⟩
    · rintro σ H2 ⟨st, v, rfl, rfl⟩
      -- return [state, list(script), 0]
      refine ⟨_, rfl, _, rfl, a, _, rfl, .inl hS, fun c nc => ⟨(by show 3 ≤ sizeLine; decide), fun p np => ?_⟩⟩
      have npc : p ≠ c := fun e => by rw [e, upd_same] at np; cases np
      refine q p c _ ((same_new nc _).trans (same_new np _)) ((same_new nc _).free np) nc ⟨npc, st, 0, ns, upd_same, ?_, by omega⟩
      rw [upd_ne npc.symm, upd_same]
end

abbrev s__law_begins : Stmt := topS 25
theorem sc__law_begins : FnScope ["_law_rests_here", "_law_found", "_law_rest", "_law_k"] ["_law_rests_here"] (defScope s__law_begins) := ⟨rfl, rfl, rfl, by decide +kernel, rfl, by decide +kernel, by decide +kernel⟩
def begR (m r : Nat) : List (List Bool) := (List.range (restB m r).length).map fun k => false :: (restB m r).take k
def begL (m j : Nat) : List (List Bool) := [[], [true]] ++ (List.range j).flatMap (begR m)
theorem mem_begL (m : Nat) (b : List Bool) : b ∈ begL m m ↔ BegB m b := by
  unfold begL BegB begR
  simp only [List.mem_append, List.mem_cons, List.not_mem_nil, or_false, List.mem_flatMap, List.mem_range, List.mem_map]
  constructor
  · rintro ((h | h) | ⟨r, hr, k, hk, rfl⟩)
    · exact .inl h
    · exact .inr (.inl h)
    · exact .inr (.inr ⟨r, k, hr, hk, rfl⟩)
  · rintro (h | h | ⟨r, k, hr, hk, rfl⟩)
    · exact .inl (.inl h)
    · exact .inl (.inr h)
    · exact .inr ⟨r, hr, k, hk, rfl⟩
theorem begL_succ (m j : Nat) : begL m (j + 1) = begL m j ++ begR m j := by
  unfold begL
  rw [List.range_succ, List.flatMap_append, List.append_assoc]
  simp
theorem begL_len {m : Nat} (h64 : m ≤ 64) : ∀ j, (begL m j).length ≤ 2 + 6 * j
  | 0 => by simp [begL]
  | j + 1 => by
    have ih := begL_len h64 j
    have h6 := wide_64 h64
    have := rest_len_le m j
    rw [begL_succ, List.length_append]
    unfold begR
    rw [List.length_map, List.length_range]
    omega
theorem txs_of : ∀ {ys : List Str}, (∀ y ∈ ys, ∃ b, y = tx b) → ∃ bs : List (List Bool), ys = bs.map tx
  | [], _ => ⟨[], rfl⟩
  | y :: ys, h => by
    obtain ⟨b, hb⟩ := h y List.mem_cons_self
    obtain ⟨bs, e⟩ := txs_of fun z hz => h z (List.mem_cons_of_mem _ hz)
    exact ⟨b :: bs, by rw [hb, e]; rfl⟩
def sp__law_begins (K : PySem.W.Frag) : Sp := fun vs H Q _ => ∃ (m : Nat) (R : Addr), vs = [.ref R] ∧ m ≤ 64 ∧ SqL K H R (restsV m) ∧
  ∀ (D : Addr) (bs : List (List Bool)) (H' : Hp), Same H H' → H D = none → H' D = some (.lst (bs.map fun b => V.str (tx b))) → (∀ b, b ∈ bs ↔ BegB m b) → Q (.ref D) H'
section
variable {P : Program} {w : World} {K : PySem.W.Frag} {mg : Str → Option Value} {base : Heap}
theorem ok__law_begins (A : At K mg "_law_begins" s__law_begins ["_law_rests_here"]) (B : Bn mg) : CalE P w K mg base "_law_begins" ["_law_rests_here"] 1 (sp__law_begins K) := by
  obtain ⟨f, fd, F, gF, bF⟩ := A
  refine ⟨f, fd, F.ok sc__law_begins (fun vs H Q E h => ?_) (fun cdv A outer s H vs Q E hr h => ?_), gF, F.kp, bF⟩
  · repeat (first | (obtain ⟨rfl, _⟩ := h; rfl) | (obtain ⟨_, h⟩ := h))
  · obtain ⟨m, R, rfl, m64, hR, k⟩ := h
    have hsz := sizeLine_eq
    have h6 := wide_64 m64
    have hbl := begL_len m64
    have em : ∀ l : List (List Bool), (l.map fun b => V.str (tx b)) = (l.map tx).map V.str := fun l => by rw [List.map_map]; rfl
    refine ⟨_, (pss_cons (ps_set (i := 1) sc__law_begins.nd rfl (.inl rfl) (pe_lst (pa_cons pe_str (pa_cons pe_str pa_nil))))
      (pss_cons (ps_for PassesOwn.never rfl (pi_list (pv 0)) (pg_name (i := 2) sc__law_begins.nd rfl (.inr rfl))
      (pss_one (ps_set (i := 1) sc__law_begins.nd rfl (.inl rfl) (pe_op op_cat (pv 1) (pe_lc (own := [("_law_k", 3)]) (g := gName 3) (tt := tYes) rfl sc__law_begins.nd (pi_range1 (by rfl) B.range_ (pa_cons (pe_callB call_len_str_ (by rfl) B.len_ (by decide +kernel) (pa_cons (pv 2) pa_nil)) pa_nil)) (blkOk_by (own := [("_law_k", 3)]) (N := ["_law_rests_here", "_law_found", "_law_rest", "_law_k"]) (sc := defScope s__law_begins) (by decide +kernel)) (fun _ _ _ _ _ => (pg_name (i := 3) sc__law_begins.nd rfl (.inl rfl))) (fun _ _ _ _ _ => pts_nil) (fun _ _ _ _ _ => (pe_op op_add_str pe_str (pe_slice sl_str (pv 2) po_none (po_some (pv 3))))))))))
      (pss_one (ps_ret (pe_callB (cr_sortedSS_ P w rfl hr.units) (by rfl) B.sorted_ (by decide +kernel) (pa_cons (pe_callTy (cr_setS_ K P w rfl) (by rfl) B.set_ (by decide +kernel) (pa_cons (pv 1) pa_nil)) pa_nil)))))), ?_⟩
    refine ⟨(by show 2 ≤ sizeLine; omega), fun D0 nD0 => ?_⟩
    have s1 := same_new nD0 (.lst [.str ("" : Str), .str ("1" : Str)])
    have e1 : (upd H D0 (.lst [.str ("" : Str), .str ("1" : Str)])) D0 = some (.lst ((begL m 0).map fun b => V.str (tx b))) := by rw [upd_same, tx_nil, tx_one]; rfl
    generalize upd H D0 (.lst [.str ("" : Str), .str ("1" : Str)]) = H1 at *
    refine ⟨_, rfl, R, rfl, ⟨_, s1.seq hR⟩, for_list (K := K) (a := R) (xs := restsV m) (fun j σ H' => ∃ (D : Addr) (v2 v3 : Option V), σ = [some (.ref R), some (.ref D), v2, v3] ∧ Same H H' ∧ H' D = some (.lst ((begL m j).map fun b => V.str (tx b)))) ⟨D0, _, _, rfl, s1, e1⟩ (fun j σ H' _ ⟨_, _, _, _, s, _⟩ => s.seq hR) ?_ ?_⟩
    · rintro j y σ H2 hy ⟨D, v2, v3, rfl, s2, e2⟩
      have hrm : j < m := by
        have := (List.getElem?_eq_some_iff.mp hy).1
        unfold restsV at this
        rw [List.length_map, List.length_range] at this
        exact this
      have hy' : y = V.str (tx (restB m j)) := by
        unfold restsV at hy
        rw [List.getElem?_map, List.getElem?_range hrm] at hy
        exact (Option.some.inj hy).symm
      subst hy'
      have rl := rest_len_le m j
      have tl : (tx (restB m j)).length ≤ sizeLine := by rw [tx_len]; omega
      have hj := hbl j
      refine ⟨_, rfl, _, rfl, _, rfl, tl, _, rfl, by rw [tx_len]; omega, by rw [tx_len]; omega, ?_⟩
      rw [Int.toNat_natCast, tx_len]
      intro L nL
      refine lc_range (lo := 0) (n := (restB m j).length) (fun i H' => Same H2 H' ∧ H' L = some (.lst (((begR m j).take i).map fun b => V.str (tx b)))) ⟨same_new nL _, upd_same⟩ ?_ ?_
      · rintro i H3 hi ⟨s3, e3⟩
        have ei : (0 : Int) + (i : Int) = ((i : Nat) : Int) := Int.zero_add _
        refine ⟨rfl, _, rfl, _, rfl, _, rfl, _, rfl, tl, _, _, rfl, rfl, ?_, ?_⟩
        · rw [ei, cut_to, tx_len, List.length_take]
          have : ("0" : Str).length = 1 := by decide +kernel
          omega
        have hg : (begR m j)[i]? = some (false :: (restB m j).take i) := by
          unfold begR
          rw [List.getElem?_map, List.getElem?_range hi]
          rfl
        have el : ((begR m j).take i).length ≤ 6 := by
          unfold begR
          rw [List.length_take]
          omega
        refine ⟨_, e3, by rw [List.length_map]; omega, fun b u hb => ?_, ?_⟩
        · rw [upd_ne (ne_of_none hb nL)]
          exact s3 _ _ hb
        · rw [upd_same, take_more hg, List.map_append, ei, cut_to, tx_zero, tx_app]
          rfl
      rintro H3 ⟨s3, e3⟩
      have ez : (begR m j).take (restB m j).length = begR m j := List.take_of_length_le (by unfold begR; rw [List.length_map, List.length_range]; exact Nat.le_refl _)
      rw [ez] at e3
      have el : (begR m j).length ≤ 6 := by
        unfold begR
        rw [List.length_map, List.length_range]
        omega
      refine ⟨D, L, _, _, rfl, rfl, s3 _ _ e2, e3, by rw [List.length_map, List.length_map]; omega, fun M nM => ?_⟩
      refine ⟨M, _, _, rfl, (s2.trans s3).trans (same_new nM _), ?_⟩
      rw [upd_same, begL_succ, List.map_append]
    rintro σ H2 ⟨D, v2, v3, rfl, s2, e2⟩
    have lr : (restsV m).length = m := by unfold restsV; rw [List.length_map, List.length_range]
    rw [lr] at e2
    have hm := hbl m
    refine ⟨_, rfl, D, (begL m m).map tx, rfl, .inl (.inl (by rw [e2, em])), by rw [List.length_map]; omega, fun S nS => ?_⟩
    have s3 := same_new nS (SetSO P w S ((begL m m).map tx))
    refine ⟨S, _, rfl, upd_same, by rw [List.length_map]; omega, fun ys p pw hy np => ?_⟩
    obtain ⟨bs, rfl⟩ := txs_of (ys := ys) fun y hy' => by
      obtain ⟨b, _, e⟩ := List.mem_map.mp ((hy y).mp hy')
      exact ⟨b, e.symm⟩
    have hb : ∀ b, b ∈ bs ↔ BegB m b := fun b => by
      rw [← mem_begL]
      constructor
      · intro h
        obtain ⟨b', hb', e⟩ := List.mem_map.mp ((hy (tx b)).mp (List.mem_map.mpr ⟨b, h, rfl⟩))
        rw [← tx_inj e]
        exact hb'
      · intro h
        obtain ⟨b', hb', e⟩ := List.mem_map.mp ((hy (tx b)).mpr (List.mem_map.mpr ⟨b, h, rfl⟩))
        rw [← tx_inj e]
        exact hb'
    have S3 := (s2.trans s3).trans (same_new np (.lst ((bs.map tx).map V.str)))
    exact k p bs _ S3 ((s2.trans s3).free np) (by rw [upd_same, em]) hb
end

abbrev s__law_next : Stmt := topS 19
theorem sc__law_next : FnScope ["_law_h", "_law_cap", "_law_cell"] ["_law_h", "_law_cap"] (defScope s__law_next) := ⟨rfl, rfl, rfl, by decide +kernel, rfl, by decide +kernel, by decide +kernel⟩
def sp__law_next (K : PySem.W.Frag) : Sp := fun vs H Q _ => ∃ (h q : Addr) (cap : Int), vs = [.ref h, .int cap] ∧ LawH H h q ∧ 0 < cap ∧ cap < 2 ^ 300 ∧
  ∀ (k : Int) (H' : Hp), 0 ≤ k → k < cap → LawH H' h q → Sm h q H H' → Q (.int k) H'
theorem cap_wide {cap : Int} (h : 0 < cap) (h' : cap < 2 ^ 300) : CDivW z cap := wide_div (b := 300) h (by omega) (by decide) (by decide)
section
variable {P : Program} {w : World} {K : PySem.W.Frag} {mg : Str → Option Value} {base : Heap}
theorem ok__law_next (A : At K mg "_law_next" s__law_next ["_law_h", "_law_cap"]) (B : Bn mg) : CalE P w K mg base "_law_next" ["_law_h", "_law_cap"] 1 (sp__law_next K) := by
  obtain ⟨f, fd, F, gF, bF⟩ := A
  refine ⟨f, fd, F.ok sc__law_next (fun vs H Q E h => ?_) (fun cdv A outer s H vs Q E hr h => ?_), gF, F.kp, bF⟩
  · repeat (first | (obtain ⟨rfl, _⟩ := h; rfl) | (obtain ⟨_, h⟩ := h))
  · obtain ⟨h, q, cap, rfl, L, c0, c1, k⟩ := h
    refine ⟨_, (pss_cons (ps_set (i := 2) sc__law_next.nd rfl (.inl rfl) (pe_ix (ix_list_ K) (pe_op op_cat (pe_ix (ix_list_ K) (pv 0) pe_int (fun _ _ => rfl)) (pe_lst (pa_cons pe_int pa_nil))) (pe_op op_mod (pe_callTy call_int1 (by rfl) B.int_ (by decide +kernel) (pa_cons (pe_ix (ix_list_ K) (pv 0) pe_int (fun _ _ => rfl)) pa_nil)) (pe_callB (call_max2 rfl) (by rfl) B.max_ (by decide +kernel) (pa_cons pe_int (pa_cons (pe_callB (call_len_seq_ K) (by rfl) B.len_ (by decide +kernel) (pa_cons (pe_ix (ix_list_ K) (pv 0) pe_int (fun _ _ => rfl)) pa_nil)) pa_nil)))) (fun _ _ => rfl)))
      (pss_cons (ps_if (pt_cmpR op_ge (pv 2) (pe_op op_pow pe_int pe_int) (nomark _))
      (pss_cons (ps_asg (pe_op op_fdivW (pv 2) (pv 1)) (pg_sub (pe_ix (ix_list_ K) (pv 0) pe_int (fun _ _ => rfl)) (pe_op op_mod (pe_callTy call_int1 (by rfl) B.int_ (by decide +kernel) (pa_cons (pe_ix (ix_list_ K) (pv 0) pe_int (fun _ _ => rfl)) pa_nil)) (pe_callB (call_len_seq_ K) (by rfl) B.len_ (by decide +kernel) (pa_cons (pe_ix (ix_list_ K) (pv 0) pe_int (fun _ _ => rfl)) pa_nil))) set_list))
      (pss_one (ps_ret (pe_op op_mod (pe_callTy call_int1 (by rfl) B.int_ (by decide +kernel) (pa_cons (pv 2) pa_nil)) (pv 1)))))
      pss_nil)
      (pss_cons (ps_asg (pe_op op_mod (pe_callTy call_int1 (by rfl) B.int_ (by decide +kernel) (pa_cons (pe_op op_add (pe_op op_add (pe_op op_mul (pe_ix (ix_list_ K) (pv 0) pe_int (fun _ _ => rfl)) pe_int) (pe_op op_mul (pv 2) pe_int)) pe_int) pa_nil)) pe_int) (pg_sub (pv 0) pe_int set_list))
      (pss_cons (ps_asg (pe_op op_add (pe_ix (ix_list_ K) (pv 0) pe_int (fun _ _ => rfl)) pe_int) (pg_sub (pv 0) pe_int set_list))
      (pss_one (ps_ret (pe_op op_mod (pe_callTy call_int1 (by rfl) B.int_ (by decide +kernel) (pa_cons (pe_op op_fdiv (pe_ix (ix_list_ K) (pv 0) pe_int (fun _ _ => rfl)) pe_int) pa_nil)) (pv 1)))))))), ?_⟩
    obtain ⟨hne, st, ix, cells, eh, eq, hl⟩ := id L
    have sL : SqL K H h [.int st, .ref q, .int ix] := .inl (.inl eh)
    have sQ : SqL K H q (cells.map V.int) := .inl (.inl eq)
    have l3 : ([V.int 0] : List V).length ≤ sizeLine := by show 1 ≤ sizeLine; decide
    have lm : (cells.map V.int).length = cells.length := List.length_map _
    -- (h[1] + [0])[h[2] % max(1, len(h[1]))]
    refine ⟨_, rfl, h, _, 1, _, rfl, rfl, sL, rfl, l3, fun z nz => ?_⟩
    have s1 : Same H (upd H z (.lst [.int 0])) := same_new nz _
    have lq : (cells.map V.int).length + ([V.int 0] : List V).length ≤ sizeLine := by
      rw [lm]
      show cells.length + 1 ≤ sizeLine
      have := sizeLine_eq
      omega
    refine ⟨q, z, _, _, rfl, rfl, s1 _ _ eq, upd_same, lq, fun z2 nz2 => ?_⟩
    have s2 := s1.trans (same_new nz2 (.lst (cells.map V.int ++ [.int 0])))
    have e2 : (upd (upd H z (.lst [.int 0])) z2 (.lst (cells.map V.int ++ [.int 0]))) z2 = some (.lst (cells.map V.int ++ [.int 0])) := upd_same
    generalize upd (upd H z (.lst [.int 0])) z2 (.lst (cells.map V.int ++ [.int 0])) = H2 at *
    obtain ⟨m, em, hm⟩ : ∃ m : Int, (if ((cells.map V.int).length : Int) > 1 then ((cells.map V.int).length : Int) else 1) = m ∧ (0 < m ∧ m ≤ cells.length + 1 ∧ (cells = [] → m = 1) ∧ (cells ≠ [] → m = cells.length)) := by
      refine ⟨_, rfl, ?_⟩
      rw [lm]
      cases cells with
      | nil => simp
      | cons c r =>
        simp only [List.length_cons]
        split
        · exact ⟨by omega, by omega, (fun z => by cases z), fun _ => rfl⟩
        · exact ⟨by omega, by omega, (fun z => by cases z), fun _ => by omega⟩
    obtain ⟨m0, m1, m2, m3⟩ := hm
    have j0 : 0 ≤ ix % m := Int.emod_nonneg _ (by omega)
    have j1 : ix % m < m := Int.emod_lt_of_pos _ m0
    obtain ⟨j, ej⟩ : ∃ j : Nat, ix % m = (j : Int) := ⟨(ix % m).toNat, by omega⟩
    obtain ⟨c, ec, hc⟩ : ∃ c : Int, (cells.map V.int ++ [V.int 0])[j]? = some (.int c) ∧ (10 ^ 18 ≤ c → j < cells.length ∧ cells ≠ []) := by
      by_cases hj : j < cells.length
      · refine ⟨cells[j], ?_, fun _ => ⟨hj, fun z => by rw [z] at hj; cases hj⟩⟩
        rw [List.getElem?_append_left (by rw [lm]; exact hj), List.getElem?_map, List.getElem?_eq_getElem hj]
        rfl
      · have hn : j = cells.length := by
          by_cases hc : cells = []
          · have := m2 hc
            subst hc
            simp
            omega
          · have := m3 hc
            omega
        subst hn
        refine ⟨0, ?_, fun z => by omega⟩
        rw [List.getElem?_append_right (by rw [lm]; exact Nat.le_refl _), lm, Nat.sub_self]
        rfl
    refine ⟨_, rfl, h, _, 2, _, rfl, rfl, s2.seq sL, rfl, .inl ⟨ix, rfl, _, rfl, h, _, 1, _, rfl, rfl, s2.seq sL, rfl, q, _, rfl, .inl (s2.seq sQ), 1, _, rfl, ?_⟩⟩
    show rI (fun _ j => 0 < j) (fun i j => V.int (i % j)) (V.int ix) (.int (if ((cells.map V.int).length : Int) > 1 then ((cells.map V.int).length : Int) else 1)) H2 _
    rw [em]
    refine ⟨_, _, rfl, rfl, m0, z2, _, _, _, rfl, rfl, .inl (.inl e2), by rw [ej]; exact atI_nat ec, ?_⟩
    -- if _law_cell >= 10 ** 18
    refine ⟨_, rfl, _, _, rfl, rfl, ⟨by decide, by decide, by decide⟩, _, _, rfl, rfl, _, rfl, ?_⟩
    have h2 := s2.seq sL
    have q2 := s2.seq sQ
    have eh2 := s2 _ _ eh
    have eq2 := s2 _ _ eq
    refine ite2 (fun b => ?_) (fun b => ?_)
    · have b' : 10 ^ 18 ≤ c := of_decide_eq_true b
      obtain ⟨hj, hne0⟩ := hc b'
      have m4 := m3 hne0
      refine ⟨_, rfl, _, rfl, _, _, rfl, rfl, cap_wide c0 c1, ?_⟩
      refine ⟨_, rfl, h, _, 1, _, rfl, rfl, h2, rfl, _, rfl, h, _, 2, _, rfl, rfl, h2, rfl, .inl ⟨ix, rfl, _, rfl, h, _, 1, _, rfl, rfl, h2, rfl, q, _, rfl, .inl q2, _, _, rfl, rfl, ?_, ?_⟩⟩
      · show (0 : Int) < ((cells.map V.int).length : Int)
        rw [lm]
        omega
      refine ⟨q, _, _, j, rfl, rfl, eq2, ?_, ?_⟩
      · rw [lm, ← m4, ej]
        unfold ixN
        rw [if_pos (by omega), if_pos (by omega), Int.toNat_natCast]
      refine ⟨_, rfl, .inl ⟨_, rfl, _, rfl, _, _, rfl, rfl, c0, ?_⟩⟩
      refine k _ _ (Int.emod_nonneg _ (by omega)) (Int.emod_lt_of_pos _ c0) ⟨hne, st, ix, cells.set j (c / cap), by rw [upd_ne hne]; exact eh2, by rw [upd_same, List.map_set], by rw [List.length_set]; exact hl⟩ (fun b o e n1 n2 => ?_)
      rw [upd_ne n2]
      exact s2 _ _ e
    · refine ⟨_, rfl, h, _, 0, _, rfl, rfl, h2, rfl, _, _, rfl, rfl, .inr (by omega), _, rfl, _, _, rfl, rfl, .inr (by omega), _, _, rfl, rfl, _, _, rfl, rfl, .inl ⟨_, rfl, _, _, rfl, rfl, (by decide : (0 : Int) < 2147483647), ?_⟩⟩
      refine ⟨_, rfl, h, _, 0, 0, rfl, rfl, eh2, rfl, ?_⟩
      have e3 := @upd_same H2 h (.lst [.int ((st * 48271 + c * 69621 + 11) % 2147483647), .ref q, .int ix])
      refine ⟨_, rfl, h, _, 2, _, rfl, rfl, .inl (.inl e3), rfl, _, _, rfl, rfl, _, rfl, h, _, 2, 2, rfl, rfl, e3, rfl, ?_⟩
      refine ⟨_, rfl, h, _, 0, _, rfl, rfl, .inl (.inl upd_same), rfl, _, _, rfl, rfl, ⟨by decide, by decide⟩, .inl ⟨_, rfl, _, rfl, _, _, rfl, rfl, c0, ?_⟩⟩
      refine k _ _ (Int.emod_nonneg _ (by omega)) (Int.emod_lt_of_pos _ c0) ⟨hne, _, _, cells, upd_same, by rw [upd_ne hne.symm, upd_ne hne.symm]; exact eq2, hl⟩ (fun b o e n1 n2 => ?_)
      rw [upd_ne n1, upd_ne n1]
      exact s2 _ _ e
end

abbrev s_is_integer : Stmt := topS 4
theorem sc_is_integer : FnScope ["thing", "low", "high"] ["thing", "low", "high"] (defScope s_is_integer) := ⟨rfl, rfl, rfl, by decide +kernel, rfl, by decide +kernel, by decide +kernel⟩
/-- the values of «any value» -/
inductive AnyV (K : PySem.W.Frag) (H : Hp) : V → Prop
  | non : AnyV K H .non
  | bl (b : Bool) : AnyV K H (.bl b)
  | int (i : Int) : AnyV K H (.int i)
  | str (x : Str) : AnyV K H (.str x)
  | lst {a : Addr} (h : TyX K H (.ref a) (.type "list")) : AnyV K H (.ref a)
  | tup {a : Addr} (h : TyX K H (.ref a) (.type "tuple")) : AnyV K H (.ref a)
  | dct {a : Addr} (h : TyX K H (.ref a) (.type "dict")) : AnyV K H (.ref a)
def isI (x : V) (lo hi : Int) : Bool := match x with
  | .int n => decide (lo ≤ n) && decide (n ≤ hi)
  | _ => false
theorem isI_yes {n lo hi : Int} (h : lo ≤ n) (h' : n ≤ hi) : isI (.int n) lo hi = true := by
  show (decide (lo ≤ n) && decide (n ≤ hi)) = true
  rw [decide_eq_true h, decide_eq_true h']
  rfl
def sp_is_integer (K : PySem.W.Frag) : Sp := fun vs H Q _ => ∃ (x : V) (lo hi : Int), vs = [x, .int lo, .int hi] ∧ AnyV K H x ∧ Q (.bl (isI x lo hi)) H
section
variable {P : Program} {w : World} {K : PySem.W.Frag} {mg : Str → Option Value} {base : Heap}
theorem ok_is_integer (A : At K mg "is_integer" s_is_integer ["thing", "low", "high"]) (B : Bn mg) : CalE P w K mg base "is_integer" ["thing", "low", "high"] 1 (sp_is_integer K) := by
  obtain ⟨f, fd, F, gF, bF⟩ := A
  refine ⟨f, fd, F.ok sc_is_integer (fun vs H Q E h => ?_) (fun cdv A outer s H vs Q E hr h => ?_), gF, F.kp, bF⟩
  · repeat (first | (obtain ⟨rfl, _⟩ := h; rfl) | (obtain ⟨_, h⟩ := h))
  · obtain ⟨x, lo, hi, rfl, hx, q⟩ := h
    refine ⟨_, (pss_one (ps_ret (pe_and (pe_callB (call_isi_ K) (by rfl) B.isinstance_ (by decide +kernel) (pa_cons (pv 0) (pa_cons (pe_bltn (v := .ty "int") (by rfl) B.int_ (by decide +kernel) rfl) pa_nil))) (pe_and (pe_not (pe_callB (call_isi_ K) (by rfl) B.isinstance_ (by decide +kernel) (pa_cons (pv 0) (pa_cons (pe_bltn (v := .ty "bool") (by rfl) B.bool_ (by decide +kernel) rfl) pa_nil)))) (pe_one (pe_chain op_le op_le (pv 1) (pv 0) (pv 2))))))), ?_⟩
    have no : ∀ T : String, TyX K H x (.type T) → kitB T "int" = some false → isI x lo hi = false → (tRet (tAndV (tCB (rIsi K) (tCons (tVar 0) (tCons (tC (.ty "int")) tNil))) (tAndV (tNotV (tCB (rIsi K) (tCons (tVar 0) (tCons (tC (.ty "bool")) tNil)))) (tChain (rI0 fun i j => .bl (decide (i ≤ j))) (rI0 fun i j => .bl (decide (i ≤ j))) (tVar 1) (tVar 0) (tVar 2))))) { nx := fun _ H' => Q .non H', rt := Q } (start ["thing", "low", "high"] [x, .int lo, .int hi]) H := fun T hT hk hi => by
      refine ⟨_, rfl, _, _, _, _, false, rfl, .ty _, hT, kit_ty hk, _, rfl, iteF ?_⟩
      rw [hi] at q
      exact q
    cases hx with
    | non => exact no _ (.base .non) (by decide +kernel) rfl
    | str z => exact no _ (.base (.str z)) (by decide +kernel) rfl
    | lst h => exact no _ h (by decide +kernel) rfl
    | tup h => exact no _ h (by decide +kernel) rfl
    | dct h => exact no _ h (by decide +kernel) rfl
    | bl b =>
      refine ⟨_, rfl, _, _, _, _, true, rfl, .ty _, .base (.bl b), kit_ty (by decide +kernel), _, rfl, iteT ?_⟩
      refine ⟨_, rfl, _, _, _, _, true, rfl, .ty _, .base (.bl b), kit_ty (by decide +kernel), _, rfl, _, rfl, iteF ?_⟩
      exact q
    | int n =>
      refine ⟨_, rfl, _, _, _, _, true, rfl, .ty _, .base (.int n), kit_ty (by decide +kernel), _, rfl, iteT ?_⟩
      refine ⟨_, rfl, _, _, _, _, false, rfl, .ty _, .base (.int n), kit_ty (by decide +kernel), _, rfl, _, rfl, iteT ?_⟩
      refine ⟨_, rfl, _, rfl, _, _, rfl, rfl, _, rfl, ?_⟩
      have e : isI (.int n) lo hi = (decide (lo ≤ n) && decide (n ≤ hi)) := rfl
      rw [e] at q
      by_cases c : lo ≤ n
      · rw [decide_eq_true c]
        rw [decide_eq_true c, Bool.true_and] at q
        exact iteT ⟨_, rfl, _, _, rfl, rfl, q⟩
      · rw [decide_eq_false c]
        rw [decide_eq_false c, Bool.false_and] at q
        exact iteF q
end

abbrev s_check_step : Stmt := topS 7
theorem sc_check_step : FnScope ["thing"] ["thing"] (defScope s_check_step) := ⟨rfl, rfl, rfl, by decide +kernel, rfl, by decide +kernel, by decide +kernel⟩
def sp_check_step (K : PySem.W.Frag) : Sp := fun vs H Q _ => ∃ m : Nat, vs = [.int (m : Nat)] ∧ 1 ≤ m ∧ m ≤ 64 ∧ Q .non H
section
variable {P : Program} {w : World} {K : PySem.W.Frag} {mg : Str → Option Value} {base : Heap}
theorem ok_check_step (A : At K mg "check_step" s_check_step ["thing"]) (B : Bn mg) (H_is_integer : CalE P w K mg base "is_integer" ["thing", "low", "high"] 1 (sp_is_integer K)) (K_MOST_STEP : ∃ v, mg "MOST_STEP" = some v ∧ RelV (.int 64) v) : CalE P w K mg base "check_step" ["thing"] 2 (sp_check_step K) := by
  obtain ⟨f, fd, F, gF, bF⟩ := A
  obtain ⟨f_is_integer, fd_is_integer, G_is_integer⟩ := H_is_integer
  obtain ⟨v_MOST_STEP, C_MOST_STEP⟩ := K_MOST_STEP
  refine ⟨f, fd, F.ok sc_check_step (fun vs H Q E h => ?_) (fun cdv A outer s H vs Q E hr h => ?_), gF, F.kp, bF⟩
  · repeat (first | (obtain ⟨rfl, _⟩ := h; rfl) | (obtain ⟨_, h⟩ := h))
  · obtain ⟨m, rfl, h1, h2, k⟩ := h
    obtain ⟨_, rfl⟩ := C_MOST_STEP.2
    refine ⟨_, (pss_one (ps_if (pt_not (pt_val (pe_call G_is_integer.ok (hr.mono (by first | decide | exact Nat.le_refl _)) (by rfl) G_is_integer.g G_is_integer.kp G_is_integer.b .nil pass0 (pa_cons (pv 0) (pa_cons pe_int (pa_cons (pe_glob (by rfl) C_MOST_STEP.1 C_MOST_STEP.2) pa_nil))))))
      (pss_one ps_never)
      pss_nil)), ?_⟩
    refine ⟨_, rfl, _, _, _, rfl, .int _, ?_⟩
    rw [isI_yes (by omega) (by omega)]
    exact ⟨_, rfl, iteF k⟩
end

abbrev s_power_of_two : Stmt := topS 9
theorem sc_power_of_two : FnScope ["times"] ["times"] (defScope s_power_of_two) := ⟨rfl, rfl, rfl, by decide +kernel, rfl, by decide +kernel, by decide +kernel⟩
def sp_power_of_two (K : PySem.W.Frag) : Sp := fun vs H Q _ => ∃ t : Nat, vs = [.int (t : Nat)] ∧ t ≤ 1000 ∧ Q (.int ((2 ^ t : Nat) : Int)) H
section
variable {P : Program} {w : World} {K : PySem.W.Frag} {mg : Str → Option Value} {base : Heap}
theorem ok_power_of_two (A : At K mg "power_of_two" s_power_of_two ["times"]) (B : Bn mg) : CalE P w K mg base "power_of_two" ["times"] 1 (sp_power_of_two K) := by
  obtain ⟨f, fd, F, gF, bF⟩ := A
  refine ⟨f, fd, F.ok sc_power_of_two (fun vs H Q E h => ?_) (fun cdv A outer s H vs Q E hr h => ?_), gF, F.kp, bF⟩
  · repeat (first | (obtain ⟨rfl, _⟩ := h; rfl) | (obtain ⟨_, h⟩ := h))
  · obtain ⟨t, rfl, ht, k⟩ := h
    refine ⟨_, (pss_one (ps_ret (pe_op op_shl pe_int (pv 0)))), ?_⟩
    refine ⟨_, rfl, _, _, rfl, rfl, ⟨by omega, by omega, by decide⟩, ?_⟩
    have e : (1 : Int) * 2 ^ ((t : Int)).toNat = ((2 ^ t : Nat) : Int) := by
      rw [Int.one_mul, Int.toNat_natCast, Int.natCast_pow]
      rfl
    show Q (.int ((1 : Int) * 2 ^ ((t : Int)).toNat)) H
    rw [e]
    exact k
end

abbrev s_wide : Stmt := topS 8
theorem sc_wide : FnScope ["step", "found"] ["step"] (defScope s_wide) := ⟨rfl, rfl, rfl, by decide +kernel, rfl, by decide +kernel, by decide +kernel⟩
def sp_wide (K : PySem.W.Frag) : Sp := fun vs H Q _ => ∃ m : Nat, vs = [.int (m : Nat)] ∧ m ≤ 64 ∧ Q (.int (wideN m : Nat)) H
section
variable {P : Program} {w : World} {K : PySem.W.Frag} {mg : Str → Option Value} {base : Heap}
theorem ok_wide (A : At K mg "wide" s_wide ["step"]) (B : Bn mg) (H_power_of_two : CalE P w K mg base "power_of_two" ["times"] 1 (sp_power_of_two K)) : CalE P w K mg base "wide" ["step"] 2 (sp_wide K) := by
  obtain ⟨f, fd, F, gF, bF⟩ := A
  obtain ⟨f_power_of_two, fd_power_of_two, G_power_of_two⟩ := H_power_of_two
  refine ⟨f, fd, F.ok sc_wide (fun vs H Q E h => ?_) (fun cdv A outer s H vs Q E hr h => ?_), gF, F.kp, bF⟩
  · repeat (first | (obtain ⟨rfl, _⟩ := h; rfl) | (obtain ⟨_, h⟩ := h))
  · obtain ⟨m, rfl, hm, k⟩ := h
    have h6 := wide_64 hm
    refine ⟨_, (pss_cons (ps_set (i := 1) sc_wide.nd rfl (.inl rfl) pe_int)
      (pss_cons (ps_while PassesOwn.never (pt_cmpR op_lt (pe_call G_power_of_two.ok (hr.mono (by first | decide | exact Nat.le_refl _)) (by rfl) G_power_of_two.g G_power_of_two.kp G_power_of_two.b .nil pass0 (pa_cons (pv 1) pa_nil)) (pv 0) (nomark _))
      (pss_one (ps_aug (i := 1) sc_wide.nd rfl (.inl rfl) pe_int ip_add)))
      (pss_one (ps_ret (pv 1))))), ?_⟩
    refine ⟨fun n σ H2 => ∃ c : Nat, n = 6 - c ∧ σ = [some (.int (m : Nat)), some (.int (c : Nat))] ∧ (∀ d, d < c → 2 ^ d < m) ∧ c ≤ 6 ∧ H2 = H, ⟨6, 0, rfl, rfl, fun d h => by omega, by decide, rfl⟩, ?_⟩
    rintro n σ H2 ⟨c, rfl, rfl, hc, c6, rfl⟩
    refine ⟨_, rfl, c, rfl, by omega, _, rfl, _, _, rfl, rfl, _, rfl, ite2 (fun z => ?_) (fun z => ?_)⟩
    · have z' : 2 ^ c < m := Int.ofNat_lt.mp (of_decide_eq_true z)
      have c5 : c < 6 := by
        refine Nat.not_le.mp fun y => ?_
        have : c = 6 := by omega
        subst this
        omega
      refine ⟨fun σ' H' => ∃ c' : Nat, c' = c + 1 ∧ σ' = [some (.int (m : Nat)), some (.int (c' : Nat))] ∧ H' = H2, fun σ' H' ⟨c', e0, e1, e2⟩ => ⟨6 - c', by omega, c', rfl, e1, fun d hd => ?_, by omega, e2⟩, ?_⟩
      · by_cases hd' : d = c
        · exact hd' ▸ z'
        · exact hc d (by omega)
      exact ⟨_, rfl, _, _, rfl, rfl, c + 1, rfl, rfl, rfl⟩
    · have z' : m ≤ 2 ^ c := Nat.not_lt.mp fun y => z (decide_eq_true (Int.ofNat_lt.mpr y))
      rw [wide_eq z' hc] at k
      exact ⟨_, rfl, k⟩
end

abbrev s_next_standing : Stmt := topS 14
theorem sc_next_standing : FnScope ["step", "standing", "sign", "kind", "rest", "read", "many", "short"] ["step", "standing", "sign"] (defScope s_next_standing) := ⟨rfl, rfl, rfl, by decide +kernel, rfl, by decide +kernel, by decide +kernel⟩
def sp_next_standing (K : PySem.W.Frag) : Sp := fun vs H Q _ => ∃ (m : Nat) (a : Addr) (t : Nat × Nat × Nat) (b : Bool), vs = [.int (m : Nat), .ref a, .str (tx [b])] ∧ 1 ≤ m ∧ m ≤ 64 ∧ SqT K H a (stV t) ∧ t.1 ≤ 2 ∧
  ∀ (u : Addr) (H' : Hp), Same H H' → SqT K H' u (stV (nxS m t b)) → Q (.ref u) H'
theorem joinQ {R G : Prop} (C : Prop) (main : (C → G) → R) (k : C → G) : R := main k
section
variable {P : Program} {w : World} {K : PySem.W.Frag} {mg : Str → Option Value} {base : Heap}
theorem ok_next_standing (A : At K mg "next_standing" s_next_standing ["step", "standing", "sign"]) (B : Bn mg) (H_wide : CalE P w K mg base "wide" ["step"] 2 (sp_wide K)) (H_power_of_two : CalE P w K mg base "power_of_two" ["times"] 1 (sp_power_of_two K)) (K_IN_ONES : ∃ A v, mg "IN_ONES" = some v ∧ RelV (.ref A) v ∧ ∀ H, SqT K H A [.int 1, .int 0, .int 0]) (K_AT_END : ∃ A v, mg "AT_END" = some v ∧ RelV (.ref A) v ∧ ∀ H, SqT K H A [.int 0, .int 0, .int 0]) : CalE P w K mg base "next_standing" ["step", "standing", "sign"] 3 (sp_next_standing K) := by
  obtain ⟨f, fd, F, gF, bF⟩ := A
  obtain ⟨f_wide, fd_wide, G_wide⟩ := H_wide
  obtain ⟨f_power_of_two, fd_power_of_two, G_power_of_two⟩ := H_power_of_two
  obtain ⟨X_IN_ONES, v_IN_ONES, C_IN_ONES⟩ := K_IN_ONES
  obtain ⟨X_AT_END, v_AT_END, C_AT_END⟩ := K_AT_END
  refine ⟨f, fd, F.ok sc_next_standing (fun vs H Q E h => ?_) (fun cdv A outer s H vs Q E hr h => ?_), gF, F.kp, bF⟩
  · repeat (first | (obtain ⟨rfl, _⟩ := h; rfl) | (obtain ⟨_, h⟩ := h))
  · obtain ⟨m, a, ⟨t1, t2, t3⟩, b, rfl, m1, m64, hS, ht, k⟩ := h
    have hsz := sizeLine_eq
    refine ⟨_, (pss_cons (ps_asg (pv 1) (pg_tup (by rfl) (pgs_cons (pg_name (i := 3) sc_next_standing.nd rfl (.inl rfl)) (pgs_cons (pg_name (i := 4) sc_next_standing.nd rfl (.inl rfl)) (pgs_cons (pg_name (i := 5) sc_next_standing.nd rfl (.inl rfl)) pgs_nil)))))
      (pss_cons (ps_set (i := 6) sc_next_standing.nd rfl (.inl rfl) (pe_call G_wide.ok (hr.mono (by first | decide | exact Nat.le_refl _)) (by rfl) G_wide.g G_wide.kp G_wide.b .nil pass0 (pa_cons (pv 0) pa_nil)))
      (pss_cons (ps_if (PW.pt (pw_and (pt_cmpR op_lt (pv 3) pe_int (nomark _)) (pw_and1 (pt_cmpR op_eq (pv 2) pe_str (nomark _)))))
      (pss_one (ps_ret (pe_glob (v := .ref X_IN_ONES) (by rfl) C_IN_ONES.1 C_IN_ONES.2.1)))
      pss_nil)
      (pss_cons (ps_if (pt_cmpR op_eq (pv 6) pe_int (nomark _))
      (pss_one (ps_ret (pe_glob (v := .ref X_AT_END) (by rfl) C_AT_END.1 C_AT_END.2.1)))
      pss_nil)
      (pss_cons (ps_if (pt_cmpR op_eq (pv 3) pe_int (nomark _))
      (pss_one (ps_par (i := 4) (j := 5) (by rfl) sc_next_standing.nd rfl rfl (by decide) rfl rfl (pa_cons (pe_op op_add (pe_op op_mul pe_int (pv 4)) (pe_ifExp (pt_cmpR op_eq (pv 2) pe_str (nomark _)) pe_int pe_int)) (pa_cons (pe_op op_add (pv 5) pe_int) pa_nil)) (by rfl)))
      pss_nil)
      (pss_cons (ps_set (i := 7) sc_next_standing.nd rfl (.inl rfl) (pe_op op_sub (pe_call G_power_of_two.ok (hr.mono (by first | decide | exact Nat.le_refl _)) (by rfl) G_power_of_two.g G_power_of_two.kp G_power_of_two.b .nil pass0 (pa_cons (pv 6) pa_nil)) (pv 0)))
      (pss_cons (ps_if (PW.pt (pw_or (pt_cmpR op_eq (pv 5) (pv 6) (nomark _)) (pw_or1 (PW.pt (pw_and (pt_cmpR op_eq (pv 5) (pe_op op_sub (pv 6) pe_int) (nomark _)) (pw_and1 (pt_cmpR op_lt (pv 4) (pv 7) (nomark _))))))))
      (pss_one (ps_ret (pe_glob (v := .ref X_AT_END) (by rfl) C_AT_END.1 C_AT_END.2.1)))
      pss_nil)
      (pss_one (ps_ret (pe_tup (pa_cons pe_int (pa_cons (pv 4) (pa_cons (pv 5) pa_nil))))))))))))), ?_⟩
    refine ⟨_, rfl, a, _, rfl, hS, rfl, _, _, rfl, _, _, rfl, _, _, rfl, rfl, ?_⟩
    refine ⟨_, rfl, m, rfl, m64, ?_⟩
    obtain ⟨w0, hw⟩ : ∃ w0, w0 = wideN m := ⟨_, rfl⟩
    rw [← hw]
    have hpow : m ≤ 2 ^ w0 := hw ▸ wide_le m
    have hsh : shortN m = 2 ^ w0 - m := by rw [hw]; rfl
    have one_of : ∀ b : Bool, (V.str (tx [b]) = V.str ("1" : Str)) ↔ b = true := fun b => by
      rw [tx_one]
      exact ⟨fun z => by have := tx_inj (V.str.inj z); simpa using this, fun z => by rw [z]⟩
    refine' joinQ (¬ (t1 < 2 ∧ b = true)) ?m1 ?r1
    case m1 =>
      intro key
      by_cases c1 : t1 < 2
      · refine ⟨_, rfl, _, _, rfl, rfl, _, rfl, iteDT (by omega) ?_⟩
        by_cases c2 : b = true
        · refine ⟨_, rfl, rfl, _, rfl, iteDT ((one_of b).mpr c2) ?_⟩
          refine k _ _ (Same.refl _) ?_
          have e : nxS m (t1, t2, t3) b = (1, 0, 0) := if_pos ⟨c1, c2⟩
          rw [e]
          exact C_IN_ONES.2.2 _
        · refine ⟨_, rfl, rfl, _, rfl, iteDF (fun z => c2 ((one_of b).mp z)) ?_⟩
          exact key fun z => c2 z.2
      · refine ⟨_, rfl, _, _, rfl, rfl, _, rfl, iteDF (by omega) ?_⟩
        exact key fun z => c1 z.1
    case r1 =>
    intro c1
    by_cases c2 : w0 = 0
    · refine ⟨_, rfl, rfl, _, rfl, iteDT (by rw [c2]; rfl) ?_⟩
      refine k _ _ (Same.refl _) ?_
      have e : nxS m (t1, t2, t3) b = (0, 0, 0) := (if_neg c1).trans (if_pos (hw ▸ c2))
      rw [e]
      exact C_AT_END.2.2 _
    refine ⟨_, rfl, rfl, _, rfl, iteDF (fun z => c2 (by have := V.int.inj z; omega)) ?_⟩
    have w6 : w0 ≤ 6 := hw ▸ wide_64 m64
    have t01 : ¬ t1 = 2 → t1 < 2 := fun z => by
      have : t1 ≤ 2 := ht
      omega
    refine' joinG2 (fun (r f : Nat) => r = (if t1 = 2 then 2 * t2 + b.toNat else t2) ∧ f = (if t1 = 2 then t3 + 1 else t3)) ?m2 ?r2
    case m2 =>
      intro key
      by_cases c3 : t1 = 2
      · refine ⟨_, rfl, rfl, _, rfl, iteDT (by rw [c3]; rfl) ?_⟩
        obtain ⟨r, hr'⟩ : ∃ r, r = 2 * t2 + b.toNat := ⟨_, rfl⟩
        obtain ⟨f, hf⟩ : ∃ f, f = t3 + 1 := ⟨_, rfl⟩
        have hh : r = (if t1 = 2 then 2 * t2 + b.toNat else t2) ∧ f = (if t1 = 2 then t3 + 1 else t3) := by rw [if_pos c3, if_pos c3]; exact ⟨hr', hf⟩
        by_cases c4 : b = true
        · refine ⟨_, rfl, _, _, rfl, rfl, .inl ⟨by decide, by decide⟩, _, rfl, rfl, _, rfl, iteDT ((one_of b).mpr c4) ?_⟩
          refine ⟨_, _, rfl, rfl, _, rfl, _, _, rfl, rfl, _, _, rfl, ?_⟩
          refine to_next (σ' := [some (.int (m : Nat)), some (.ref a), some (.str (tx [b])), some (.int (t1 : Nat)), some (.int (r : Nat)), some (.int (f : Nat)), some (.int (w0 : Nat)), none]) (by rw [hr', hf, c4]; rfl) ?_
          exact key r f hh
        · refine ⟨_, rfl, _, _, rfl, rfl, .inl ⟨by decide, by decide⟩, _, rfl, rfl, _, rfl, iteDF (fun z => c4 ((one_of b).mp z)) ?_⟩
          refine ⟨_, _, rfl, rfl, _, rfl, _, _, rfl, rfl, _, _, rfl, ?_⟩
          have c5 : b = false := by cases b <;> simp_all
          refine to_next (σ' := [some (.int (m : Nat)), some (.ref a), some (.str (tx [b])), some (.int (t1 : Nat)), some (.int (r : Nat)), some (.int (f : Nat)), some (.int (w0 : Nat)), none]) (by rw [hr', hf, c5]; rfl) ?_
          exact key r f hh
      · refine ⟨_, rfl, rfl, _, rfl, iteDF (fun z => c3 (by have := V.int.inj z; omega)) ?_⟩
        refine to_next (σ' := [some (.int (m : Nat)), some (.ref a), some (.str (tx [b])), some (.int (t1 : Nat)), some (.int (t2 : Nat)), some (.int (t3 : Nat)), some (.int (w0 : Nat)), none]) rfl ?_
        exact key t2 t3 (by rw [if_neg c3, if_neg c3]; exact ⟨rfl, rfl⟩)
    case r2 =>
    rintro r f ⟨er, ef⟩
    refine ⟨_, rfl, w0, rfl, by omega, _, rfl, _, _, rfl, rfl, ?_⟩
    obtain ⟨sh, hsh2⟩ : ∃ sh, sh = shortN m := ⟨_, rfl⟩
    refine to_nx (σ' := [some (.int (m : Nat)), some (.ref a), some (.str (tx [b])), some (.int (t1 : Nat)), some (.int (r : Nat)), some (.int (f : Nat)), some (.int (w0 : Nat)), some (.int (sh : Nat))]) ?_ ?_
    · have e : ((2 ^ w0 : Nat) : Int) - (m : Int) = (sh : Int) := by rw [hsh2, hsh]; omega
      rw [← e]
      rfl
    have nx_of : nxS m (t1, t2, t3) b = if f = w0 ∨ (f = w0 - 1 ∧ r < sh) then (0, 0, 0) else (2, r, f) := by
      refine (if_neg c1).trans ((if_neg (hw ▸ c2)).trans ?_)
      rw [er, ef, hw, hsh2]
    have fin0 : (f = w0 ∨ (f = w0 - 1 ∧ r < sh)) → SqT K H X_AT_END (stV (nxS m (t1, t2, t3) b)) := fun z => by
      rw [nx_of, if_pos z]
      exact C_AT_END.2.2 _
    refine' joinQ (¬ (f = w0 ∨ (f = w0 - 1 ∧ r < sh))) ?m3 ?r3
    case m3 =>
      intro key
      by_cases d1 : f = w0
      · refine ⟨_, rfl, _, rfl, rfl, _, rfl, iteDT (by rw [d1]) ?_⟩
        exact k _ _ (Same.refl _) (fin0 (.inl d1))
      · refine ⟨_, rfl, _, rfl, rfl, _, rfl, iteDF (fun z => d1 (by have := V.int.inj z; omega)) ?_⟩
        by_cases d2 : f = w0 - 1
        · refine ⟨_, rfl, _, rfl, _, _, rfl, rfl, rfl, _, rfl, iteDT (by show V.int (f : Int) = V.int ((w0 : Int) - 1); rw [show (f : Int) = (w0 : Int) - 1 by omega]) ?_⟩
          by_cases d3 : r < sh
          · refine ⟨_, rfl, _, rfl, _, _, rfl, rfl, _, rfl, iteDT (by omega) ?_⟩
            exact k _ _ (Same.refl _) (fin0 (.inr ⟨d2, d3⟩))
          · refine ⟨_, rfl, _, rfl, _, _, rfl, rfl, _, rfl, iteDF (by omega) ?_⟩
            exact key fun z => z.elim d1 fun y => d3 y.2
        · refine ⟨_, rfl, _, rfl, _, _, rfl, rfl, rfl, _, rfl, iteDF (fun z => d2 (by have := V.int.inj z; omega)) ?_⟩
          exact key fun z => z.elim d1 fun y => d2 y.1
    case r3 =>
    intro hz
    refine ⟨_, rfl, _, rfl, (by show 3 ≤ sizeLine; omega), fun u nu => ?_⟩
    refine k u _ (same_new nu _) ?_
    rw [nx_of, if_neg hz]
    exact .inl (.inl upd_same)
end

abbrev s_all_standings : Stmt := topS 15
theorem sc_all_standings : FnScope ["step", "found", "at", "sign", "goal"] ["step"] (defScope s_all_standings) := ⟨rfl, rfl, rfl, by decide +kernel, rfl, by decide +kernel, by decide +kernel⟩
def sp_all_standings (K : PySem.W.Frag) : Sp := fun vs H Q _ => ∃ m : Nat, vs = [.int (m : Nat)] ∧ 1 ≤ m ∧ m ≤ 64 ∧
  ∀ (D : Addr) (gs : List St3) (H' : Hp), Same H H' → H D = none → StW K H' D gs → Closed m gs → Q (.ref D) H'
section
variable {P : Program} {w : World} {K : PySem.W.Frag} {mg : Str → Option Value} {base : Heap}
theorem ok_all_standings (A : At K mg "all_standings" s_all_standings ["step"]) (B : Bn mg) (H_next_standing : CalE P w K mg base "next_standing" ["step", "standing", "sign"] 3 (sp_next_standing K)) (K_AT_END : ∃ A v, mg "AT_END" = some v ∧ RelV (.ref A) v ∧ ∀ H, SqT K H A [.int 0, .int 0, .int 0]) (K_SIGNS : ∃ v, mg "SIGNS" = some v ∧ RelV (.str "01") v) : CalE P w K mg base "all_standings" ["step"] 4 (sp_all_standings K) := by
  obtain ⟨f, fd, F, gF, bF⟩ := A
  obtain ⟨f_next_standing, fd_next_standing, G_next_standing⟩ := H_next_standing
  obtain ⟨X_AT_END, v_AT_END, C_AT_END⟩ := K_AT_END
  obtain ⟨v_SIGNS, C_SIGNS⟩ := K_SIGNS
  refine ⟨f, fd, F.ok sc_all_standings (fun vs H Q E h => ?_) (fun cdv A outer s H vs Q E hr h => ?_), gF, F.kp, bF⟩
  · repeat (first | (obtain ⟨rfl, _⟩ := h; rfl) | (obtain ⟨_, h⟩ := h))
  · obtain ⟨m, rfl, m1, m64, k⟩ := h
    obtain ⟨_, rfl⟩ := C_SIGNS.2
    have hsz := sizeLine_eq
    have e01 : ("01" : Str) = tx [false, true] := by decide +kernel
    have eC : ∀ {i c}, ("01" : Str).cps.toList[i]? = some c → ∃ b, [false, true][i]? = some b ∧ c = sg b := fun {i c} hc => by
      rw [e01, tx_list, List.getElem?_map] at hc
      cases e : [false, true][i]? with
      | none => rw [e] at hc; cases hc
      | some b => rw [e] at hc; exact ⟨b, e, (Option.some.inj hc).symm⟩
    have z01 : ("01" : Str).cps.size = 2 := by decide +kernel
    refine ⟨_, (pss_cons (ps_set (i := 1) sc_all_standings.nd rfl (.inl rfl) (pe_lst (pa_cons (pe_glob (v := .ref X_AT_END) (by rfl) C_AT_END.1 C_AT_END.2.1) pa_nil)))
      (pss_cons (ps_set (i := 2) sc_all_standings.nd rfl (.inl rfl) pe_int)
      (pss_cons (ps_while PassesOwn.never (pt_cmpR op_lt (pv 2) (pe_callB (call_len_seq_ K) (by rfl) B.len_ (by decide +kernel) (pa_cons (pv 1) pa_nil)) (nomark _))
      (pss_cons (ps_for PassesOwn.never rfl (pi_str (pe_glob (by rfl) C_SIGNS.1 C_SIGNS.2)) (pg_name (i := 3) sc_all_standings.nd rfl (.inl rfl))
      (pss_cons (ps_set (i := 4) sc_all_standings.nd rfl (.inl rfl) (pe_call G_next_standing.ok (hr.mono (by first | decide | exact Nat.le_refl _)) (by rfl) G_next_standing.g G_next_standing.kp G_next_standing.b .nil pass0 (pa_cons (pv 0) (pa_cons (pe_ix (ix_list_ K) (pv 1) (pv 2) (fun _ _ => rfl)) (pa_cons (pv 3) pa_nil)))))
      (pss_one (ps_if (pt_cmpR (op_notInSt K hr) (pv 4) (pv 1) (by rfl))
      (pss_one (ps_expr (pe_bm PySem.F.plainAttrs_list PySem.F.slot_list_append PySem.F.type_list_append mt_append (pv 1) (pa_cons (pv 4) pa_nil))))
      pss_nil))))
      (pss_one (ps_aug (i := 2) sc_all_standings.nd rfl (.inl rfl) pe_int ip_add))))
      (pss_one (ps_ret (pv 1)))))), ?_⟩
    refine ⟨(by show 1 ≤ sizeLine; omega), fun G nG => ?_⟩
    have s1 := same_new nG (.lst [.ref X_AT_END])
    have eG : (upd H G (.lst [.ref X_AT_END])) G = some (.lst [.ref X_AT_END]) := upd_same
    generalize upd H G (.lst [.ref X_AT_END]) = H1 at *
    have one : StAll K H1 [.ref X_AT_END] [AtE] := .cons ⟨_, rfl, C_AT_END.2.2 _⟩ .nil
    refine ⟨fun x σ H' => ∃ (gs : List St3) (a : Nat) (v3 v4 : Option V), x = 1536 - a ∧ σ = [some (.int (m : Nat)), some (.ref G), some (.int (a : Nat)), v3, v4] ∧ Same H H' ∧ StW K H' G gs ∧ gs.Nodup ∧ (∀ t ∈ gs, StdR m t) ∧ AtE ∈ gs ∧ a ≤ gs.length ∧ (∀ j t, j < a → gs[j]? = some t → ∀ b, nxS m t b ∈ gs),
      ⟨_, [AtE], 0, _, _, rfl, rfl, s1, ⟨_, eG, one⟩, by simp, (fun t ht => by rw [List.mem_singleton.mp ht]; exact ⟨.inl rfl, [], rfl⟩), List.mem_singleton.mpr rfl, Nat.zero_le _, (fun j t h => by omega)⟩, ?_⟩
    clear one eG s1
    rintro x σ H2 ⟨gs, a, v3, v4, rfl, rfl, s2, ⟨gv, eG, aG⟩, nd, std, ae, ha, cl⟩
    have glen := std_len m64 nd fun t h => (std t h).1
    refine ⟨_, rfl, _, rfl, G, _, rfl, .inl (.inl (.inl eG)), _, _, rfl, rfl, _, rfl, ?_⟩
    rw [aG.len]
    by_cases c0 : a < gs.length
    rotate_left
    · refine iteDF (by omega) ?_
      exact ⟨_, rfl, k G gs H2 s2 nG ⟨gv, eG, aG⟩ ⟨ae, fun t ht b => by
        obtain ⟨j, hj⟩ := List.getElem?_of_mem ht
        have := (List.getElem?_eq_some_iff.mp hj).1
        exact cl j t (by omega) hj b, nd, fun t h => (std t h).1, fun t h => (std t h).2⟩⟩
    refine iteDT (by omega) ?_
    obtain ⟨here, hh⟩ : ∃ t, gs[a]? = some t := ⟨gs[a], List.getElem?_eq_getElem c0⟩
    have hst := std here (List.mem_of_getElem? hh)
    refine ⟨fun σ' H' => ∃ (gs' : List St3) (v3 v4 : Option V), σ' = [some (.int (m : Nat)), some (.ref G), some (.int ((a + 1 : Nat) : Int)), v3, v4] ∧ Same H H' ∧ StW K H' G gs' ∧ gs'.Nodup ∧ (∀ t ∈ gs', StdR m t) ∧ AtE ∈ gs' ∧ a + 1 ≤ gs'.length ∧ (∀ j t, j < a + 1 → gs'[j]? = some t → ∀ b, nxS m t b ∈ gs'), fun σ' H' ⟨gs', v3, v4, e1, e2, e3, e4, e5, e6, e7, e8⟩ => ⟨1536 - (a + 1), by omega, gs', a + 1, v3, v4, rfl, e1, e2, e3, e4, e5, e6, e7, e8⟩, ?_⟩
    refine ⟨_, rfl, for_str (x := "01") (fun i σ H' => ∃ (gs' : List St3) (v3 v4 : Option V), σ = [some (.int (m : Nat)), some (.ref G), some (.int (a : Nat)), v3, v4] ∧ Same H H' ∧ StW K H' G gs' ∧ gs'.Nodup ∧ (∀ t ∈ gs', StdR m t) ∧ AtE ∈ gs' ∧ a < gs'.length ∧ gs'[a]? = some here ∧ (∀ j t, j < a → gs'[j]? = some t → ∀ b, nxS m t b ∈ gs') ∧ (∀ b ∈ [false, true].take i, nxS m here b ∈ gs'))
      ⟨gs, _, _, rfl, s2, ⟨gv, eG, aG⟩, nd, std, ae, c0, hh, cl, (fun b hb => by cases hb)⟩ ?_ ?_⟩
    · clear cl ae std nd eG aG s2 hh glen ha
      rintro i c σ H3 hc ⟨gs, v3, v4, rfl, s3, ⟨gv, eG, aG⟩, nd, std, ae, ha, hh, cl, nxs⟩
      obtain ⟨b, hb1, rfl⟩ := eC hc
      have glen := std_len m64 nd fun t h => (std t h).1
      obtain ⟨hv, hhv, qh⟩ : ∃ hv, gv[a]? = some (.ref hv) ∧ SqT K H3 hv (stV here) := by
        have : a < gv.length := by rw [aG.len]; exact ha
        obtain ⟨b', t', e1, e2, e3⟩ := aG.get (List.getElem?_eq_getElem this)
        rw [hh] at e2
        cases Option.some.inj e2
        exact ⟨b', by rw [List.getElem?_eq_getElem this, e1], e3⟩
      refine ⟨_, rfl, _, rfl, _, rfl, G, _, _, _, rfl, rfl, .inl (.inl eG), atI_nat hhv, _, rfl, m, hv, here, b, rfl, m1, m64, qh, std_le hst.1, fun u H4 s4 hu => ?_⟩
      have S4 := s3.trans s4
      have eG4 := s4 _ _ eG
      have aG4 := aG.smU (.of (.of s4))
      refine ⟨_, rfl, _, rfl, u, _, G, _, rfl, rfl, hu, ⟨gv, .inl (.inl eG4), aG4⟩, _, rfl, ?_⟩
      by_cases cg : nxS m here b ∈ gs
      · rw [decide_eq_true cg]
        refine iteF ⟨gs, _, _, rfl, S4, ⟨gv, eG4, aG4⟩, nd, std, ae, ha, hh, cl, fun b' hb' => ?_⟩
        rw [take_more hb1] at hb'
        rcases List.mem_append.mp hb' with z | z
        · exact nxs b' z
        · rw [List.mem_singleton.mp z]
          exact cg
      · rw [decide_eq_false cg]
        refine iteT ?_
        have ndn : (gs ++ [nxS m here b]).Nodup := List.nodup_append.mpr ⟨nd, by simp, fun a ha b' hb' => by rw [List.mem_singleton.mp hb']; exact fun z => cg (z ▸ ha)⟩
        have stdn : ∀ t ∈ gs ++ [nxS m here b], StdR m t := fun t ht => by
          rcases List.mem_append.mp ht with z | z
          · exact std t z
          · rw [List.mem_singleton.mp z]
            exact stdR_nx hst b
        refine ⟨_, rfl, .inl ⟨rfl, _, .inl (.inl eG4)⟩, _, rfl, G, _, _, rfl, rfl, eG4, by rw [aG.len]; omega, ?_⟩
        have kb : KB G H4 (upd H4 G (.lst (gv ++ [.ref u]))) := .upd
        refine ⟨gs ++ [nxS m here b], _, _, rfl, KB.same S4 nG kb, ⟨_, upd_same, (aG4.snoc hu).smU (kb.smU eG4)⟩, ndn, stdn, List.mem_append.mpr (.inl ae), by rw [List.length_append]; omega, by rw [List.getElem?_append_left ha]; exact hh, fun j t hj ht b' => ?_, fun b' hb' => ?_⟩
        · rw [List.getElem?_append_left (by omega)] at ht
          exact List.mem_append.mpr (.inl (cl j t hj ht b'))
        · rw [take_more hb1] at hb'
          rcases List.mem_append.mp hb' with z | z
          · exact List.mem_append.mpr (.inl (nxs b' z))
          · rw [List.mem_singleton.mp z]
            exact List.mem_append.mpr (.inr List.mem_cons_self)
    · rintro σ H3 ⟨gs, v3, v4, rfl, s3, hG, nd, std, ae, ha, hh, cl, nxs⟩
      rw [z01] at nxs
      refine ⟨_, rfl, _, _, rfl, rfl, gs, _, _, rfl, s3, hG, nd, std, ae, ha, fun j t hj ht b => ?_⟩
      by_cases c : j = a
      · rw [c, hh] at ht
        cases Option.some.inj ht
        refine nxs b ?_
        cases b <;> simp
      · exact cl j t (by omega) ht b
end

abbrev s_least_sure : Stmt := topS 16
theorem sc_least_sure : FnScope ["step", "begin", "known", "line", "at", "here", "sign", "goal", "standing"] ["step"] (defScope s_least_sure) := ⟨rfl, rfl, rfl, by decide +kernel, rfl, by decide +kernel, by decide +kernel⟩
def sp_least_sure (K : PySem.W.Frag) (P : Program) (w : World) : Sp := fun vs H Q _ => ∃ m : Nat, vs = [.int (m : Nat)] ∧ 1 ≤ m ∧ m ≤ 64 ∧
  ∀ (v : List Bool) (H' : Hp), Same H H' → Sure m v → (∀ u, Sure m u → codeB v ≤ codeB u) → Q (.str (tx v)) H'
section
variable {P : Program} {w : World} {K : PySem.W.Frag} {mg : Str → Option Value} {base : Heap}
theorem ok_least_sure (A : At K mg "least_sure" s_least_sure ["step"]) (B : Bn mg) (H_check_step : CalE P w K mg base "check_step" ["thing"] 2 (sp_check_step K)) (H_all_standings : CalE P w K mg base "all_standings" ["step"] 4 (sp_all_standings K)) (H_next_standing : CalE P w K mg base "next_standing" ["step", "standing", "sign"] 3 (sp_next_standing K)) (K_AT_END : ∃ A v, mg "AT_END" = some v ∧ RelV (.ref A) v ∧ ∀ H, SqT K H A [.int 0, .int 0, .int 0]) (K_SIGNS : ∃ v, mg "SIGNS" = some v ∧ RelV (.str "01") v) : CalE P w K mg base "least_sure" ["step"] 5 (sp_least_sure K P w) := by
  obtain ⟨f, fd, F, gF, bF⟩ := A
  obtain ⟨f_check_step, fd_check_step, G_check_step⟩ := H_check_step
  obtain ⟨f_all_standings, fd_all_standings, G_all_standings⟩ := H_all_standings
  obtain ⟨f_next_standing, fd_next_standing, G_next_standing⟩ := H_next_standing
  obtain ⟨X_AT_END, v_AT_END, C_AT_END⟩ := K_AT_END
  obtain ⟨v_SIGNS, C_SIGNS⟩ := K_SIGNS
  refine ⟨f, fd, F.ok sc_least_sure (fun vs H Q E h => ?_) (fun cdv A outer s H vs Q E hr h => ?_), gF, F.kp, bF⟩
  · repeat (first | (obtain ⟨rfl, _⟩ := h; rfl) | (obtain ⟨_, h⟩ := h))
  · obtain ⟨m, rfl, m1, m64, k⟩ := h
    obtain ⟨_, rfl⟩ := C_SIGNS.2
    have hsz := sizeLine_eq
    refine ⟨_, (pss_cons (ps_expr (pe_call G_check_step.ok (hr.mono (by first | decide | exact Nat.le_refl _)) (by rfl) G_check_step.g G_check_step.kp G_check_step.b .nil pass0 (pa_cons (pv 0) pa_nil)))
      (pss_cons (ps_set (i := 1) sc_least_sure.nd rfl (.inl rfl) (pe_callTy (call_tuple_of_ K) (by rfl) B.tuple_ (by decide +kernel) (pa_cons (pe_callB (cr_sortedSt_ K hr.units) (by rfl) B.sorted_ (by decide +kernel) (pa_cons (pe_call G_all_standings.ok (hr.mono (by first | decide | exact Nat.le_refl _)) (by rfl) G_all_standings.g G_all_standings.kp G_all_standings.b .nil pass0 (pa_cons (pv 0) pa_nil)) pa_nil)) pa_nil)))
      (pss_cons (ps_par (i := 2) (j := 3) (by rfl) sc_least_sure.nd rfl rfl (by decide) rfl rfl (pa_cons (pe_dvone_ K P w hr.units (pps_cons (pv 1) pe_str pps_nil)) (pa_cons (pe_lst (pa_cons (pv 1) pa_nil)) pa_nil)) (by rfl))
      (pss_cons (ps_set (i := 4) sc_least_sure.nd rfl (.inl rfl) pe_int)
      (pss_cons (ps_while PassesOwn.never (pt_cmpR op_lt (pv 4) (pe_callB (call_len_seq_ K) (by rfl) B.len_ (by decide +kernel) (pa_cons (pv 3) pa_nil)) (nomark _))
      (pss_cons (ps_set (i := 5) sc_least_sure.nd rfl (.inl rfl) (pe_ix (ix_list_ K) (pv 3) (pv 4) (fun _ _ => rfl)))
      (pss_cons (ps_if (pt_cmpR (op_eqD_ K hr.units) (pv 5) (pe_tup (pa_cons (pe_glob (v := .ref X_AT_END) (by rfl) C_AT_END.1 C_AT_END.2.1) pa_nil)) (nomark _))
      (pss_one (ps_ret (pe_dvget_ K P w hr.units (pv 2) (pv 5) (fun _ _ => rfl))))
      pss_nil)
      (pss_cons (ps_for PassesOwn.never rfl (pi_str (pe_glob (by rfl) C_SIGNS.1 C_SIGNS.2)) (pg_name (i := 6) sc_least_sure.nd rfl (.inr rfl))
      (pss_cons (ps_set (i := 7) sc_least_sure.nd rfl (.inl rfl) (pe_callTy (call_tuple_of_ K) (by rfl) B.tuple_ (by decide +kernel) (pa_cons (pe_callB (cr_sortedSet_ K P w rfl) (by rfl) B.sorted_ (by decide +kernel) (pa_cons (pe_callTy (cr_setSt_ K P w rfl hr.units) (by rfl) B.set_ (by decide +kernel) (pa_cons (pe_lc (own := [("standing", 8)]) (g := gName 8) (tt := tYes) rfl sc_least_sure.nd (pi_tup (pv 5)) (blkOk_by (own := [("standing", 8)]) (N := ["step", "begin", "known", "line", "at", "here", "sign", "goal", "standing"]) (sc := defScope s_least_sure) (by decide +kernel)) (fun _ _ _ _ _ => (pg_name (i := 8) sc_least_sure.nd rfl (.inl rfl))) (fun _ _ _ _ _ => pts_nil) (fun _ _ _ _ _ => (pe_call G_next_standing.ok (hr.mono (by first | decide | exact Nat.le_refl _)) (by rfl) G_next_standing.g G_next_standing.kp G_next_standing.b .nil pass0 (pa_cons (pv 0) (pa_cons (pv 8) (pa_cons (pv 6) pa_nil)))))) pa_nil)) pa_nil)) pa_nil)))
      (pss_one (ps_if (pt_cmp (pc_dvnotin_ K P w hr.units (pv 7) (pv 2)))
      (pss_cons (ps_asg (pe_op op_add_str (pe_dvget_ K P w hr.units (pv 2) (pv 5) (fun _ _ => rfl)) (pv 6)) (pg_sub (pv 2) (pv 7) (set_dv K P w hr.units)))
      (pss_one (ps_expr (pe_bm PySem.F.plainAttrs_list PySem.F.slot_list_append PySem.F.type_list_append mt_append (pv 3) (pa_cons (pv 7) pa_nil)))))
      pss_nil))))
      (pss_one (ps_aug (i := 4) sc_least_sure.nd rfl (.inl rfl) pe_int ip_add))))))
      (pss_one (ps_ret pe_non))))))), ?_⟩
    have e01 : ("01" : Str) = tx [false, true] := by decide +kernel
    have eC : ∀ {i c}, ("01" : Str).cps.toList[i]? = some c → ∃ b, [false, true][i]? = some b ∧ c = sg b := fun {i c} hc => by
      rw [e01, tx_list, List.getElem?_map] at hc
      cases e : [false, true][i]? with
      | none => rw [e] at hc; cases hc
      | some b => rw [e] at hc; exact ⟨b, e, (Option.some.inj hc).symm⟩
    have z01 : ("01" : Str).cps.size = 2 := by decide +kernel
    have h6 := wide_64 m64
    have hsc := sureV_code m64
    have hsl := sureV_len m
    refine ⟨_, rfl, m, rfl, m1, m64, ?_⟩
    -- all standings, sorted
    refine ⟨_, rfl, m, rfl, m1, m64, fun G gs H1 s1 nG hG C => ?_⟩
    obtain ⟨gv, eG, aG⟩ := hG
    obtain ⟨ps, rfl, hgs, hps⟩ := stAll_ps aG
    have hpm : ∀ p ∈ ps, smS p.2 := fun p hp => smS_std m64 (C.std _ (by rw [hgs]; exact List.mem_map.mpr ⟨p, hp, rfl⟩))
    refine ⟨G, ps, rfl, .inl (.inl eG), fun p hp => ⟨hps p hp, hpm p hp⟩, fun qs p pm pw np => ?_⟩
    have s2 := same_new np (.lst (qs.map fun q => V.ref q.1))
    refine ⟨p, _, rfl, .inl ⟨.inl (.inl upd_same), fun Bg nB => ?_⟩⟩
    have s3 := same_new nB (.tup (qs.map fun q => V.ref q.1))
    have S3 := s1.trans (s2.trans s3)
    have hBg : KnAt K (upd (upd H1 p (.lst (qs.map fun q => V.ref q.1))) Bg (.tup (qs.map fun q => V.ref q.1))) Bg (qs.map (·.2)) := ⟨_, .inl (.inl upd_same), stAll_of fun q hq => Same.seqT (s2.trans s3) (hps q (pm.mem_iff.mp hq))⟩
    generalize upd (upd H1 p (.lst (qs.map fun q => V.ref q.1))) Bg (.tup (qs.map fun q => V.ref q.1)) = H3 at *
    obtain ⟨ts0, hts0⟩ : ∃ ts, ts = qs.map (·.2) := ⟨_, rfl⟩
    rw [← hts0] at hBg
    have htm : ∀ t, t ∈ ts0 ↔ t ∈ gs := fun t => by rw [hts0, hgs]; exact (pm.map _).mem_iff
    have hsrt : SrtS ts0 := by
      rw [hts0]
      refine srtS_of (List.pairwise_map.mpr pw) ((pm.map (·.2)).nodup_iff.mpr (hgs ▸ C.nd)) fun t ht => ?_
      obtain ⟨q, hq, rfl⟩ := List.mem_map.mp ht
      exact hpm q (pm.mem_iff.mp hq)
    have B0 := Bfs.start (m := m) hsrt htm
    clear hts0 hsrt htm pm pw np nB hps hpm hgs eG aG s1 s2 s3 nG qs ps
    -- known, line
    refine fun d nd => ⟨_, rfl, ⟨_, nkL ts0, _, rfl, upd_same, nkL_at (hBg.smU (.of (.of (same_new nd _)))), ?_⟩⟩
    have S4 : Same H3 (upd (upd H3 d (DV P w d [])) d (DV P w d [(nkL ts0, Bg, .str ("" : Str))])) := fun b o ho => by
      rw [upd_ne (ne_of_none ho nd), upd_ne (ne_of_none ho nd)]
      exact ho
    have ed4 : (upd (upd H3 d (DV P w d [])) d (DV P w d [(nkL ts0, Bg, .str ("" : Str))])) d = some (DV P w d [(nkL ts0, Bg, .str (tx []))]) := by rw [upd_same, tx_nil]
    have nd3 := S3.free nd
    show (fun x H1 => _) (V.ref d) (upd (upd H3 d (DV P w d [])) d (DV P w d [(nkL ts0, Bg, .str ("" : Str))]))
    generalize upd (upd H3 d (DV P w d [])) d (DV P w d [(nkL ts0, Bg, .str ("" : Str))]) = H4 at *
    refine ⟨_, rfl, (by show 1 ≤ sizeLine; omega), fun Ln nL => ⟨_, _, rfl, ?_⟩⟩
    have s5 := same_new nL (.lst [.ref Bg])
    have eL5 : (upd H4 Ln (.lst [.ref Bg])) Ln = some (.lst [.ref Bg]) := upd_same
    have ed5 := s5 _ _ ed4
    have hB5 := hBg.smU (.of (.of (S4.trans s5)))
    have S5 := (S3.trans S4).trans s5
    have nLH : H Ln = none := (S3.trans S4).free nL
    generalize upd H4 Ln (.lst [.ref Bg]) = H5 at *
    have R0 : EnR K H5 [(nkL ts0, Bg, .str (tx []))] [(ts0, [])] := .cons ⟨rfl, rfl, hB5⟩ .nil
    clear hBg hB5 S3 S4 s5 ed4 nd nL
    refine ⟨fun x σ H' => ∃ (es : List (List St3 × List Bool)) (a : Nat) (xs : List DEnt) (v5 v6 v7 v8 : Option V), x = 16385 - a ∧ σ = [some (.int (m : Nat)), some (.ref Bg), some (.ref d), some (.ref Ln), some (.int (a : Nat)), v5, v6, v7, v8] ∧ Same H H' ∧ H' d = some (DV P w d xs) ∧ H' Ln = some (.lst (xs.map fun x => V.ref x.2.1)) ∧ EnR K H' xs es ∧ Bfs m gs es a 0,
      ⟨_, [(ts0, [])], 0, [(nkL ts0, Bg, .str (tx []))], _, _, _, _, rfl, rfl, S5, ed5, eL5, R0, B0⟩, ?_⟩
    clear ed5 eL5 R0 B0 S5
    rintro x σ H6 ⟨es, a, xs, v5, v6, v7, v8, rfl, rfl, S6, ed, eL, R, B⟩
    obtain ⟨e, he, hc⟩ := B.more C (v := sureV m) sureV_sure
    have hal := asc_le B.asc he
    have hel := (List.getElem?_eq_some_iff.mp he).1
    refine ⟨_, rfl, _, rfl, Ln, _, rfl, .inl (.inl (.inl eL)), _, _, rfl, rfl, _, rfl, ?_⟩
    rw [List.length_map, R.len]
    refine iteDT (by omega) ?_
    refine ⟨fun σ' H' => ∃ (es : List (List St3 × List Bool)) (xs : List DEnt) (v5 v6 v7 v8 : Option V), σ' = [some (.int (m : Nat)), some (.ref Bg), some (.ref d), some (.ref Ln), some (.int ((a + 1 : Nat) : Int)), v5, v6, v7, v8] ∧ Same H H' ∧ H' d = some (DV P w d xs) ∧ H' Ln = some (.lst (xs.map fun x => V.ref x.2.1)) ∧ EnR K H' xs es ∧ Bfs m gs es (a + 1) 0, fun σ' H' ⟨es', xs', v5, v6, v7, v8, e1, e2, e3, e4, e5, e6⟩ => ⟨16385 - (a + 1), by omega, es', a + 1, xs', v5, v6, v7, v8, rfl, e1, e2, e3, e4, e5, e6⟩, ?_⟩
    obtain ⟨x, hx, hx1, hx2, hbh⟩ := R.get he
    refine ⟨_, rfl, _, rfl, Ln, _, _, _, rfl, rfl, .inl (.inl eL), atI_nat (v := V.ref x.2.1) (by rw [List.getElem?_map, hx]; rfl), ?_⟩
    obtain ⟨bh, hbe⟩ : ∃ bh, bh = x.2.1 := ⟨_, rfl⟩
    rw [← hbe] at hbh ⊢
    have elen : e.2.length ≤ 13 := by
      have := code_len hc
      omega
    -- is it the end?
    refine ⟨_, rfl, (by show 1 ≤ sizeLine; omega), fun T nT => ?_⟩
    have s7 := same_new nT (.tup [.ref X_AT_END])
    have hT : KnAt K (upd H6 T (.tup [.ref X_AT_END])) T [AtE] := ⟨_, .inl (.inl upd_same), .cons ⟨_, rfl, C_AT_END.2.2 _⟩ .nil⟩
    have ed7 := s7 _ _ ed
    have eL7 := s7 _ _ eL
    have R7 := R.smU (.of (.of s7))
    have hbh7 := hbh.smU (.of (.of s7))
    have S7 := S6.trans s7
    generalize upd H6 T (.tup [.ref X_AT_END]) = H7 at *
    clear s7 nT ed eL R hbh S6
    refine ⟨.tuple (e.1.map stD), .tuple ([AtE].map stD), hbh7.dp, hT.dp, ok_shaped (stT_ok _) (by decide), ok_shaped (stT_ok _) (by decide), _, rfl, ?_⟩
    rw [stT_eqv]
    by_cases ce : e.1 = [AtE]
    · refine iteDT ce ?_
      obtain ⟨f1, f2⟩ := B.found C he ce
      exact ⟨_, rfl, _, rfl, d, bh, xs, _, _, rfl, rfl, ⟨.inl ed7, R7.keys⟩, nkL_at hbh7, R7.at_ B.nd (List.mem_of_getElem? he), k e.2 H7 S7 f1 f2⟩
    refine iteDF ce ?_
    have hstd : ∀ t ∈ e.1, Std m t := fun t ht => by
      obtain ⟨t', h1, rfl⟩ := ((B.img e (List.mem_of_getElem? he)).2 t).mp ht
      exact std_run _ (C.std _ h1)
    refine ⟨_, rfl, for_str (x := "01") (fun i σ H' => ∃ (es : List (List St3 × List Bool)) (xs : List DEnt) (v6 v7 v8 : Option V), σ = [some (.int (m : Nat)), some (.ref Bg), some (.ref d), some (.ref Ln), some (.int (a : Nat)), some (.ref bh), v6, v7, v8] ∧ Same H H' ∧ H' d = some (DV P w d xs) ∧ H' Ln = some (.lst (xs.map fun x => V.ref x.2.1)) ∧ EnR K H' xs es ∧ Bfs m gs es a i ∧ es[a]? = some e ∧ KnAt K H' bh e.1) ⟨es, xs, _, _, _, rfl, S7, ed7, eL7, R7, B, he, hbh7⟩ ?_ ?_⟩
    · clear hel hal hx hx1 hx2 hbe B R7 eL7 ed7 S7 hbh7 hT H7
      clear he
      rintro i ch σ H8 hc2 ⟨es, xs, v6, v7, v8, rfl, S8, ed, eL, R, B, he, hbh⟩
      obtain ⟨bb, hb2, rfl⟩ := eC hc2
      have hxl : xs.length ≤ 2 * codeB e.2 + 1 + i := by rw [R.len]; exact B.len he
      have hi2 : i < 2 := (List.getElem?_eq_some_iff.mp hb2).1
      obtain ⟨vs, qT, aS⟩ := id hbh
      refine ⟨_, rfl, bh, rfl, ⟨_, qT⟩, fun L nL => ?_⟩
      refine lc_tup (K := K) (a := bh) (xs := vs) (fun j H' => ∃ qs : List (Addr × St3), Same H8 H' ∧ H' L = some (.lst (qs.map fun q => V.ref q.1)) ∧ qs.length = j ∧ (∀ p ∈ qs, SqT K H' p.1 (stV p.2)) ∧ qs.map (·.2) = (e.1.take j).map fun t => nxS m t bb) ⟨[], same_new nL _, upd_same, rfl, (fun p hp => by cases hp), rfl⟩ (fun j H' _ ⟨_, s, _⟩ => Same.seqT s qT) ?_ ?_
      · rintro j y H9 hy ⟨qs, s9, e9, ql, qp, qm⟩
        obtain ⟨b, t, rfl, ht, hb⟩ := (aS.smU (.of (.of s9))).get hy
        have hts := hstd t (List.mem_of_getElem? ht)
        refine ⟨rfl, _, rfl, _, rfl, _, rfl, m, b, t, bb, rfl, m1, m64, hb, std_le hts, fun u H10 s10 hu => ?_⟩
        have e10 := s10 _ _ e9
        have hjl := (List.getElem?_eq_some_iff.mp hy).1
        have hvl : vs.length ≤ 1536 := by
          rw [aS.len]
          exact std_len m64 ((B.img e (List.mem_of_getElem? he)).1.imp fun {a b} h z => by rw [z] at h; omega) hstd
        have kb : KB L H10 (upd H10 L (.lst ((qs.map fun q => V.ref q.1) ++ [.ref u]))) := .upd
        refine ⟨_, e10, by rw [List.length_map, ql]; omega, qs ++ [(u, nxS m t bb)], fun b' o hb' => ?_, ?_, by rw [List.length_append, ql]; rfl, fun p hp => ?_, ?_⟩
        · rw [upd_ne (ne_of_none hb' nL)]
          exact s10 _ _ (s9 _ _ hb')
        · rw [upd_same, List.map_append]
          rfl
        · refine SqT.smU (kb.smU e10) ?_
          rcases List.mem_append.mp hp with z | z
          · exact Same.seqT s10 (qp p z)
          · rw [List.mem_singleton.mp z]
            exact hu
        · rw [List.map_append, qm, take_more ht, List.map_append]
          rfl
      rintro H9 ⟨qs, s9, e9, ql, qp, qm⟩
      rw [aS.len, List.take_length] at qm
      -- the set
      have himg : ∀ u, u ∈ qs.map (·.2) ↔ ∃ t ∈ e.1, nxS m t bb = u := fun u => by rw [qm, List.mem_map]
      refine ⟨L, qs, rfl, .inl (.inl e9), qp, fun L' hn hsub => img_few m64 bb hn fun u hu => ?_, fun S L2 nS hsub hall => ?_⟩
      · obtain ⟨t, ht, e⟩ := (himg u).mp (hsub u hu)
        exact ⟨t, hstd t ht, e⟩
      have s10 := same_new nS (SetTO P w S (L2.map fun p => (p.1, intsS p.2)))
      have hsm : ∀ p ∈ L2, smS p.2 := fun p hp => by
        obtain ⟨t, ht, e⟩ := (himg p.2).mp (List.mem_map.mpr ⟨p, hsub p hp, rfl⟩)
        exact smS_std m64 (e ▸ std_nx (hstd t ht) bb)
      refine ⟨S, L2, rfl, upd_same, fun p hp => ⟨Same.seqT s10 (qp p (hsub p hp)), hsm p hp⟩, fun L3 p pm nd3' pw np => ?_⟩
      have s11 := same_new np (.lst (L3.map fun q => V.ref q.1))
      refine ⟨p, _, rfl, .inl ⟨.inl (.inl upd_same), fun g ng => ?_⟩⟩
      have s12 := same_new ng (.tup (L3.map fun q => V.ref q.1))
      have S12' := s9.trans (s10.trans (s11.trans s12))
      obtain ⟨ts, hts⟩ : ∃ ts, ts = L3.map (·.2) := ⟨_, rfl⟩
      have hg : KnAt K (upd (upd (upd H9 S (SetTO P w S (L2.map fun p => (p.1, intsS p.2)))) p (.lst (L3.map fun q => V.ref q.1))) g (.tup (L3.map fun q => V.ref q.1))) g ts := ⟨_, .inl (.inl upd_same), hts ▸ stAll_of fun q hq => Same.seqT (s10.trans (s11.trans s12)) (qp q (hsub q (pm.mem_iff.mp hq)))⟩
      generalize upd (upd (upd H9 S (SetTO P w S (L2.map fun p => (p.1, intsS p.2)))) p (.lst (L3.map fun q => V.ref q.1))) g (.tup (L3.map fun q => V.ref q.1)) = H12 at *
      have hsrt : SrtS ts := by
        rw [hts]
        refine srtS_of (List.pairwise_map.mpr pw) nd3' fun t ht => ?_
        obtain ⟨q, hq, rfl⟩ := List.mem_map.mp ht
        exact hsm q (pm.mem_iff.mp hq)
      have hmem : ∀ u, u ∈ ts ↔ ∃ t ∈ e.1, nxS m t bb = u := fun u => by
        rw [← himg u, hts, (pm.map (·.2)).mem_iff]
        constructor
        · intro hu
          obtain ⟨q, hq, rfl⟩ := List.mem_map.mp hu
          exact List.mem_map.mpr ⟨q, hsub q hq, rfl⟩
        · intro hu
          obtain ⟨q, hq, rfl⟩ := List.mem_map.mp hu
          exact hall q hq
      have hi : Img m gs (e.2 ++ [bb]) ts := (img_snoc bb (B.img e (List.mem_of_getElem? he)).2).mpr hmem
      have ed12 := S12' _ _ ed
      have eL12 := S12' _ _ eL
      have R12 := R.smU (.of (.of S12'))
      have hbh12 := hbh.smU (.of (.of S12'))
      have S12 := S8.trans S12'
      clear S12' s12 s11 s10 s9 ng np nS e9 qp hsub hall pm pw nd3' hts hsm himg qm hmem S8 ed eL R hbh qT aS
      refine to_nx (σ' := [some (.int (m : Nat)), some (.ref Bg), some (.ref d), some (.ref Ln), some (.int (a : Nat)), some (.ref bh), some (.str ⟨#[sg bb]⟩), some (.ref g), v8]) rfl ?_
      -- a new one?
      refine ⟨_, rfl, _, rfl, d, g, xs, nkL ts, rfl, rfl, ⟨.inl ed12, R12.keys⟩, nkL_at hg, ?_⟩
      rw [R12.some_]
      by_cases ck : ts ∈ es.map (·.1)
      · refine ⟨_, rfl, iteNF ck ?_⟩
        obtain ⟨e', he', ee⟩ := List.mem_map.mp ck
        exact ⟨es, xs, _, _, _, rfl, S12, ed12, eL12, R12, B.known he hb2 he' (ee ▸ hi), he, hbh12⟩
      refine ⟨_, rfl, iteND ck ?_⟩
      have etx : tx e.2 ++ (⟨#[sg bb]⟩ : Str) = tx (e.2 ++ [bb]) := by rw [code_sg, tx_app]
      refine ⟨_, rfl, _, rfl, d, bh, xs, _, _, rfl, rfl, ⟨.inl ed12, R12.keys⟩, nkL_at hbh12, R12.at_ B.nd (List.mem_of_getElem? he), _, rfl, _, _, rfl, rfl, by rw [tx_len, code_sg, tx_len]; show e.2.length + 1 ≤ sizeLine; omega, ?_⟩
      rw [etx]
      refine ⟨_, rfl, _, rfl, d, g, xs, nkL ts, rfl, rfl, ed12, R12.keys, nkL_at hg, by omega, ?_⟩
      rw [R12.put ck]
      have sm : SmT H12 (upd H12 d (DV P w d (xs ++ [(nkL ts, g, .str (tx (e.2 ++ [bb])))]))) := .dv ed12
      have nLd : Ln ≠ d := fun z => by rw [z, ed12] at eL12; cases eL12
      have eL13 : (upd H12 d (DV P w d (xs ++ [(nkL ts, g, .str (tx (e.2 ++ [bb])))]))) Ln = some (.lst (xs.map fun x => V.ref x.2.1)) := by rw [upd_ne nLd]; exact eL12
      have ed13 : (upd H12 d (DV P w d (xs ++ [(nkL ts, g, .str (tx (e.2 ++ [bb])))]))) d = some (DV P w d (xs ++ [(nkL ts, g, .str (tx (e.2 ++ [bb])))])) := upd_same
      have R13 := R12.smU (.of sm)
      have hg13 := hg.smU (.of sm)
      have hbh13 := hbh12.smU (.of sm)
      have S13 : Same H (upd H12 d (DV P w d (xs ++ [(nkL ts, g, .str (tx (e.2 ++ [bb])))]))) := fun b o ho => by
        rw [upd_ne (ne_of_none ho nd3)]
        exact S12 _ _ ho
      generalize upd H12 d (DV P w d (xs ++ [(nkL ts, g, .str (tx (e.2 ++ [bb])))])) = H13 at *
      clear S12 hbh12 hg R12 sm eL12 ed12
      refine ⟨_, rfl, .inl ⟨rfl, _, .inl (.inl eL13)⟩, _, rfl, Ln, _, _, rfl, rfl, eL13, by rw [List.length_map]; omega, ?_⟩
      have kb : KB Ln H13 (upd H13 Ln (.lst ((xs.map fun x => V.ref x.2.1) ++ [.ref g]))) := .upd
      refine ⟨es ++ [(ts, e.2 ++ [bb])], xs ++ [(nkL ts, g, .str (tx (e.2 ++ [bb])))], _, _, _, rfl, KB.same S13 nLH kb, kb _ _ (Ne.symm nLd) ed13, ?_, (R13.snoc hg13).smU (kb.smU eL13), B.put he hb2 hsrt hi ck, ?_, hbh13.smU (kb.smU eL13)⟩
      · rw [upd_same, List.map_append]
        rfl
      · rw [List.getElem?_append_left (List.getElem?_eq_some_iff.mp he).1]
        exact he
    · rintro σ H8 ⟨es, xs, v6, v7, v8, rfl, S8, ed, eL, R, B, he, hbh⟩
      rw [z01] at B
      exact ⟨_, rfl, _, _, rfl, rfl, es, xs, _, _, _, _, rfl, S8, ed, eL, R, B.next he ce⟩
end

abbrev s__law_rests : Stmt := topS 22
theorem sc__law_rests : FnScope ["_law_step", "_law_many", "_law_whole", "_law_found", "_law_rest", "_law_value", "_law_size", "_law_figures_here", "_law_k"] ["_law_step"] (defScope s__law_rests) := ⟨rfl, rfl, rfl, by decide +kernel, rfl, by decide +kernel, by decide +kernel⟩
def sp__law_rests (K : PySem.W.Frag) : Sp := fun vs H Q _ => ∃ m : Nat, vs = [.int (m : Nat)] ∧ 1 ≤ m ∧ m ≤ 64 ∧
  ∀ (D : Addr) (H' : Hp), Same H H' → H D = none → H' D = some (.lst (restsV m)) → Q (.ref D) H'
theorem restsV_take {m j : Nat} (h : j < m) : (restsV m).take (j + 1) = (restsV m).take j ++ [V.str (tx (restB m j))] := take_more (by unfold restsV; rw [List.getElem?_map, List.getElem?_range h]; rfl)
section
variable {P : Program} {w : World} {K : PySem.W.Frag} {mg : Str → Option Value} {base : Heap}
theorem ok__law_rests (A : At K mg "_law_rests" s__law_rests ["_law_step"]) (B : Bn mg) : CalE P w K mg base "_law_rests" ["_law_step"] 1 (sp__law_rests K) := by
  obtain ⟨f, fd, F, gF, bF⟩ := A
  refine ⟨f, fd, F.ok sc__law_rests (fun vs H Q E h => ?_) (fun cdv A outer s H vs Q E hr h => ?_), gF, F.kp, bF⟩
  · repeat (first | (obtain ⟨rfl, _⟩ := h; rfl) | (obtain ⟨_, h⟩ := h))
  · obtain ⟨m, rfl, hm, h64, k⟩ := h
    have hsz := sizeLine_eq
    have h6 := wide_64 h64
    refine ⟨_, (pss_cons (ps_asg (pe_tup (pa_cons pe_int (pa_cons pe_int pa_nil))) (pg_tup (by rfl) (pgs_cons (pg_name (i := 1) sc__law_rests.nd rfl (.inl rfl)) (pgs_cons (pg_name (i := 2) sc__law_rests.nd rfl (.inl rfl)) pgs_nil))))
      (pss_cons (ps_while PassesOwn.never (pt_cmpR op_lt (pv 2) (pv 0) (nomark _))
      (pss_one (ps_par (i := 1) (j := 2) (by rfl) sc__law_rests.nd rfl rfl (by decide) rfl rfl (pa_cons (pe_op op_add (pv 1) pe_int) (pa_cons (pe_op op_mul pe_int (pv 2)) pa_nil)) (by rfl))))
      (pss_cons (ps_set (i := 3) sc__law_rests.nd rfl (.inl rfl) (pe_lst pa_nil))
      (pss_cons (ps_for PassesOwn.never rfl (pi_range1 (by rfl) B.range_ (pa_cons (pv 0) pa_nil)) (pg_name (i := 4) sc__law_rests.nd rfl (.inl rfl))
      (pss_cons (ps_asg (pe_ifExp (pt_cmpR op_lt (pv 4) (pe_op op_sub (pv 2) (pv 0)) (nomark _)) (pe_tup (pa_cons (pv 4) (pa_cons (pe_op op_sub (pv 1) pe_int) pa_nil))) (pe_tup (pa_cons (pe_op op_sub (pe_op op_add (pv 4) (pv 2)) (pv 0)) (pa_cons (pv 1) pa_nil)))) (pg_tup (by rfl) (pgs_cons (pg_name (i := 5) sc__law_rests.nd rfl (.inl rfl)) (pgs_cons (pg_name (i := 6) sc__law_rests.nd rfl (.inl rfl)) pgs_nil))))
      (pss_cons (ps_set (i := 7) sc__law_rests.nd rfl (.inl rfl) pe_str)
      (pss_cons (ps_for PassesOwn.never rfl (pi_range1 (by rfl) B.range_ (pa_cons (pv 6) pa_nil)) (pg_name (i := 8) sc__law_rests.nd rfl (.inl rfl))
      (pss_cons (ps_set (i := 7) sc__law_rests.nd rfl (.inl rfl) (pe_op op_add_str (pe_callTy call_str_int (by rfl) B.str_ (by decide +kernel) (pa_cons (pe_op op_mod (pe_callTy call_int1 (by rfl) B.int_ (by decide +kernel) (pa_cons (pv 5) pa_nil)) pe_int) pa_nil)) (pv 7)))
      (pss_one (ps_set (i := 5) sc__law_rests.nd rfl (.inl rfl) (pe_op op_fdiv (pv 5) pe_int)))))
      (pss_one (ps_expr (pe_bm PySem.F.plainAttrs_list PySem.F.slot_list_append PySem.F.type_list_append mt_append (pv 3) (pa_cons (pv 7) pa_nil))))))))
      (pss_one (ps_ret (pv 3))))))), ?_⟩
    refine ⟨(by show 2 ≤ sizeLine; omega), fun T0 nT0 => ?_⟩
    have s0 := same_new nT0 (.tup [.int 0, .int 1])
    refine ⟨T0, _, rfl, .inl (.inl upd_same), rfl, _, _, rfl, _, _, rfl, rfl, ?_⟩
    generalize upd H T0 (.tup [.int 0, .int 1]) = H0 at *
    refine ⟨fun n σ H2 => ∃ c : Nat, n = 6 - c ∧ σ = [some (.int (m : Nat)), some (.int (c : Nat)), some (.int ((2 ^ c : Nat) : Int)), none, none, none, none, none, none] ∧ (∀ d, d < c → 2 ^ d < m) ∧ c ≤ 6 ∧ H2 = H0, ⟨6, 0, rfl, rfl, fun d h => by omega, by decide, rfl⟩, ?_⟩
    rintro n σ H2 ⟨c, rfl, rfl, hc, c6, rfl⟩
    refine ⟨_, rfl, _, rfl, _, _, rfl, rfl, _, rfl, ite2 (fun z => ?_) (fun z => ?_)⟩
    · have z' : 2 ^ c < m := Int.ofNat_lt.mp (of_decide_eq_true z)
      have c5 : c < 6 := by
        refine Nat.not_le.mp fun y => ?_
        have : c = 6 := by omega
        subst this
        omega
      refine ⟨fun σ' H' => σ' = [some (.int (m : Nat)), some (.int ((c + 1 : Nat) : Int)), some (.int ((2 ^ (c + 1) : Nat) : Int)), none, none, none, none, none, none] ∧ H' = H2, fun σ' H' ⟨e1, e2⟩ => ⟨6 - (c + 1), by omega, c + 1, rfl, e1, fun d hd => ?_, by omega, e2⟩, ?_⟩
      · by_cases hd' : d = c
        · exact hd' ▸ z'
        · exact hc d (by omega)
      refine ⟨_, rfl, _, _, rfl, rfl, _, rfl, _, _, rfl, rfl, .inl (by decide), _, _, rfl, ?_, rfl⟩
      have e : (2 : Int) * ((2 ^ c : Nat) : Int) = ((2 ^ (c + 1) : Nat) : Int) := by
        rw [Nat.pow_succ]
        omega
      rw [← e]
      rfl
    have z' : m ≤ 2 ^ c := Nat.not_lt.mp fun y => z (decide_eq_true (Int.ofNat_lt.mpr y))
    have hw := wide_eq z' hc
    have es : ((2 ^ c : Nat) : Int) - (m : Int) = ((shortN m : Nat) : Int) := by
      unfold shortN
      rw [hw]
      omega
    refine ⟨(by show 0 ≤ sizeLine; omega), fun D nD => ?_⟩
    refine ⟨_, rfl, _, rfl, by omega, by omega, ?_⟩
    rw [Int.toNat_natCast]
    refine for_range (lo := 0) (n := m) (fun j σ H3 => ∃ v4 v5 v6 v7 v8, σ = [some (.int (m : Nat)), some (.int (c : Nat)), some (.int ((2 ^ c : Nat) : Int)), some (.ref D), v4, v5, v6, v7, v8] ∧ Same H2 H3 ∧ H3 D = some (.lst ((restsV m).take j))) ⟨_, _, _, _, _, rfl, same_new nD _, by rw [List.take_zero]; exact upd_same⟩ ?_ ?_
    · rintro j σ H3 hj ⟨v4, v5, v6, v7, v8, rfl, s3, eD⟩
      -- value and size
      obtain ⟨v, s, hvs, hs⟩ : ∃ v s : Nat, restB m j = fig v s ∧ (if j < shortN m then v = j ∧ s + 1 = c else v = j + shortN m ∧ s = c) := by
        unfold restB
        by_cases q : j < shortN m
        · have w1 : 1 ≤ wideN m := by
            refine Nat.not_lt.mp fun z => ?_
            have e := short_zero (show wideN m = 0 by omega) hm
            subst e
            have : shortN 1 = 0 := by decide
            omega
          exact ⟨j, wideN m - 1, by rw [if_pos q], by rw [if_pos q]; omega⟩
        · exact ⟨j + shortN m, wideN m, by rw [if_neg q], by rw [if_neg q]; omega⟩
      have hv : v < 2 ^ 62 := by
        have : shortN m < m := short_lt hm
        split at hs <;> omega
      have hs6 : s ≤ 6 := by split at hs <;> omega
      refine' joinG2 (fun (T : Addr) (H4 : Hp) => Same H3 H4 ∧ H4 T = some (.tup [.int (v : Nat), .int (s : Nat)])) ?main ?rest
      case main =>
        intro key
        refine ⟨_, rfl, _, rfl, _, rfl, _, _, rfl, rfl, _, _, rfl, rfl, _, rfl, ?_⟩
        rw [es]
        by_cases q : j < shortN m
        · rw [if_pos q] at hs
          refine iteDT (by omega) ⟨_, rfl, _, rfl, _, _, rfl, rfl, (by show 2 ≤ sizeLine; omega), fun T nT => ?_⟩
          have e1 : (0 : Int) + (j : Int) = ((v : Nat) : Int) := by omega
          have e2 : (c : Int) - 1 = ((s : Nat) : Int) := by omega
          dsimp only
          have hh : Same H3 (upd H3 T (.tup [.int (0 + (j : Int)), .int ((c : Int) - 1)])) ∧ (upd H3 T (.tup [.int (0 + (j : Int)), .int ((c : Int) - 1)])) T = some (.tup [.int (v : Nat), .int (s : Nat)]) := ⟨same_new nT _, by rw [← e1, ← e2]; exact upd_same⟩
          generalize upd H3 T (.tup [.int (0 + (j : Int)), .int ((c : Int) - 1)]) = H4 at *
          exact key T H4 hh
        · rw [if_neg q] at hs
          refine iteDF (by omega) ⟨_, rfl, _, rfl, _, _, rfl, rfl, _, rfl, _, _, rfl, rfl, _, rfl, (by show 2 ≤ sizeLine; omega), fun T nT => ?_⟩
          have e1 : (0 : Int) + (j : Int) + ((2 ^ c : Nat) : Int) - (m : Int) = ((v : Nat) : Int) := by omega
          dsimp only
          rw [e1]
          have hh : Same H3 (upd H3 T (.tup [.int (v : Nat), .int (c : Nat)])) ∧ (upd H3 T (.tup [.int (v : Nat), .int (c : Nat)])) T = some (.tup [.int (v : Nat), .int (s : Nat)]) := ⟨same_new nT _, by rw [hs.2]; exact upd_same⟩
          generalize upd H3 T (.tup [.int (v : Nat), .int (c : Nat)]) = H4 at *
          exact key T H4 hh
      case rest =>
        intro T H4 ⟨s4, eT⟩
        refine ⟨T, _, rfl, .inl (.inl eT), rfl, _, _, rfl, _, _, rfl, rfl, ?_⟩
        refine ⟨_, rfl, _, rfl, by omega, by omega, ?_⟩
        rw [Int.toNat_natCast]
        refine for_range (lo := 0) (n := s) (fun i σ H5 => ∃ v8, σ = [some (.int (m : Nat)), some (.int (c : Nat)), some (.int ((2 ^ c : Nat) : Int)), some (.ref D), some (.int (0 + (j : Int))), some (.int ((v / 2 ^ i : Nat) : Int)), some (.int (s : Nat)), some (.str (tx (fig v i))), v8] ∧ H5 = H4) ⟨v8, ?_, rfl⟩ ?_ ?_
        · rw [tx_nil, show v / 2 ^ 0 = v by simp]
          rfl
        · rintro i σ H5 hi ⟨v8, rfl, rfl⟩
          have hstr : V.str (toString (((v / 2 ^ i : Nat) : Int) % 2)) = V.str (tx [v / 2 ^ i % 2 == 1]) := by
            rcases Nat.mod_two_eq_zero_or_one (v / 2 ^ i) with h | h
            · rw [show ((v / 2 ^ i : Nat) : Int) % 2 = 0 by omega, h]
              decide +kernel
            · rw [show ((v / 2 ^ i : Nat) : Int) % 2 = 1 by omega, h]
              decide +kernel
          refine ⟨_, rfl, .inl ⟨_, rfl, _, _, rfl, rfl, (by decide : (0 : Int) < 2), _, rfl, ?_, _, rfl, ?_⟩⟩
          · have h2 : (((v / 2 ^ i : Nat) : Int) % 2).natAbs < 2 := by omega
            rcases Nat.lt_or_ge ((((v / 2 ^ i : Nat) : Int) % 2).natAbs) 1 with h | h
            · rw [show (((v / 2 ^ i : Nat) : Int) % 2).natAbs = 0 by omega]
              decide
            · rw [show (((v / 2 ^ i : Nat) : Int) % 2).natAbs = 1 by omega]
              decide
          rw [hstr]
          refine ⟨_, _, rfl, rfl, by rw [tx_len, tx_len, fig_len]; show 1 + i ≤ sizeLine; omega, ?_⟩
          rw [tx_app]
          refine ⟨_, rfl, _, _, rfl, rfl, ⟨by decide, by decide⟩, some (.int (0 + (i : Int))), ?_, rfl⟩
          have ed : ((v / 2 ^ i : Nat) : Int) / 2 = ((v / 2 ^ (i + 1) : Nat) : Int) := by
            rw [Nat.pow_succ, ← Nat.div_div_eq_div_mul, Int.natCast_ediv (v / 2 ^ i) 2]
            rfl
          rw [← ed]
          rfl
        · rintro σ H5 ⟨v8, rfl, rfl⟩
          have eD4 := s4 _ _ eD
          refine ⟨_, rfl, .inl ⟨rfl, _, .inl (.inl eD4)⟩, _, rfl, D, _, _, rfl, rfl, eD4, ?_, _, _, _, _, _, rfl, fun b o ho => ?_, ?_⟩
          · rw [List.length_take]
            omega
          · rw [upd_ne (ne_of_none ho nD)]
            exact s4 _ _ (s3 _ _ ho)
          · rw [upd_same, restsV_take hj, hvs]
    · rintro σ H3 ⟨v4, v5, v6, v7, v8, rfl, s3, eD⟩
      rw [List.take_of_length_le (by unfold restsV; rw [List.length_map, List.length_range]; exact Nat.le_refl _)] at eD
      refine ⟨_, rfl, k D H3 (s0.trans s3) (s0.free nD) eD⟩
end

abbrev s__law_pick : Stmt := topS 21
theorem sc__law_pick : FnScope ["_law_h", "_law_things"] ["_law_h", "_law_things"] (defScope s__law_pick) := ⟨rfl, rfl, rfl, by decide +kernel, rfl, by decide +kernel, by decide +kernel⟩
def sp__law_pick (K : PySem.W.Frag) : Sp := fun vs H Q _ => ∃ (h q t : Addr) (xs : List V), vs = [.ref h, .ref t] ∧ LawH H h q ∧ SqL K H t xs ∧ t ≠ h ∧ t ≠ q ∧ xs ≠ [] ∧ xs.length ≤ 1000 ∧
  ∀ (k : Nat) (x : V) (H' : Hp), xs[k]? = some x → LawH H' h q → Sm h q H H' → Q x H'
theorem pickI {K : PySem.W.Frag} {H0 : Hp} {h q t : Addr} {xs : List V} {Q : VK} (L : LawH H0 h q) (nt : H0 t = none) (hx : xs ≠ []) (hl : xs.length ≤ 1000) (k : ∀ x ∈ xs, ∀ H', LawH H' h q → Sm h q H0 H' → Q x H') : sp__law_pick K [.ref h, .ref t] (upd H0 t (.lst xs)) Q E0 := by
  have s3 := same_new nt (.lst xs)
  obtain ⟨hne, st, ix, cells, eh, eq, _⟩ := id L
  exact ⟨h, q, t, _, rfl, L.same s3, .inl (.inl upd_same), ne_new eh nt, ne_new eq nt, hx, hl, fun j x H3 ex L3 S3 => k x (List.mem_of_getElem? ex) H3 L3 (Sm.trans (Sm.of s3) S3)⟩
section
variable {P : Program} {w : World} {K : PySem.W.Frag} {mg : Str → Option Value} {base : Heap}
theorem ok__law_pick (A : At K mg "_law_pick" s__law_pick ["_law_h", "_law_things"]) (B : Bn mg) (H__law_next : CalE P w K mg base "_law_next" ["_law_h", "_law_cap"] 1 (sp__law_next K)) : CalE P w K mg base "_law_pick" ["_law_h", "_law_things"] 2 (sp__law_pick K) := by
  obtain ⟨f, fd, F, gF, bF⟩ := A
  obtain ⟨f__law_next, fd__law_next, G__law_next⟩ := H__law_next
  refine ⟨f, fd, F.ok sc__law_pick (fun vs H Q E h => ?_) (fun cdv A outer s H vs Q E hr h => ?_), gF, F.kp, bF⟩
  · repeat (first | (obtain ⟨rfl, _⟩ := h; rfl) | (obtain ⟨_, h⟩ := h))
  · obtain ⟨h, q, t, xs, rfl, L, hS, n1, n2, hx, hl, k⟩ := h
    have hp : 0 < xs.length := List.length_pos_iff.mpr hx
    refine ⟨_, (pss_one (ps_ret (pe_ix (ix_list_ K) (pv 1) (pe_call G__law_next.ok (hr.mono (by first | decide | exact Nat.le_refl _)) (by rfl) G__law_next.g G__law_next.kp G__law_next.b .nil pass0 (pa_cons (pv 0) (pa_cons (pe_callB (call_len_seq_ K) (by rfl) B.len_ (by decide +kernel) (pa_cons (pv 1) pa_nil)) pa_nil))) (fun _ _ => rfl)))), ?_⟩
    refine ⟨_, rfl, _, rfl, _, rfl, t, xs, rfl, .inl hS, h, q, _, rfl, L, by omega, by omega, fun j H' j0 j1 L' S' => ?_⟩
    obtain ⟨i, rfl⟩ : ∃ i : Nat, j = (i : Int) := ⟨j.toNat, by omega⟩
    have hi : i < xs.length := by omega
    have ex : xs[i]? = some xs[i] := List.getElem?_eq_getElem hi
    exact ⟨t, xs, _, _, rfl, rfl, S'.seq n1 n2 hS, atI_nat ex, k i _ H' ex L' S'⟩
end

abbrev s__law_ends : Stmt := topS 23
theorem sc__law_ends : FnScope ["_law_rests_here", "_law_text", "_law_begin", "_law_found", "_law_at", "_law_k", "_law_here", "_law_some", "_law_rest"] ["_law_rests_here", "_law_text", "_law_begin"] (defScope s__law_ends) := ⟨rfl, rfl, rfl, by decide +kernel, rfl, by decide +kernel, by decide +kernel⟩
def sp__law_ends (K : PySem.W.Frag) : Sp := fun vs H Q _ => ∃ (m : Nat) (R : Addr) (l : List Bool) (b : Nat), vs = [.ref R, .str (tx l), .int (b : Nat)] ∧ 1 ≤ m ∧ m ≤ 64 ∧ SqL K H R (restsV m) ∧ l.length ≤ 10000 ∧ b ≤ l.length ∧
  ∀ (D : Addr) (H' : Hp), Same H H' → H D = none → H' D = some (.lst ((endsN m l b).map fun e => V.int (e : Nat))) → Q (.ref D) H'
section
variable {P : Program} {w : World} {K : PySem.W.Frag} {mg : Str → Option Value} {base : Heap}
theorem ok__law_ends (A : At K mg "_law_ends" s__law_ends ["_law_rests_here", "_law_text", "_law_begin"]) (B : Bn mg) : CalE P w K mg base "_law_ends" ["_law_rests_here", "_law_text", "_law_begin"] 1 (sp__law_ends K) := by
  obtain ⟨f, fd, F, gF, bF⟩ := A
  refine ⟨f, fd, F.ok sc__law_ends (fun vs H Q E h => ?_) (fun cdv A outer s H vs Q E hr h => ?_), gF, F.kp, bF⟩
  · repeat (first | (obtain ⟨rfl, _⟩ := h; rfl) | (obtain ⟨_, h⟩ := h))
  · obtain ⟨m, R, l, b, rfl, m1, m64, hR, hl, hb, k⟩ := h
    have hsz := sizeLine_eq
    have tl : (tx l).length ≤ sizeLine := by rw [tx_len]; omega
    have h6 := wide_64 m64
    refine ⟨_, (pss_cons (ps_par (i := 3) (j := 4) (by rfl) sc__law_ends.nd rfl rfl (by decide) rfl rfl (pa_cons (pe_lst pa_nil) (pa_cons (pv 2) pa_nil)) (by rfl))
      (pss_cons (ps_for PassesOwn.never rfl (pi_range1 (by rfl) B.range_ (pa_cons (pe_callB call_len_str_ (by rfl) B.len_ (by decide +kernel) (pa_cons (pv 1) pa_nil)) pa_nil)) (pg_name (i := 5) sc__law_ends.nd rfl (.inl rfl))
      (pss_cons (ps_set (i := 6) sc__law_ends.nd rfl (.inr rfl) (pv 4))
      (pss_cons (ps_while PassesOwn.never (pt_cmpR op_eq (pe_slice sl_str (pv 1) (po_some (pv 6)) (po_some (pe_op op_add (pv 6) pe_int))) pe_str (nomark _))
      (pss_one (ps_set (i := 6) sc__law_ends.nd rfl (.inr rfl) (pe_op op_add (pv 6) pe_int))))
      (pss_cons (ps_setLc (i := 7) (own := [("_law_rest", 8)]) (g := gName 8) (tt := _) rfl sc__law_ends.nd rfl rfl (sw_true rfl rfl rfl (by decide +kernel)) (pi_list (pv 0)) (blkOk_by (own := [("_law_rest", 8)]) (N := ["_law_rests_here", "_law_text", "_law_begin", "_law_found", "_law_at", "_law_k", "_law_here", "_law_some", "_law_rest"]) (sc := defScope s__law_ends) (by decide +kernel)) (fun _ _ _ _ _ => (pg_name (i := 8) sc__law_ends.nd rfl (.inl rfl))) (fun _ _ _ _ _ => (pts_one (PW.pt (pw_and (pt_cmpR op_lt (pv 6) (pe_callB call_len_str_ (by rfl) B.len_ (by decide +kernel) (pa_cons (pv 1) pa_nil)) (nomark _)) (pw_and1 (pt_cmpR op_eq (pe_slice sl_str (pv 1) (po_some (pe_op op_add (pv 6) pe_int)) (po_some (pe_op op_add (pe_op op_add (pv 6) pe_int) (pe_callB call_len_str_ (by rfl) B.len_ (by decide +kernel) (pa_cons (pv 8) pa_nil))))) (pv 8) (nomark _))))))) (fun _ _ _ _ _ => (pv 8)))
      (pss_one (ps_if (pt_cmpR (op_neD_ K hr.units) (pv 7) (pe_lst pa_nil) (nomark _))
      (pss_cons (ps_set (i := 4) sc__law_ends.nd rfl (.inl rfl) (pe_op op_add (pe_op op_add (pv 6) pe_int) (pe_callB call_len_str_ (by rfl) B.len_ (by decide +kernel) (pa_cons (pe_ix (ix_list_ K) (pv 7) pe_int (fun _ _ => rfl)) pa_nil))))
      (pss_one (ps_expr (pe_bm PySem.F.plainAttrs_list PySem.F.slot_list_append PySem.F.type_list_append mt_append (pv 3) (pa_cons (pv 4) pa_nil)))))
      (pss_one (ps_ret (pv 3)))))))))
      (pss_one (ps_ret (pv 3))))), ?_⟩
    refine ⟨(by show 0 ≤ sizeLine; omega), fun D nD => ⟨_, rfl, _, _, rfl, ?_⟩⟩
    refine ⟨_, rfl, _, rfl, tl, (l.length : Nat), by rw [tx_len], by omega, by omega, ?_⟩
    rw [Int.toNat_natCast]
    refine for_range (lo := 0) (n := l.length) (fun j σ H2 => ∃ (a : Nat) (done : List Nat) (v5 v6 v7 v8 : Option V), σ = [some (.ref R), some (.str (tx l)), some (.int (b : Nat)), some (.ref D), some (.int (a : Nat)), v5, v6, v7, v8] ∧ a ≤ l.length ∧ b + j ≤ a ∧ Same H H2 ∧ H2 D = some (.lst (done.map fun e => V.int (e : Nat))) ∧ done.length = j ∧ endsN m l b = done ++ endsN m l a) ⟨b, [], _, _, _, _, rfl, hb, Nat.le_refl _, same_new nD _, upd_same, rfl, rfl⟩ ?_ ?_
    · rintro j σ H2 hj ⟨a, done, v5, v6, v7, v8, rfl, ha, hba, s2, eD, hdl, hend⟩
      obtain ⟨kk, hkk⟩ : ∃ kk, onesN (l.drop a) = kk := ⟨_, rfl⟩
      have ol := ones_le (l.drop a)
      rw [hkk, List.length_drop] at ol
      have om : ∀ i, i ≤ kk → ((l[a + i]? = some true) ↔ i < kk) := fun i hi => by rw [← hkk] at hi ⊢; exact ones_more hi
      refine ⟨_, rfl, ?_⟩
      refine ⟨fun x σ H3 => ∃ i : Nat, x = kk - i ∧ i ≤ kk ∧ σ = [some (.ref R), some (.str (tx l)), some (.int (b : Nat)), some (.ref D), some (.int (a : Nat)), some (.int (0 + (j : Int))), some (.int ((a + i : Nat) : Int)), v7, v8] ∧ H3 = H2, ⟨kk, 0, rfl, Nat.zero_le _, rfl, rfl⟩, ?_⟩
      rintro x σ H3 ⟨i, rfl, hi, rfl, rfl⟩
      refine ⟨_, rfl, _, rfl, _, rfl, _, rfl, _, _, rfl, rfl, _, rfl, _, rfl, tl, rfl, _, rfl, ?_⟩
      have ebit : (V.str (cutS (tx l) (some ((a + i : Nat) : Int)) (some (((a + i : Nat) : Int) + 1))) = V.str ("1" : Str)) ↔ l[a + i]? = some true := by
        rw [cut_at, tx_one]
        exact ⟨fun z => (at_is _).mp (V.str.inj z), fun z => congrArg V.str ((at_is _).mpr z)⟩
      by_cases cb : l[a + i]? = some true
      · have cb' := (om i hi).mp cb
        refine iteDT (ebit.mpr cb) ?_
        refine ⟨fun σ' H' => ∃ j' : Nat, j' = i + 1 ∧ σ' = [some (.ref R), some (.str (tx l)), some (.int (b : Nat)), some (.ref D), some (.int (a : Nat)), some (.int (0 + (j : Int))), some (.int ((a + j' : Nat) : Int)), v7, v8] ∧ H' = H3, fun σ' H' ⟨j', e0, e1, e2⟩ => ⟨kk - j', by omega, j', rfl, by omega, e1, e2⟩, ?_⟩
        exact ⟨_, rfl, _, _, rfl, rfl, i + 1, rfl, rfl, rfl⟩
      refine iteDF (fun z => cb (ebit.mp z)) ?_
      have ei : i = kk := by
        have : ¬ i < kk := fun z => cb ((om i hi).mpr z)
        omega
      subst ei
      have fl : ∀ n, ((List.range n).filter (fitR m l (a + i))).length ≤ n := fun n => by
        have := List.length_filter_le (fitR m l (a + i)) (List.range n)
        rwa [List.length_range] at this
      refine ⟨_, rfl, R, rfl, ⟨_, s2.seq hR⟩, fun E nE => ?_⟩
      have nE0 : H E = none := s2.free nE
      refine lc_list (K := K) (a := R) (xs := restsV m) (fun r H' => Same H3 H' ∧ H' E = some (.lst (((List.range r).filter (fitR m l (a + i))).map fun r => V.str (tx (restB m r))))) ⟨same_new nE _, upd_same⟩ (fun r H' _ h => (s2.trans h.1).seq hR) ?_ ?_
      · rintro r y H4 hy ⟨s4, e4⟩
        have hrm : r < m := by
          have := (List.getElem?_eq_some_iff.mp hy).1
          unfold restsV at this
          rw [List.length_map, List.length_range] at this
          exact this
        have hy' : y = V.str (tx (restB m r)) := by
          unfold restsV at hy
          rw [List.getElem?_map, List.getElem?_range hrm] at hy
          exact (Option.some.inj hy).symm
        subst hy'
        have rl := rest_len_le m r
        have tr : (tx (restB m r)).length ≤ sizeLine := by rw [tx_len]; omega
        have yes : fitR m l (a + i) r = true → Same H3 H4 ∧ ∃ acc, H4 E = some (.lst acc) ∧ acc.length < sizeLine ∧ (Same H3 (upd H4 E (.lst (acc ++ [V.str (tx (restB m r))]))) ∧ (upd H4 E (.lst (acc ++ [V.str (tx (restB m r))]))) E = some (.lst (((List.range (r + 1)).filter (fitR m l (a + i))).map fun r => V.str (tx (restB m r))))) := fun hf => by
          refine ⟨s4, _, e4, ?_, fun b' u hb' => ?_, ?_⟩
          · rw [List.length_map]
            have := fl r
            omega
          · rw [upd_ne (ne_of_none hb' nE)]
            exact s4 _ _ hb'
          · rw [upd_same, List.range_succ, List.filter_append, List.map_append]
            simp only [List.filter_cons, hf, if_true, List.filter_nil, List.map_cons, List.map_nil]
        have no : fitR m l (a + i) r = false → Same H3 H4 ∧ H4 E = some (.lst (((List.range (r + 1)).filter (fitR m l (a + i))).map fun r => V.str (tx (restB m r)))) := fun hf => by
          refine ⟨s4, ?_⟩
          rw [e4, List.range_succ, List.filter_append, List.map_append]
          simp only [List.filter_cons, hf, List.filter_nil, List.map_nil, List.append_nil, Bool.false_eq_true, if_false]
        refine ⟨rfl, _, rfl, _, rfl, _, rfl, tl, _, _, rfl, rfl, _, rfl, ?_⟩
        by_cases c1 : a + i < l.length
        · refine iteDT (by rw [tx_len]; omega) ?_
          refine ⟨_, rfl, _, rfl, _, _, rfl, rfl, _, rfl, _, rfl, _, _, rfl, rfl, _, rfl, _, rfl, tr, _, _, rfl, rfl, _, rfl, _, rfl, tl, ?_⟩
          have ecut : cutS (tx l) (some (((a + i : Nat) : Int) + 1)) (some (((a + i : Nat) : Int) + 1 + ((tx (restB m r)).length : Int))) = tx ((l.drop (a + i + 1)).take (restB m r).length) := by
            rw [tx_len, show ((a + i : Nat) : Int) + 1 = ((a + i + 1 : Nat) : Int) by omega, show ((a + i + 1 : Nat) : Int) + ((restB m r).length : Int) = ((a + i + 1 + (restB m r).length : Nat) : Int) by omega, cut_tx, Nat.add_sub_cancel_left]
          refine ⟨_, rfl, rfl, _, rfl, ?_⟩
          by_cases c2 : (l.drop (a + i + 1)).take (restB m r).length = restB m r
          · refine iteDT (by rw [ecut, c2]) ?_
            obtain ⟨_, q⟩ := yes (by unfold fitR; rw [decide_eq_true c1, decide_eq_true c2]; rfl)
            exact ⟨_, rfl, q⟩
          · refine iteDF (fun z => c2 (tx_inj (by rw [← ecut]; exact V.str.inj z))) ?_
            exact no (by unfold fitR; rw [decide_eq_false c2, Bool.and_false])
        · refine iteDF (by rw [tx_len]; omega) ?_
          exact no (by unfold fitR; rw [decide_eq_false c1, Bool.false_and])
      · rintro H4 ⟨s4, e4⟩
        rw [show (restsV m).length = m by unfold restsV; rw [List.length_map, List.length_range]] at e4
        have S4 := s2.trans s4
        have eD4 := s4 _ _ eD
        have nED : E ≠ D := fun z => by rw [z, eD] at nE; cases nE
        clear s2 s4 eD nE
        refine ⟨_, rfl, (by show 0 ≤ sizeLine; omega), fun F nF => ?_⟩
        have s5 := same_new nF (.lst [])
        have hF : Dp K (upd H4 F (.lst [])) (.ref F) (.list []) := .lst SqL.new .nil
        generalize upd H4 F (.lst []) = H5 at *
        have S5 := S4.trans s5
        have eD5 := s5 _ _ eD4
        have e5 := s5 _ _ e4
        have e5' : H5 E = some (.lst ((((List.range m).filter (fitR m l (a + i))).map (restB m)).map fun l => V.str (tx l))) := by
          rw [List.map_map]
          exact e5
        refine ⟨_, _, txs_dp (.inl (.inl e5')), hF, ok_shaped (txs_ok 0 _) (by decide), ok_shaped (txs_ok 0 []) (by decide), _, rfl, ?_⟩
        rw [eqv_nil]
        cases hf : feN m l a with
        | none =>
          have ef : (List.range m).filter (fitR m l (a + i)) = [] := List.filter_eq_nil_iff.mpr fun r hr => by
            rw [fit_none m1 hkk hf r (List.mem_range.mp hr)]
            decide
          rw [ef]
          refine iteF ?_
          rw [endsN_none hf, List.append_nil] at hend
          rw [← hend] at eD5
          exact ⟨_, rfl, k D H5 S5 nD eD5⟩
        | some p =>
          obtain ⟨n, e⟩ := p
          obtain ⟨r, rs, ef, he⟩ := fit_some m1 ha hkk hf
          obtain ⟨h1, h2, _⟩ := rd_bound m1 ha hf
          rw [ef] at e5
          rw [ef]
          refine iteT ?_
          have rl := rest_len_le m r
          have tr : (tx (restB m r)).length ≤ sizeLine := by rw [tx_len]; omega
          refine ⟨_, rfl, _, _, rfl, rfl, _, rfl, E, _, (0 : Int), _, rfl, rfl, .inl (.inl e5), atI_nat (j := 0) (v := V.str (tx (restB m r))) rfl, _, rfl, tr, _, _, rfl, rfl, ?_⟩
          refine to_nx (σ' := [some (.ref R), some (.str (tx l)), some (.int (b : Nat)), some (.ref D), some (.int (e : Nat)), some (.int (0 + (j : Int))), some (.int ((a + i : Nat) : Int)), some (.ref E), v8]) ?_ ?_
          · have ee : (((a + i : Nat) : Int) + 1 + ((tx (restB m r)).length : Int)) = ((e : Nat) : Int) := by
              rw [tx_len]
              omega
            rw [← ee]
            rfl
          refine ⟨_, rfl, .inl ⟨rfl, _, .inl (.inl eD5)⟩, _, rfl, D, _, _, rfl, rfl, eD5, ?_, ?_⟩
          · rw [List.length_map]
            omega
          refine ⟨e, done ++ [e], _, _, _, _, rfl, h2, by omega, fun b' u hb' => ?_, ?_, by rw [List.length_append, hdl]; rfl, ?_⟩
          · rw [upd_ne (ne_of_none hb' nD)]
            exact S5 _ _ hb'
          · rw [upd_same, List.map_append]
            rfl
          · rw [hend, endsN_some m1 ha hf, List.append_assoc]
            rfl
    · rintro σ H2 ⟨a, done, v5, v6, v7, v8, rfl, ha, hba, s2, eD, hdl, hend⟩
      have ea : a = l.length := by omega
      rw [ea, endsN_end, List.append_nil] at hend
      rw [← hend] at eD
      exact ⟨_, rfl, k D H2 s2 nD eD⟩
end

abbrev s__law_is_sure : Stmt := topS 26
theorem sc__law_is_sure : FnScope ["_law_rests_here", "_law_begins_here", "_law_text", "_law_begin"] ["_law_rests_here", "_law_begins_here", "_law_text"] (defScope s__law_is_sure) := ⟨rfl, rfl, rfl, by decide +kernel, rfl, by decide +kernel, by decide +kernel⟩
def sp__law_is_sure (K : PySem.W.Frag) : Sp := fun vs H Q _ => ∃ (m : Nat) (R B : Addr) (v : List Bool) (bs : List (List Bool)), vs = [.ref R, .ref B, .str (tx v)] ∧ 1 ≤ m ∧ m ≤ 64 ∧ SqL K H R (restsV m) ∧ SqL K H B (bs.map fun b => V.str (tx b)) ∧ v.length ≤ 1000 ∧ (∀ b ∈ bs, b.length ≤ 1000) ∧
  ∀ H', Same H H' → Q (.bl (decide (∀ b ∈ bs, run m AtE (b ++ v) = AtE))) H'
section
variable {P : Program} {w : World} {K : PySem.W.Frag} {mg : Str → Option Value} {base : Heap}
theorem ok__law_is_sure (A : At K mg "_law_is_sure" s__law_is_sure ["_law_rests_here", "_law_begins_here", "_law_text"]) (B : Bn mg) (H__law_ends : CalE P w K mg base "_law_ends" ["_law_rests_here", "_law_text", "_law_begin"] 1 (sp__law_ends K)) : CalE P w K mg base "_law_is_sure" ["_law_rests_here", "_law_begins_here", "_law_text"] 2 (sp__law_is_sure K) := by
  obtain ⟨f, fd, F, gF, bF⟩ := A
  obtain ⟨f__law_ends, fd__law_ends, G__law_ends⟩ := H__law_ends
  refine ⟨f, fd, F.ok sc__law_is_sure (fun vs H Q E h => ?_) (fun cdv A outer s H vs Q E hr h => ?_), gF, F.kp, bF⟩
  · repeat (first | (obtain ⟨rfl, _⟩ := h; rfl) | (obtain ⟨_, h⟩ := h))
  · obtain ⟨m, R, Bg, v, bs, rfl, m1, m64, hR, hB, hv, hbs, k⟩ := h
    have hsz := sizeLine_eq
    refine ⟨_, (pss_cons (ps_for PassesOwn.never rfl (pi_list (pv 1)) (pg_name (i := 3) sc__law_is_sure.nd rfl (.inl rfl))
      (pss_one (ps_if (pt_cmpR (op_notIn_seq_ K) (pe_callB call_len_str_ (by rfl) B.len_ (by decide +kernel) (pa_cons (pe_op op_add_str (pv 3) (pv 2)) pa_nil)) (pe_op op_cat (pe_lst (pa_cons pe_int pa_nil)) (pe_call G__law_ends.ok (hr.mono (by first | decide | exact Nat.le_refl _)) (by rfl) G__law_ends.g G__law_ends.kp G__law_ends.b .nil pass0 (pa_cons (pv 0) (pa_cons (pe_op op_add_str (pv 3) (pv 2)) (pa_cons pe_int pa_nil))))) (by rfl))
      (pss_one (ps_ret pe_bl))
      pss_nil)))
      (pss_one (ps_ret pe_bl))), ?_⟩
    refine ⟨_, rfl, Bg, rfl, ⟨_, hB⟩, for_list (K := K) (a := Bg) (xs := bs.map fun b => V.str (tx b)) (fun j σ H' => ∃ (v3 : Option V), σ = [some (.ref R), some (.ref Bg), some (.str (tx v)), v3] ∧ Same H H' ∧ ∀ b ∈ bs.take j, run m AtE (b ++ v) = AtE) ⟨_, rfl, .refl _, (fun b hb => by cases hb)⟩ (fun j σ H' _ ⟨_, _, s, _⟩ => s.seq hB) ?_ ?_⟩
    · rintro j y σ H2 hy ⟨v3, rfl, s2, hall⟩
      rw [List.getElem?_map] at hy
      obtain ⟨b, hb, rfl⟩ : ∃ b, bs[j]? = some b ∧ y = V.str (tx b) := by
        cases e : bs[j]? with
        | none => rw [e] at hy; cases hy
        | some b => rw [e] at hy; exact ⟨b, rfl, (Option.some.inj hy).symm⟩
      have hbm := List.mem_of_getElem? hb
      have hbl := hbs b hbm
      have bvl : (b ++ v).length ≤ 2000 := by rw [List.length_append]; omega
      refine ⟨_, rfl, _, rfl, _, _, rfl, rfl, by rw [tx_len, tx_len]; omega, ?_⟩
      rw [tx_app]
      refine ⟨_, rfl, by rw [tx_len]; omega, (by show 1 ≤ sizeLine; omega), fun A1 nA1 => ?_⟩
      have s3 := same_new nA1 (.lst [.int 0])
      have eA1 : (upd H2 A1 (.lst [.int 0])) A1 = some (.lst [.int 0]) := upd_same
      generalize upd H2 A1 (.lst [.int 0]) = H3 at *
      refine ⟨_, rfl, _, rfl, _, rfl, _, _, rfl, rfl, by rw [tx_len, tx_len]; omega, ?_⟩
      rw [tx_app]
      refine ⟨m, R, b ++ v, 0, rfl, m1, m64, (s2.trans s3).seq hR, by omega, Nat.zero_le _, fun D H4 s4 nD eD => ?_⟩
      have hel : (endsN m (b ++ v) 0).length ≤ (b ++ v).length := by
        rw [endsN_eq m1 (Nat.zero_le _)]
        have := List.length_filter_le (fun e => decide (run m AtE (((b ++ v).drop 0).take (e - 0)) = AtE)) (List.range' (0 + 1) ((b ++ v).length - 0))
        rw [List.length_range'] at this
        omega
      refine ⟨A1, D, _, _, rfl, rfl, s4 _ _ eA1, eD, by rw [List.length_map]; show 1 + _ ≤ sizeLine; omega, fun Y nY => ?_⟩
      have s5 := same_new nY (.lst ([V.int 0] ++ (endsN m (b ++ v) 0).map fun e => V.int (e : Nat)))
      have eY : (upd H4 Y (.lst ([V.int 0] ++ (endsN m (b ++ v) 0).map fun e => V.int (e : Nat)))) Y = some (.lst ((0 :: endsN m (b ++ v) 0).map fun e => V.int (e : Nat))) := upd_same
      generalize upd H4 Y (.lst ([V.int 0] ++ (endsN m (b ++ v) 0).map fun e => V.int (e : Nat))) = H5 at *
      refine ⟨Y, _, rfl, .inl (.inl (.inl eY)), rfl, flat_ints _, ?_⟩
      rw [tx_len, inV_dec]
      have hin : (b ++ v).length ∈ 0 :: endsN m (b ++ v) 0 ↔ run m AtE (b ++ v) = AtE := by
        rw [List.mem_cons, mem_endsN m1 (Nat.zero_le _), List.drop_zero, Nat.sub_zero, List.take_length]
        constructor
        · rintro (h | ⟨_, _, h⟩)
          · rw [List.length_eq_zero_iff.mp h]
            rfl
          · exact h
        · intro h
          by_cases c : (b ++ v).length = 0
          · exact .inl c
          · exact .inr ⟨by omega, Nat.le_refl _, h⟩
      have S5 := ((s2.trans s3).trans s4).trans s5
      by_cases c : run m AtE (b ++ v) = AtE
      · refine ⟨_, rfl, iteNF (hin.mpr c) ⟨_, rfl, S5, fun x hx => ?_⟩⟩
        rw [take_more hb] at hx
        rcases List.mem_append.mp hx with z | z
        · exact hall x z
        · rw [List.mem_singleton.mp z]
          exact c
      · refine ⟨_, rfl, iteND (fun z => c (hin.mp z)) ?_⟩
        have := k H5 S5
        rw [decide_eq_false fun z => c (z b hbm)] at this
        exact this
    rintro σ H2 ⟨v3, rfl, s2, hall⟩
    rw [List.length_map, List.take_length] at hall
    have := k H2 s2
    rw [decide_eq_true hall] at this
    exact this
end

abbrev s__law_texts : Stmt := topS 24
theorem sc__law_texts : FnScope ["_law_signs", "_law_found", "_law_k", "_law_longer", "_law_text"] ["_law_signs"] (defScope s__law_texts) := ⟨rfl, rfl, rfl, by decide +kernel, rfl, by decide +kernel, by decide +kernel⟩
def sp__law_texts (K : PySem.W.Frag) : Sp := fun vs H Q _ => ∃ n : Nat, vs = [.int (n : Nat)] ∧ n ≤ 10 ∧
  ∀ (D : Addr) (H' : Hp), Same H H' → H D = none → H' D = some (.lst ((allF n).map fun f => V.str (tx f))) → Q (.ref D) H'
theorem allF_len : ∀ n, (allF n).length = 2 ^ n
  | 0 => rfl
  | n + 1 => by
    rw [allF, List.length_append, List.length_map, List.length_map, allF_len n, Nat.pow_succ]
    omega
section
variable {P : Program} {w : World} {K : PySem.W.Frag} {mg : Str → Option Value} {base : Heap}
theorem ok__law_texts (A : At K mg "_law_texts" s__law_texts ["_law_signs"]) (B : Bn mg) : CalE P w K mg base "_law_texts" ["_law_signs"] 1 (sp__law_texts K) := by
  obtain ⟨f, fd, F, gF, bF⟩ := A
  refine ⟨f, fd, F.ok sc__law_texts (fun vs H Q E h => ?_) (fun cdv A outer s H vs Q E hr h => ?_), gF, F.kp, bF⟩
  · repeat (first | (obtain ⟨rfl, _⟩ := h; rfl) | (obtain ⟨_, h⟩ := h))
  · obtain ⟨n, rfl, hn, k⟩ := h
    have hsz := sizeLine_eq
    have pw : (2 : Nat) ^ 10 = 1024 := by decide
    have elen : ∀ i, i ≤ 10 → (allF i).length ≤ 1024 := fun i hi => by
      rw [allF_len]
      exact Nat.le_trans (Nat.pow_le_pow_right (by decide) hi) (Nat.le_of_eq pw)
    have l1 : ("0" : Str).length = 1 := by decide +kernel
    have l2 : ("1" : Str).length = 1 := by decide +kernel
    refine ⟨_, (pss_cons (ps_set (i := 1) sc__law_texts.nd rfl (.inl rfl) (pe_lst (pa_cons pe_str pa_nil)))
      (pss_cons (ps_for PassesOwn.never rfl (pi_range1 (by rfl) B.range_ (pa_cons (pv 0) pa_nil)) (pg_name (i := 2) sc__law_texts.nd rfl (.inl rfl))
      (pss_cons (ps_set (i := 3) sc__law_texts.nd rfl (.inl rfl) (pe_lst pa_nil))
      (pss_cons (ps_for PassesOwn.never rfl (pi_list (pv 1)) (pg_name (i := 4) sc__law_texts.nd rfl (.inl rfl))
      (pss_one (ps_set (i := 3) sc__law_texts.nd rfl (.inl rfl) (pe_op op_cat (pv 3) (pe_lst (pa_cons (pe_op op_add_str (pv 4) pe_str) (pa_cons (pe_op op_add_str (pv 4) pe_str) pa_nil)))))))
      (pss_one (ps_set (i := 1) sc__law_texts.nd rfl (.inl rfl) (pv 3))))))
      (pss_one (ps_ret (pv 1))))), ?_⟩
    refine ⟨(by show 1 ≤ sizeLine; omega), fun D0 nD0 => ?_⟩
    refine ⟨_, rfl, _, rfl, by omega, by omega, ?_⟩
    rw [Int.toNat_natCast]
    refine for_range (lo := 0) (n := n) (fun i σ H' => ∃ (D : Addr) (v2 v3 v4 : Option V), σ = [some (.int (n : Nat)), some (.ref D), v2, v3, v4] ∧ Same H H' ∧ H D = none ∧ H' D = some (.lst ((allF i).map fun f => V.str (tx f)))) ⟨D0, _, _, _, rfl, same_new nD0 _, nD0, ?_⟩ ?_ ?_
    · rw [upd_same]
      show _ = some (HO.lst [V.str (tx [])])
      rw [tx_nil]
    · rintro i σ H1 hi ⟨D, v2, v3, v4, rfl, s1, nD, eD⟩
      refine ⟨(by show 0 ≤ sizeLine; omega), fun L0 nL0 => ?_⟩
      have el := elen i (by omega)
      have flen : ∀ j, (((allF i).take j).flatMap snoc2).length ≤ 2048 := fun j => by
        have e : ∀ xs : List (List Bool), (xs.flatMap snoc2).length = 2 * xs.length := fun xs => by
          induction xs with
          | nil => rfl
          | cons a xs ih =>
            rw [List.flatMap_cons, List.length_append, ih, List.length_cons]
            show 2 + _ = _
            omega
        rw [e, List.length_take]
        omega
      refine ⟨_, rfl, D, rfl, ⟨_, .inl (.inl (same_new nL0 _ _ _ eD))⟩, for_list (K := K) (a := D) (xs := (allF i).map fun f => V.str (tx f)) (fun j σ H' => ∃ (L : Addr) (v4 : Option V), σ = [some (.int (n : Nat)), some (.ref D), some (.int (0 + (i : Int))), some (.ref L), v4] ∧ Same H1 H' ∧ H1 L = none ∧ H' L = some (.lst ((((allF i).take j).flatMap snoc2).map fun f => V.str (tx f)))) ⟨L0, _, rfl, same_new nL0 _, nL0, upd_same⟩ (fun j σ H' _ ⟨_, _, _, s, _⟩ => .inl (.inl (s _ _ eD))) ?_ ?_⟩
      · rintro j y σ H2 hy ⟨L, v4, rfl, s2, nL, eL⟩
        rw [List.getElem?_map] at hy
        obtain ⟨f, hf, rfl⟩ : ∃ f, (allF i)[j]? = some f ∧ y = V.str (tx f) := by
          cases e : (allF i)[j]? with
          | none => rw [e] at hy; cases hy
          | some f => rw [e] at hy; exact ⟨f, rfl, (Option.some.inj hy).symm⟩
        have fl : f.length = i := mem_allF.mp (List.mem_of_getElem? hf)
        have fj := flen j
        refine ⟨_, rfl, _, rfl, _, _, rfl, rfl, by rw [tx_len, l1]; omega, _, rfl, _, _, rfl, rfl, by rw [tx_len, l2]; omega, (by show 2 ≤ sizeLine; omega), fun N nN => ?_⟩
        have s3 := same_new nN (.lst [.str (tx f ++ ("0" : Str)), .str (tx f ++ ("1" : Str))])
        have eN : (upd H2 N (.lst [.str (tx f ++ ("0" : Str)), .str (tx f ++ ("1" : Str))])) N = some (.lst ((snoc2 f).map fun g => V.str (tx g))) := by
          rw [upd_same, tx_zero, tx_one, tx_app, tx_app]
          rfl
        have eL3 := s3 _ _ eL
        generalize upd H2 N (.lst [.str (tx f ++ ("0" : Str)), .str (tx f ++ ("1" : Str))]) = H3 at *
        refine ⟨L, N, _, _, rfl, rfl, eL3, eN, by rw [List.length_map, List.length_map]; have : (snoc2 f).length = 2 := rfl; omega, fun M nM => ?_⟩
        refine ⟨M, _, rfl, (s2.trans s3).trans (same_new nM _), (s2.trans s3).free nM, ?_⟩
        rw [upd_same, take_more hf, List.flatMap_append, List.map_append]
        simp
      · rintro σ H2 ⟨L, v4, rfl, s2, nL, eL⟩
        rw [List.length_map, List.take_length, ← allF_snoc] at eL
        exact ⟨_, rfl, L, _, _, _, rfl, s1.trans s2, s1.free nL, eL⟩
    · rintro σ H1 ⟨D, v2, v3, v4, rfl, s1, nD, eD⟩
      exact ⟨_, rfl, k D H1 s1 nD eD⟩
end

abbrev s_law : Stmt := topS 27
theorem sc_law : FnScope ["_law_script", "_law_h", "_law_turn", "_law_step", "_law_found", "_law_rests_here", "_law_begins_here", "_law_signs", "_law_text", "_law_many"] ["_law_script"] (defScope s_law) := ⟨rfl, rfl, rfl, by decide +kernel, rfl, by decide +kernel, by decide +kernel⟩
def sp_law (K : PySem.W.Frag) : Sp := fun vs H Q _ => ∃ (a : Addr) (ns : List Int), vs = [.ref a] ∧ SqL K H a (ns.map V.int) ∧ ns.length ≤ 63 ∧ ∀ H', Q (.bl true) H'
section
variable {P : Program} {w : World} {K : PySem.W.Frag} {mg : Str → Option Value} {base : Heap}
theorem ok_law {f : Addr} {fd : FuncData} (F : Fun K "law" "law" s_law f fd) (B : Bn mg) (H__law_mix : CalE P w K mg base "_law_mix" ["_law_script", "_law_seed"] 1 (sp__law_mix K)) (H__law_next : CalE P w K mg base "_law_next" ["_law_h", "_law_cap"] 1 (sp__law_next K)) (H__law_pick : CalE P w K mg base "_law_pick" ["_law_h", "_law_things"] 2 (sp__law_pick K)) (H_least_sure : CalE P w K mg base "least_sure" ["step"] 5 (sp_least_sure K P w)) (H__law_rests : CalE P w K mg base "_law_rests" ["_law_step"] 1 (sp__law_rests K)) (H__law_begins : CalE P w K mg base "_law_begins" ["_law_rests_here"] 1 (sp__law_begins K)) (H__law_is_sure : CalE P w K mg base "_law_is_sure" ["_law_rests_here", "_law_begins_here", "_law_text"] 2 (sp__law_is_sure K)) (H__law_texts : CalE P w K mg base "_law_texts" ["_law_signs"] 1 (sp__law_texts K)) : FnOk P w K mg base CX0 6 f fd ["_law_script"] (sp_law K) := by
  obtain ⟨f__law_mix, fd__law_mix, G__law_mix⟩ := H__law_mix
  obtain ⟨f__law_next, fd__law_next, G__law_next⟩ := H__law_next
  obtain ⟨f__law_pick, fd__law_pick, G__law_pick⟩ := H__law_pick
  obtain ⟨f_least_sure, fd_least_sure, G_least_sure⟩ := H_least_sure
  obtain ⟨f__law_rests, fd__law_rests, G__law_rests⟩ := H__law_rests
  obtain ⟨f__law_begins, fd__law_begins, G__law_begins⟩ := H__law_begins
  obtain ⟨f__law_is_sure, fd__law_is_sure, G__law_is_sure⟩ := H__law_is_sure
  obtain ⟨f__law_texts, fd__law_texts, G__law_texts⟩ := H__law_texts
  refine F.ok sc_law (fun vs H Q E h => ?_) (fun cdv A outer s H vs Q E hr h => ?_)
  · obtain ⟨a, ns, rfl, _⟩ := h
    rfl
  obtain ⟨a, ns, rfl, hS, hlen, k⟩ := h
  have hsz := sizeLine_eq
  refine ⟨_, (pss_cons (ps_set (i := 1) sc_law.nd rfl (.inl rfl) (pe_call G__law_mix.ok (hr.mono (by first | decide | exact Nat.le_refl _)) (by rfl) G__law_mix.g G__law_mix.kp G__law_mix.b .nil pass0 (pa_cons (pv 0) (pa_cons pe_int pa_nil))))
      (pss_cons (ps_for PassesOwn.never rfl (pi_range1 (by rfl) B.range_ (pa_cons pe_int pa_nil)) (pg_name (i := 2) sc_law.nd rfl (.inl rfl))
      (pss_cons (ps_set (i := 3) sc_law.nd rfl (.inl rfl) (pe_op op_add pe_int (pe_call G__law_next.ok (hr.mono (by first | decide | exact Nat.le_refl _)) (by rfl) G__law_next.g G__law_next.kp G__law_next.b .nil pass0 (pa_cons (pv 1) (pa_cons (pe_call G__law_pick.ok (hr.mono (by first | decide | exact Nat.le_refl _)) (by rfl) G__law_pick.g G__law_pick.kp G__law_pick.b .nil pass0 (pa_cons (pv 1) (pa_cons (pe_lst (pa_cons pe_int (pa_cons pe_int (pa_cons pe_int (pa_cons pe_int pa_nil))))) pa_nil))) pa_nil)))))
      (pss_cons (ps_par (i := 4) (j := 5) (by rfl) sc_law.nd rfl rfl (by decide) rfl rfl (pa_cons (pe_call G_least_sure.ok (hr.mono (by first | decide | exact Nat.le_refl _)) (by rfl) G_least_sure.g G_least_sure.kp G_least_sure.b .nil pass0 (pa_cons (pv 3) pa_nil)) (pa_cons (pe_call G__law_rests.ok (hr.mono (by first | decide | exact Nat.le_refl _)) (by rfl) G__law_rests.g G__law_rests.kp G__law_rests.b .nil pass0 (pa_cons (pv 3) pa_nil)) pa_nil)) (by rfl))
      (pss_cons (ps_set (i := 6) sc_law.nd rfl (.inl rfl) (pe_call G__law_begins.ok (hr.mono (by first | decide | exact Nat.le_refl _)) (by rfl) G__law_begins.g G__law_begins.kp G__law_begins.b .nil pass0 (pa_cons (pv 5) pa_nil)))
      (pss_cons (ps_if (PW.pt (pw_or (pt_not (pt_val (pe_callB (call_isi_ K) (by rfl) B.isinstance_ (by decide +kernel) (pa_cons (pv 4) (pa_cons (pe_bltn (v := .ty "str") (by rfl) B.str_ (by decide +kernel) rfl) pa_nil))))) (pw_or1 (pt_not (pt_val (pe_call G__law_is_sure.ok (hr.mono (by first | decide | exact Nat.le_refl _)) (by rfl) G__law_is_sure.g G__law_is_sure.kp G__law_is_sure.b .nil pass0 (pa_cons (pv 5) (pa_cons (pv 6) (pa_cons (pv 4) pa_nil)))))))))
      (pss_one (ps_ret pe_bl))
      pss_nil)
      (pss_cons (ps_if (PW.pt (pw_and (pt_cmpR op_lt (pe_callB call_len_str_ (by rfl) B.len_ (by decide +kernel) (pa_cons (pv 4) pa_nil)) pe_int (nomark _)) (pw_and1 (pt_cmpR op_lt (pv 3) pe_int (nomark _)))))
      (pss_one (ps_for PassesOwn.never rfl (pi_range2 (by rfl) B.range_ (pa_cons pe_int (pa_cons (pe_op op_add (pe_callB call_len_str_ (by rfl) B.len_ (by decide +kernel) (pa_cons (pv 4) pa_nil)) pe_int) pa_nil))) (pg_name (i := 7) sc_law.nd rfl (.inl rfl))
      (pss_one (ps_for PassesOwn.never rfl (pi_list (pe_call G__law_texts.ok (hr.mono (by first | decide | exact Nat.le_refl _)) (by rfl) G__law_texts.g G__law_texts.kp G__law_texts.b .nil pass0 (pa_cons (pv 7) pa_nil))) (pg_name (i := 8) sc_law.nd rfl (.inl rfl))
      (pss_one (ps_if (PW.pt (pw_and (PW.pt (pw_or (pt_cmpR op_lt (pv 7) (pe_callB call_len_str_ (by rfl) B.len_ (by decide +kernel) (pa_cons (pv 4) pa_nil)) (nomark _)) (pw_or1 (pt_cmpR op_lt_str (pv 8) (pv 4) (nomark _))))) (pw_and1 (pt_val (pe_call G__law_is_sure.ok (hr.mono (by first | decide | exact Nat.le_refl _)) (by rfl) G__law_is_sure.g G__law_is_sure.kp G__law_is_sure.b .nil pass0 (pa_cons (pv 5) (pa_cons (pv 6) (pa_cons (pv 8) pa_nil))))))))
      (pss_one (ps_ret pe_bl))
      pss_nil))))))
      pss_nil)
      (pss_cons (ps_set (i := 9) sc_law.nd rfl (.inl rfl) (pe_callB call_len_str_ (by rfl) B.len_ (by decide +kernel) (pa_cons (pe_ix (ix_list_ K) (pv 5) (pe_op op_sub (pv 3) pe_int) (fun _ _ => rfl)) pa_nil)))
      (pss_one (ps_if (pt_cmpR op_gt (pe_callB call_len_str_ (by rfl) B.len_ (by decide +kernel) (pa_cons (pv 4) pa_nil)) (pe_op op_add (pe_op op_mul pe_int (pv 9)) pe_int) (nomark _))
      (pss_one (ps_ret pe_bl))
      pss_nil)))))))))
      (pss_one (ps_ret pe_bl)))), ?_⟩
  refine ⟨_, rfl, a, ns, 17, rfl, hS, hlen, fun h q H1 s1 n1 n2 L1 => ?_⟩
  refine ⟨3, rfl, by decide, by decide, for_range (lo := 0) (n := 3) (fun i σ H2 => ∃ v2 v3 v4 v5 v6 v7 v8 v9, σ = [some (.ref a), some (.ref h), v2, v3, v4, v5, v6, v7, v8, v9] ∧ LawH H2 h q) ⟨_, _, _, _, _, _, _, _, rfl, L1⟩ ?_ ?_⟩
  rotate_left
  · rintro σ H2 ⟨v2, v3, v4, v5, v6, v7, v8, v9, rfl, L2⟩
    exact k H2
  rintro i σ H2 hi ⟨v2, v3, v4, v5, v6, v7, v8, v9, rfl, L2⟩
  -- the step
  refine ⟨_, rfl, _, rfl, (by show 4 ≤ sizeLine; omega), fun t nt => pickI L2 nt (fun z => by cases z) (by show 4 ≤ 1000; decide) fun x hx H3 L3 S3 => ?_⟩
  obtain ⟨c, rfl, c0, c1⟩ : ∃ c : Nat, x = .int (c : Int) ∧ 1 ≤ c ∧ c ≤ 64 := by
    simp only [List.mem_cons, List.not_mem_nil, or_false] at hx
    rcases hx with rfl | rfl | rfl | rfl <;> exact ⟨_, rfl, by decide, by decide⟩
  refine ⟨h, q, c, rfl, L3, by omega, by omega, fun z H4 z0 z1 L4 S4 => ?_⟩
  obtain ⟨m, em⟩ : ∃ m : Nat, (1 : Int) + z = (m : Int) := ⟨1 + z.toNat, by omega⟩
  have m1 : 1 ≤ m := by omega
  have m64 : m ≤ 64 := by omega
  have h6 := wide_64 m64
  refine ⟨_, _, rfl, rfl, ?_⟩
  refine to_nx (σ' := [some (.ref a), some (.ref h), some (.int (0 + (i : Int))), some (.int (m : Nat)), v4, v5, v6, v7, v8, v9]) (by rw [← em]; rfl) ?_
  clear L3 L2 S3 S4 nt c0 z0 z1 hx em
  refine ⟨_, rfl, m, rfl, m1, m64, fun v H5 s5 hv hmin => ?_⟩
  refine ⟨_, rfl, m, rfl, m1, m64, fun R H6 s6 nR eR => ⟨_, _, rfl, ?_⟩⟩
  have L6 := L4.same (s5.trans s6)
  clear s5 s6 nR L4
  have vlen : v.length ≤ 2 * wideN m + 1 := by
    have := code_len (hmin _ sureV_sure)
    have := sureV_len m
    omega
  refine ⟨_, rfl, m, R, rfl, m64, .inl (.inl eR), fun Bg bs H7 s7 nB eB hbs => ?_⟩
  have L7 := L6.same s7
  have eR7 := s7 _ _ eR
  clear s7 nB L6 eR
  have hbl : ∀ b ∈ bs, b.length ≤ 1000 := fun b hb => by
    have := beg_len m64 ((hbs b).mp hb)
    omega
  have hyes : decide (∀ b ∈ bs, run m AtE (b ++ v) = AtE) = true := decide_eq_true fun b hb => (sure_beg m1 v).mp hv b ((hbs b).mp hb)
  have hno : ∀ u, codeB u < codeB v → decide (∀ b ∈ bs, run m AtE (b ++ u) = AtE) = false := fun u hu => decide_eq_false fun z => by
    have := hmin u ((sure_beg m1 u).mpr fun b hb => z b ((hbs b).mpr hb))
    omega
  have tl : (tx v).length ≤ sizeLine := by rw [tx_len]; omega
  have el : ((tx v).length : Int) = (v.length : Int) := by rw [tx_len]
  refine to_nx (σ' := [some (.ref a), some (.ref h), some (.int (0 + (i : Int))), some (.int (m : Nat)), some (.str (tx v)), some (.ref R), some (.ref Bg), v7, v8, v9]) rfl ?_
  refine ⟨_, rfl, _, _, _, _, true, rfl, .ty _, .base (.str _), kit_ty (by decide +kernel), _, rfl, iteF ?_⟩
  refine ⟨_, rfl, _, rfl, _, rfl, m, R, Bg, v, bs, rfl, m1, m64, .inl (.inl eR7), .inl (.inl eB), by omega, hbl, fun H8 s8 => ?_⟩
  rw [hyes]
  refine ⟨_, rfl, iteF ?_⟩
  have L8 := L7.same s8
  have eR8 := s8 _ _ eR7
  have eB8 := s8 _ _ eB
  clear s8 L7 eR7 eB
  refine' joinG3 (fun (x7 x8 : Option V) (H9 : Hp) => Same H8 H9) ?mb ?rb
  case mb =>
    intro key
    refine ⟨_, rfl, _, rfl, tl, _, _, rfl, rfl, _, rfl, ?_⟩
    by_cases c1 : v.length < 8
    · refine iteDT (by omega) ?_
      refine ⟨_, rfl, _, _, rfl, rfl, _, rfl, ?_⟩
      by_cases c2 : m < 17
      · refine iteDT (by omega) ?_
        refine ⟨_, rfl, _, rfl, tl, _, _, rfl, rfl, _, _, rfl, ⟨by omega, by omega, by omega, by omega⟩, ?_⟩
        rw [show (((tx v).length : Int) + 1 - 1).toNat = v.length by omega]
        refine for_range (lo := 1) (n := v.length) (fun j σ H' => ∃ x7 x8, σ = [some (.ref a), some (.ref h), some (.int (0 + (i : Int))), some (.int (m : Nat)), some (.str (tx v)), some (.ref R), some (.ref Bg), x7, x8, v9] ∧ Same H8 H') ⟨_, _, rfl, .refl _⟩ ?_ ?_
        rotate_left
        · rintro σ H9 ⟨x7, x8, rfl, s9⟩
          exact key x7 x8 H9 s9
        rintro j σ H9 hj ⟨x7, x8, rfl, s9⟩
        rw [show (1 : Int) + (j : Int) = ((1 + j : Nat) : Int) by omega]
        refine ⟨_, rfl, 1 + j, rfl, by omega, fun F H10 s10 nF eF => ?_⟩
        refine ⟨F, rfl, ⟨_, .inl (.inl eF)⟩, for_list (K := K) (a := F) (xs := (allF (1 + j)).map fun f => V.str (tx f)) (fun j2 σ H' => ∃ x8, σ = [some (.ref a), some (.ref h), some (.int (0 + (i : Int))), some (.int (m : Nat)), some (.str (tx v)), some (.ref R), some (.ref Bg), some (.int ((1 + j : Nat) : Int)), x8, v9] ∧ Same H10 H') ⟨_, rfl, .refl _⟩ (fun j σ H' _ ⟨_, _, s⟩ => .inl (.inl (s _ _ eF))) ?_ ?_⟩
        · rintro j2 y σ H11 hy ⟨x8, rfl, s11⟩
          rw [List.getElem?_map] at hy
          obtain ⟨u, hu, rfl⟩ : ∃ f, (allF (1 + j))[j2]? = some f ∧ y = V.str (tx f) := by
            cases e : (allF (1 + j))[j2]? with
            | none => rw [e] at hy; cases hy
            | some f => rw [e] at hy; exact ⟨f, rfl, (Option.some.inj hy).symm⟩
          have ul : u.length = 1 + j := mem_allF.mp (List.mem_of_getElem? hu)
          have S11 := s9.trans (s10.trans s11)
          have no : codeB u < codeB v → ∀ H', Same H11 H' → Same H10 H' := fun _ H' s => s11.trans s
          refine ⟨_, rfl, _, rfl, _, rfl, tl, _, _, rfl, rfl, _, rfl, ?_⟩
          by_cases c3 : 1 + j < v.length
          · refine iteDT (by omega) ?_
            have hlt : codeB u < codeB v := Nat.not_le.mp fun z => by have := code_len z; omega
            refine ⟨_, rfl, _, rfl, _, rfl, m, R, Bg, u, bs, rfl, m1, m64, .inl (.inl (S11 _ _ eR8)), .inl (.inl (S11 _ _ eB8)), by omega, hbl, fun H12 s12 => ?_⟩
            rw [hno u hlt]
            exact ⟨_, rfl, iteF ⟨_, rfl, s11.trans s12⟩⟩
          refine iteDF (by omega) ?_
          refine ⟨_, rfl, _, rfl, _, _, rfl, rfl, _, rfl, ?_⟩
          by_cases c4 : (tx u).cps.toList < (tx v).cps.toList
          · refine iteDT c4 ?_
            have hlt : codeB u < codeB v := Nat.not_le.mp fun z => by
              rw [tx_list, tx_list] at c4
              by_cases c5 : codeB v = codeB u
              · rw [code_inj c5] at c4
                exact List.lt_irrefl _ c4
              · exact ltB_not (code_ltB (by omega) (by omega)) c4
            refine ⟨_, rfl, _, rfl, _, rfl, m, R, Bg, u, bs, rfl, m1, m64, .inl (.inl (S11 _ _ eR8)), .inl (.inl (S11 _ _ eB8)), by omega, hbl, fun H12 s12 => ?_⟩
            rw [hno u hlt]
            exact ⟨_, rfl, iteF ⟨_, rfl, s11.trans s12⟩⟩
          · refine iteDF c4 ?_
            exact ⟨_, rfl, s11⟩
        rintro σ H11 ⟨x8, rfl, s11⟩
        exact ⟨_, _, rfl, s9.trans (s10.trans s11)⟩
      · refine iteDF (by omega) ?_
        refine to_next (σ' := [some (.ref a), some (.ref h), some (.int (0 + (i : Int))), some (.int (m : Nat)), some (.str (tx v)), some (.ref R), some (.ref Bg), v7, v8, v9]) rfl ?_
        exact key v7 v8 H8 (.refl _)
    · refine iteDF (by omega) ?_
      refine iteF ?_
      refine to_next (σ' := [some (.ref a), some (.ref h), some (.int (0 + (i : Int))), some (.int (m : Nat)), some (.str (tx v)), some (.ref R), some (.ref Bg), v7, v8, v9]) rfl ?_
      exact key v7 v8 H8 (.refl _)
  case rb =>
  intro x7 x8 H9 s9
  have rl := rest_len m (m - 1)
  rw [if_neg (by have := short_lt m1; omega)] at rl
  have tl2 : (tx (restB m (m - 1))).length ≤ sizeLine := by rw [tx_len]; omega
  refine ⟨_, rfl, _, rfl, _, _, rfl, rfl, R, _, _, _, rfl, rfl, .inl (.inl (s9 _ _ eR8)), by rw [show (m : Int) - 1 = ((m - 1 : Nat) : Int) by omega]; exact atI_nat (v := V.str (tx (restB m (m - 1)))) (by unfold restsV; rw [List.getElem?_map, List.getElem?_range (by omega)]; rfl), _, rfl, tl2, ?_⟩
  have el2 : ((tx (restB m (m - 1))).length : Int) = (wideN m : Int) := by rw [tx_len, rl]
  refine ⟨_, rfl, _, rfl, tl, _, rfl, _, _, rfl, rfl, .inl (by decide), _, _, rfl, rfl, _, _, rfl, rfl, _, rfl, iteDF (by omega) ?_⟩
  exact ⟨_, _, _, _, _, _, _, _, rfl, L8.same s9⟩
end
end St
namespace St
open PySem PySem.Spec PyProof.Rows L2
theorem all_mk {l : PySem.W.OpenLaw} {w : World} {K : PySem.W.Frag} {h : Heap} {mg : Str → Option Value} {fa : Addr} (X : K.In h) (G : h.Ns mainGlobals mg) (hfa : mg "law" = some (.ref fa))
    {f0 : Addr} {od0 an0 : Option Addr} {sl0 : Array (Option Value)} {oc0 kV0 dc0 pm0 cd0 ct0 : Value}
    (a0 : PySem.W.nsIn K mainGlobals "_law_mix" = some (some (.ref f0))) (l0 : K.lookup f0 = some ⟨oc0, od0, .func (PySem.W.fnOf "_law_mix" "_law_mix" (defArgs s__law_mix) (defBody s__law_mix) (defScope s__law_mix) .none kV0 dc0 pm0 an0 cd0 ct0), sl0⟩) (c0 : PySem.W.codeIn K cd0 "_law_mix" = true) (k0 : PySem.W.keepIn K (.ref f0) = true)
    {f1 : Addr} {od1 an1 : Option Addr} {sl1 : Array (Option Value)} {oc1 kV1 dc1 pm1 cd1 ct1 : Value}
    (a1 : PySem.W.nsIn K mainGlobals "_law_begins" = some (some (.ref f1))) (l1 : K.lookup f1 = some ⟨oc1, od1, .func (PySem.W.fnOf "_law_begins" "_law_begins" (defArgs s__law_begins) (defBody s__law_begins) (defScope s__law_begins) .none kV1 dc1 pm1 an1 cd1 ct1), sl1⟩) (c1 : PySem.W.codeIn K cd1 "_law_begins" = true) (k1 : PySem.W.keepIn K (.ref f1) = true)
    {f2 : Addr} {od2 an2 : Option Addr} {sl2 : Array (Option Value)} {oc2 kV2 dc2 pm2 cd2 ct2 : Value}
    (a2 : PySem.W.nsIn K mainGlobals "_law_next" = some (some (.ref f2))) (l2 : K.lookup f2 = some ⟨oc2, od2, .func (PySem.W.fnOf "_law_next" "_law_next" (defArgs s__law_next) (defBody s__law_next) (defScope s__law_next) .none kV2 dc2 pm2 an2 cd2 ct2), sl2⟩) (c2 : PySem.W.codeIn K cd2 "_law_next" = true) (k2 : PySem.W.keepIn K (.ref f2) = true)
    {f3 : Addr} {od3 an3 : Option Addr} {sl3 : Array (Option Value)} {oc3 kV3 dc3 pm3 cd3 ct3 : Value}
    (a3 : PySem.W.nsIn K mainGlobals "is_integer" = some (some (.ref f3))) (l3 : K.lookup f3 = some ⟨oc3, od3, .func (PySem.W.fnOf "is_integer" "is_integer" (defArgs s_is_integer) (defBody s_is_integer) (defScope s_is_integer) .none kV3 dc3 pm3 an3 cd3 ct3), sl3⟩) (c3 : PySem.W.codeIn K cd3 "is_integer" = true) (k3 : PySem.W.keepIn K (.ref f3) = true)
    {f4 : Addr} {od4 an4 : Option Addr} {sl4 : Array (Option Value)} {oc4 kV4 dc4 pm4 cd4 ct4 : Value}
    (a4 : PySem.W.nsIn K mainGlobals "check_step" = some (some (.ref f4))) (l4 : K.lookup f4 = some ⟨oc4, od4, .func (PySem.W.fnOf "check_step" "check_step" (defArgs s_check_step) (defBody s_check_step) (defScope s_check_step) .none kV4 dc4 pm4 an4 cd4 ct4), sl4⟩) (c4 : PySem.W.codeIn K cd4 "check_step" = true) (k4 : PySem.W.keepIn K (.ref f4) = true)
    {f5 : Addr} {od5 an5 : Option Addr} {sl5 : Array (Option Value)} {oc5 kV5 dc5 pm5 cd5 ct5 : Value}
    (a5 : PySem.W.nsIn K mainGlobals "power_of_two" = some (some (.ref f5))) (l5 : K.lookup f5 = some ⟨oc5, od5, .func (PySem.W.fnOf "power_of_two" "power_of_two" (defArgs s_power_of_two) (defBody s_power_of_two) (defScope s_power_of_two) .none kV5 dc5 pm5 an5 cd5 ct5), sl5⟩) (c5 : PySem.W.codeIn K cd5 "power_of_two" = true) (k5 : PySem.W.keepIn K (.ref f5) = true)
    {f6 : Addr} {od6 an6 : Option Addr} {sl6 : Array (Option Value)} {oc6 kV6 dc6 pm6 cd6 ct6 : Value}
    (a6 : PySem.W.nsIn K mainGlobals "wide" = some (some (.ref f6))) (l6 : K.lookup f6 = some ⟨oc6, od6, .func (PySem.W.fnOf "wide" "wide" (defArgs s_wide) (defBody s_wide) (defScope s_wide) .none kV6 dc6 pm6 an6 cd6 ct6), sl6⟩) (c6 : PySem.W.codeIn K cd6 "wide" = true) (k6 : PySem.W.keepIn K (.ref f6) = true)
    {f7 : Addr} {od7 an7 : Option Addr} {sl7 : Array (Option Value)} {oc7 kV7 dc7 pm7 cd7 ct7 : Value}
    (a7 : PySem.W.nsIn K mainGlobals "next_standing" = some (some (.ref f7))) (l7 : K.lookup f7 = some ⟨oc7, od7, .func (PySem.W.fnOf "next_standing" "next_standing" (defArgs s_next_standing) (defBody s_next_standing) (defScope s_next_standing) .none kV7 dc7 pm7 an7 cd7 ct7), sl7⟩) (c7 : PySem.W.codeIn K cd7 "next_standing" = true) (k7 : PySem.W.keepIn K (.ref f7) = true)
    {f8 : Addr} {od8 an8 : Option Addr} {sl8 : Array (Option Value)} {oc8 kV8 dc8 pm8 cd8 ct8 : Value}
    (a8 : PySem.W.nsIn K mainGlobals "all_standings" = some (some (.ref f8))) (l8 : K.lookup f8 = some ⟨oc8, od8, .func (PySem.W.fnOf "all_standings" "all_standings" (defArgs s_all_standings) (defBody s_all_standings) (defScope s_all_standings) .none kV8 dc8 pm8 an8 cd8 ct8), sl8⟩) (c8 : PySem.W.codeIn K cd8 "all_standings" = true) (k8 : PySem.W.keepIn K (.ref f8) = true)
    {f9 : Addr} {od9 an9 : Option Addr} {sl9 : Array (Option Value)} {oc9 kV9 dc9 pm9 cd9 ct9 : Value}
    (a9 : PySem.W.nsIn K mainGlobals "least_sure" = some (some (.ref f9))) (l9 : K.lookup f9 = some ⟨oc9, od9, .func (PySem.W.fnOf "least_sure" "least_sure" (defArgs s_least_sure) (defBody s_least_sure) (defScope s_least_sure) .none kV9 dc9 pm9 an9 cd9 ct9), sl9⟩) (c9 : PySem.W.codeIn K cd9 "least_sure" = true) (k9 : PySem.W.keepIn K (.ref f9) = true)
    {f10 : Addr} {od10 an10 : Option Addr} {sl10 : Array (Option Value)} {oc10 kV10 dc10 pm10 cd10 ct10 : Value}
    (a10 : PySem.W.nsIn K mainGlobals "_law_rests" = some (some (.ref f10))) (l10 : K.lookup f10 = some ⟨oc10, od10, .func (PySem.W.fnOf "_law_rests" "_law_rests" (defArgs s__law_rests) (defBody s__law_rests) (defScope s__law_rests) .none kV10 dc10 pm10 an10 cd10 ct10), sl10⟩) (c10 : PySem.W.codeIn K cd10 "_law_rests" = true) (k10 : PySem.W.keepIn K (.ref f10) = true)
    {f11 : Addr} {od11 an11 : Option Addr} {sl11 : Array (Option Value)} {oc11 kV11 dc11 pm11 cd11 ct11 : Value}
    (a11 : PySem.W.nsIn K mainGlobals "_law_pick" = some (some (.ref f11))) (l11 : K.lookup f11 = some ⟨oc11, od11, .func (PySem.W.fnOf "_law_pick" "_law_pick" (defArgs s__law_pick) (defBody s__law_pick) (defScope s__law_pick) .none kV11 dc11 pm11 an11 cd11 ct11), sl11⟩) (c11 : PySem.W.codeIn K cd11 "_law_pick" = true) (k11 : PySem.W.keepIn K (.ref f11) = true)
    {f12 : Addr} {od12 an12 : Option Addr} {sl12 : Array (Option Value)} {oc12 kV12 dc12 pm12 cd12 ct12 : Value}
    (a12 : PySem.W.nsIn K mainGlobals "_law_ends" = some (some (.ref f12))) (l12 : K.lookup f12 = some ⟨oc12, od12, .func (PySem.W.fnOf "_law_ends" "_law_ends" (defArgs s__law_ends) (defBody s__law_ends) (defScope s__law_ends) .none kV12 dc12 pm12 an12 cd12 ct12), sl12⟩) (c12 : PySem.W.codeIn K cd12 "_law_ends" = true) (k12 : PySem.W.keepIn K (.ref f12) = true)
    {f13 : Addr} {od13 an13 : Option Addr} {sl13 : Array (Option Value)} {oc13 kV13 dc13 pm13 cd13 ct13 : Value}
    (a13 : PySem.W.nsIn K mainGlobals "_law_is_sure" = some (some (.ref f13))) (l13 : K.lookup f13 = some ⟨oc13, od13, .func (PySem.W.fnOf "_law_is_sure" "_law_is_sure" (defArgs s__law_is_sure) (defBody s__law_is_sure) (defScope s__law_is_sure) .none kV13 dc13 pm13 an13 cd13 ct13), sl13⟩) (c13 : PySem.W.codeIn K cd13 "_law_is_sure" = true) (k13 : PySem.W.keepIn K (.ref f13) = true)
    {f14 : Addr} {od14 an14 : Option Addr} {sl14 : Array (Option Value)} {oc14 kV14 dc14 pm14 cd14 ct14 : Value}
    (a14 : PySem.W.nsIn K mainGlobals "_law_texts" = some (some (.ref f14))) (l14 : K.lookup f14 = some ⟨oc14, od14, .func (PySem.W.fnOf "_law_texts" "_law_texts" (defArgs s__law_texts) (defBody s__law_texts) (defScope s__law_texts) .none kV14 dc14 pm14 an14 cd14 ct14), sl14⟩) (c14 : PySem.W.codeIn K cd14 "_law_texts" = true) (k14 : PySem.W.keepIn K (.ref f14) = true)
    {f15 : Addr} {od15 an15 : Option Addr} {sl15 : Array (Option Value)} {oc15 kV15 dc15 pm15 cd15 ct15 : Value}
    (a15 : PySem.W.nsIn K mainGlobals "law" = some (some (.ref f15))) (l15 : K.lookup f15 = some ⟨oc15, od15, .func (PySem.W.fnOf "law" "law" (defArgs s_law) (defBody s_law) (defScope s_law) .none kV15 dc15 pm15 an15 cd15 ct15), sl15⟩) (c15 : PySem.W.codeIn K cd15 "law" = true) (k15 : PySem.W.keepIn K (.ref f15) = true)
    {tk0 : Tok} (n0 : PySem.W.nsIn K mainGlobals "MOST_STEP" = some (some (.int 64 tk0)))
    {XA1 : Addr} {Xd1 : Option Addr} {Xn1 : Nat} {Xs1 : Array (Option Value)} {Xt1_0 Xt1_1 Xt1_2 : Tok} (n1 : PySem.W.nsIn K mainGlobals "IN_ONES" = some (some (.ref XA1))) (xm1 : K.lookup XA1 = some ⟨.type "tuple", Xd1, .seq #[.int 1 Xt1_0, .int 0 Xt1_1, .int 0 Xt1_2] Xn1, Xs1⟩)
    {XA2 : Addr} {Xd2 : Option Addr} {Xn2 : Nat} {Xs2 : Array (Option Value)} {Xt2_0 Xt2_1 Xt2_2 : Tok} (n2 : PySem.W.nsIn K mainGlobals "AT_END" = some (some (.ref XA2))) (xm2 : K.lookup XA2 = some ⟨.type "tuple", Xd2, .seq #[.int 0 Xt2_0, .int 0 Xt2_1, .int 0 Xt2_2] Xn2, Xs2⟩)
    {tk3 : Tok} (n3 : PySem.W.nsIn K mainGlobals "SIGNS" = some (some (.str "01" tk3)))
    (z_isinstance : PySem.W.nsIn K mainGlobals "isinstance" = some none)
    (z_int : PySem.W.nsIn K mainGlobals "int" = some none)
    (z_bool : PySem.W.nsIn K mainGlobals "bool" = some none)
    (z_str : PySem.W.nsIn K mainGlobals "str" = some none)
    (z_tuple : PySem.W.nsIn K mainGlobals "tuple" = some none)
    (z_list : PySem.W.nsIn K mainGlobals "list" = some none)
    (z_len : PySem.W.nsIn K mainGlobals "len" = some none)
    (z_range : PySem.W.nsIn K mainGlobals "range" = some none)
    (z_abs : PySem.W.nsIn K mainGlobals "abs" = some none)
    (z_min : PySem.W.nsIn K mainGlobals "min" = some none)
    (z_max : PySem.W.nsIn K mainGlobals "max" = some none)
    (z_sum : PySem.W.nsIn K mainGlobals "sum" = some none)
    (z_sorted : PySem.W.nsIn K mainGlobals "sorted" = some none)
    (z_enumerate : PySem.W.nsIn K mainGlobals "enumerate" = some none)
    (z_zip : PySem.W.nsIn K mainGlobals "zip" = some none)
    (z_set : PySem.W.nsIn K mainGlobals "set" = some none)
    (z_any : PySem.W.nsIn K mainGlobals "any" = some none)
    (z_all : PySem.W.nsIn K mainGlobals "all" = some none)
    : ∃ fd : FuncData, (∀ (s : Shared) (v : Value), BindsTo s fd ⟨[v], []⟩ [("_law_script", v)]) ∧ ∀ base : Heap, K.In base → base.Ns mainGlobals mg → FnOk l.prog w K mg base CX0 6 fa fd ["_law_script"] (sp_law K) := by
  have e := hfa.symm.trans (PySem.W.mg_of X G a15)
  cases e
  have F0 := fun_mk (st := s__law_mix) l0 c0 k0
  have b0 := F0.binds (ps := ["_law_script", "_law_seed"]) fun _ _ _ _ _ _ us hl => match us, hl with | [_, _], _ => rfl
  have A0 : At K mg "_law_mix" s__law_mix ["_law_script", "_law_seed"] := ⟨_, _, F0, PySem.W.mg_of X G a0, b0⟩
  have F1 := fun_mk (st := s__law_begins) l1 c1 k1
  have b1 := F1.binds (ps := ["_law_rests_here"]) fun _ _ _ _ _ _ us hl => match us, hl with | [_], _ => rfl
  have A1 : At K mg "_law_begins" s__law_begins ["_law_rests_here"] := ⟨_, _, F1, PySem.W.mg_of X G a1, b1⟩
  have F2 := fun_mk (st := s__law_next) l2 c2 k2
  have b2 := F2.binds (ps := ["_law_h", "_law_cap"]) fun _ _ _ _ _ _ us hl => match us, hl with | [_, _], _ => rfl
  have A2 : At K mg "_law_next" s__law_next ["_law_h", "_law_cap"] := ⟨_, _, F2, PySem.W.mg_of X G a2, b2⟩
  have F3 := fun_mk (st := s_is_integer) l3 c3 k3
  have b3 := F3.binds (ps := ["thing", "low", "high"]) fun _ _ _ _ _ _ us hl => match us, hl with | [_, _, _], _ => rfl
  have A3 : At K mg "is_integer" s_is_integer ["thing", "low", "high"] := ⟨_, _, F3, PySem.W.mg_of X G a3, b3⟩
  have F4 := fun_mk (st := s_check_step) l4 c4 k4
  have b4 := F4.binds (ps := ["thing"]) fun _ _ _ _ _ _ us hl => match us, hl with | [_], _ => rfl
  have A4 : At K mg "check_step" s_check_step ["thing"] := ⟨_, _, F4, PySem.W.mg_of X G a4, b4⟩
  have F5 := fun_mk (st := s_power_of_two) l5 c5 k5
  have b5 := F5.binds (ps := ["times"]) fun _ _ _ _ _ _ us hl => match us, hl with | [_], _ => rfl
  have A5 : At K mg "power_of_two" s_power_of_two ["times"] := ⟨_, _, F5, PySem.W.mg_of X G a5, b5⟩
  have F6 := fun_mk (st := s_wide) l6 c6 k6
  have b6 := F6.binds (ps := ["step"]) fun _ _ _ _ _ _ us hl => match us, hl with | [_], _ => rfl
  have A6 : At K mg "wide" s_wide ["step"] := ⟨_, _, F6, PySem.W.mg_of X G a6, b6⟩
  have F7 := fun_mk (st := s_next_standing) l7 c7 k7
  have b7 := F7.binds (ps := ["step", "standing", "sign"]) fun _ _ _ _ _ _ us hl => match us, hl with | [_, _, _], _ => rfl
  have A7 : At K mg "next_standing" s_next_standing ["step", "standing", "sign"] := ⟨_, _, F7, PySem.W.mg_of X G a7, b7⟩
  have F8 := fun_mk (st := s_all_standings) l8 c8 k8
  have b8 := F8.binds (ps := ["step"]) fun _ _ _ _ _ _ us hl => match us, hl with | [_], _ => rfl
  have A8 : At K mg "all_standings" s_all_standings ["step"] := ⟨_, _, F8, PySem.W.mg_of X G a8, b8⟩
  have F9 := fun_mk (st := s_least_sure) l9 c9 k9
  have b9 := F9.binds (ps := ["step"]) fun _ _ _ _ _ _ us hl => match us, hl with | [_], _ => rfl
  have A9 : At K mg "least_sure" s_least_sure ["step"] := ⟨_, _, F9, PySem.W.mg_of X G a9, b9⟩
  have F10 := fun_mk (st := s__law_rests) l10 c10 k10
  have b10 := F10.binds (ps := ["_law_step"]) fun _ _ _ _ _ _ us hl => match us, hl with | [_], _ => rfl
  have A10 : At K mg "_law_rests" s__law_rests ["_law_step"] := ⟨_, _, F10, PySem.W.mg_of X G a10, b10⟩
  have F11 := fun_mk (st := s__law_pick) l11 c11 k11
  have b11 := F11.binds (ps := ["_law_h", "_law_things"]) fun _ _ _ _ _ _ us hl => match us, hl with | [_, _], _ => rfl
  have A11 : At K mg "_law_pick" s__law_pick ["_law_h", "_law_things"] := ⟨_, _, F11, PySem.W.mg_of X G a11, b11⟩
  have F12 := fun_mk (st := s__law_ends) l12 c12 k12
  have b12 := F12.binds (ps := ["_law_rests_here", "_law_text", "_law_begin"]) fun _ _ _ _ _ _ us hl => match us, hl with | [_, _, _], _ => rfl
  have A12 : At K mg "_law_ends" s__law_ends ["_law_rests_here", "_law_text", "_law_begin"] := ⟨_, _, F12, PySem.W.mg_of X G a12, b12⟩
  have F13 := fun_mk (st := s__law_is_sure) l13 c13 k13
  have b13 := F13.binds (ps := ["_law_rests_here", "_law_begins_here", "_law_text"]) fun _ _ _ _ _ _ us hl => match us, hl with | [_, _, _], _ => rfl
  have A13 : At K mg "_law_is_sure" s__law_is_sure ["_law_rests_here", "_law_begins_here", "_law_text"] := ⟨_, _, F13, PySem.W.mg_of X G a13, b13⟩
  have F14 := fun_mk (st := s__law_texts) l14 c14 k14
  have b14 := F14.binds (ps := ["_law_signs"]) fun _ _ _ _ _ _ us hl => match us, hl with | [_], _ => rfl
  have A14 : At K mg "_law_texts" s__law_texts ["_law_signs"] := ⟨_, _, F14, PySem.W.mg_of X G a14, b14⟩
  have F15 := fun_mk (st := s_law) l15 c15 k15
  have b15 := F15.binds (ps := ["_law_script"]) fun _ _ _ _ _ _ us hl => match us, hl with | [_], _ => rfl
  have A15 : At K mg "law" s_law ["_law_script"] := ⟨_, _, F15, PySem.W.mg_of X G a15, b15⟩
  have B : Bn mg := ⟨PySem.W.mg_none_of X G z_isinstance, PySem.W.mg_none_of X G z_int, PySem.W.mg_none_of X G z_bool, PySem.W.mg_none_of X G z_str, PySem.W.mg_none_of X G z_tuple, PySem.W.mg_none_of X G z_list, PySem.W.mg_none_of X G z_len, PySem.W.mg_none_of X G z_range, PySem.W.mg_none_of X G z_abs, PySem.W.mg_none_of X G z_min, PySem.W.mg_none_of X G z_max, PySem.W.mg_none_of X G z_sum, PySem.W.mg_none_of X G z_sorted, PySem.W.mg_none_of X G z_enumerate, PySem.W.mg_none_of X G z_zip, PySem.W.mg_none_of X G z_set, PySem.W.mg_none_of X G z_any, PySem.W.mg_none_of X G z_all⟩
  have N0 := PySem.W.mg_of X G n0
  have N1 := PySem.W.mg_of X G n1
  have N2 := PySem.W.mg_of X G n2
  have N3 := PySem.W.mg_of X G n3
  refine ⟨PySem.W.fnOf "law" "law" (defArgs s_law) (defBody s_law) (defScope s_law) .none kV15 dc15 pm15 an15 cd15 ct15, fun s v => .of_eq rfl, fun base _ _ => ?_⟩
  have C0 : CalE l.prog w K mg base "_law_mix" ["_law_script", "_law_seed"] 1 (sp__law_mix K) := ok__law_mix A0 B
  have C1 : CalE l.prog w K mg base "_law_begins" ["_law_rests_here"] 1 (sp__law_begins K) := ok__law_begins A1 B
  have C2 : CalE l.prog w K mg base "_law_next" ["_law_h", "_law_cap"] 1 (sp__law_next K) := ok__law_next A2 B
  have C3 : CalE l.prog w K mg base "is_integer" ["thing", "low", "high"] 1 (sp_is_integer K) := ok_is_integer A3 B
  have C4 : CalE l.prog w K mg base "check_step" ["thing"] 2 (sp_check_step K) := ok_check_step A4 B C3 ⟨_, N0, _, rfl⟩
  have C5 : CalE l.prog w K mg base "power_of_two" ["times"] 1 (sp_power_of_two K) := ok_power_of_two A5 B
  have C6 : CalE l.prog w K mg base "wide" ["step"] 2 (sp_wide K) := ok_wide A6 B C5
  have C7 : CalE l.prog w K mg base "next_standing" ["step", "standing", "sign"] 3 (sp_next_standing K) := ok_next_standing A7 B C6 C5 ⟨_, _, N1, rfl, fun H => .inr ⟨_, _, _, xm1, rfl, rfl, by show 3 ≤ sizeLine; decide, .cons ⟨_, rfl⟩ (.cons ⟨_, rfl⟩ (.cons ⟨_, rfl⟩ (.nil)))⟩⟩ ⟨_, _, N2, rfl, fun H => .inr ⟨_, _, _, xm2, rfl, rfl, by show 3 ≤ sizeLine; decide, .cons ⟨_, rfl⟩ (.cons ⟨_, rfl⟩ (.cons ⟨_, rfl⟩ (.nil)))⟩⟩
  have C8 : CalE l.prog w K mg base "all_standings" ["step"] 4 (sp_all_standings K) := ok_all_standings A8 B C7 ⟨_, _, N2, rfl, fun H => .inr ⟨_, _, _, xm2, rfl, rfl, by show 3 ≤ sizeLine; decide, .cons ⟨_, rfl⟩ (.cons ⟨_, rfl⟩ (.cons ⟨_, rfl⟩ (.nil)))⟩⟩ ⟨_, N3, _, rfl⟩
  have C9 : CalE l.prog w K mg base "least_sure" ["step"] 5 (sp_least_sure K l.prog w) := ok_least_sure A9 B C4 C8 C7 ⟨_, _, N2, rfl, fun H => .inr ⟨_, _, _, xm2, rfl, rfl, by show 3 ≤ sizeLine; decide, .cons ⟨_, rfl⟩ (.cons ⟨_, rfl⟩ (.cons ⟨_, rfl⟩ (.nil)))⟩⟩ ⟨_, N3, _, rfl⟩
  have C10 : CalE l.prog w K mg base "_law_rests" ["_law_step"] 1 (sp__law_rests K) := ok__law_rests A10 B
  have C11 : CalE l.prog w K mg base "_law_pick" ["_law_h", "_law_things"] 2 (sp__law_pick K) := ok__law_pick A11 B C2
  have C12 : CalE l.prog w K mg base "_law_ends" ["_law_rests_here", "_law_text", "_law_begin"] 1 (sp__law_ends K) := ok__law_ends A12 B
  have C13 : CalE l.prog w K mg base "_law_is_sure" ["_law_rests_here", "_law_begins_here", "_law_text"] 2 (sp__law_is_sure K) := ok__law_is_sure A13 B C12
  have C14 : CalE l.prog w K mg base "_law_texts" ["_law_signs"] 1 (sp__law_texts K) := ok__law_texts A14 B
  exact ok_law F15 B C0 C2 C11 C9 C10 C1 C13 C14
end St
open PySem PySem.W PyProof.Rows
set_option maxRecDepth 100000 in
set_option maxHeartbeats 0 in
theorem PySem.Challenge.cw_stepruns_k17_whole_sure_texts_holds : PySem.Challenge.rw_stepruns_k17_whole_sure_texts.Holds := by
  w_on; o_law; k_head; (case hw => w_witness2)
  k_fill
  refine L2.walk_of (l := PySem.Challenge.rw_stepruns_k17_whole_sure_texts) (n := 63) (k := 6) (x := "_law_script") (CX := fun _ => L2.CX0) (sp := fun w => St.sp_law _) rfl (by decide) rfl ⟨rfl, by decide, by decide⟩ (fun w h Y => PySem.W.kIn_of Y) ?F (fun _ _ a ns hl _ hS => ⟨a, ns, rfl, hS, hl, fun _ => rfl⟩) (fun _ _ _ _ _ h => h)
  case F =>
    intro w mg fa h KX G hmg
    refine' St.all_mk KX G hmg ?a0 ?l0 ?c0 ?k0 ?a1 ?l1 ?c1 ?k1 ?a2 ?l2 ?c2 ?k2 ?a3 ?l3 ?c3 ?k3 ?a4 ?l4 ?c4 ?k4 ?a5 ?l5 ?c5 ?k5 ?a6 ?l6 ?c6 ?k6 ?a7 ?l7 ?c7 ?k7 ?a8 ?l8 ?c8 ?k8 ?a9 ?l9 ?c9 ?k9 ?a10 ?l10 ?c10 ?k10 ?a11 ?l11 ?c11 ?k11 ?a12 ?l12 ?c12 ?k12 ?a13 ?l13 ?c13 ?k13 ?a14 ?l14 ?c14 ?k14 ?a15 ?l15 ?c15 ?k15 ?n0 ?n1 ?xm1 ?n2 ?xm2 ?n3 ?z_isinstance ?z_int ?z_bool ?z_str ?z_tuple ?z_list ?z_len ?z_range ?z_abs ?z_min ?z_max ?z_sum ?z_sorted ?z_enumerate ?z_zip ?z_set ?z_any ?z_all
    (case a0 => k_is)
    (case l0 => k_is)
    (case c0 => k_is)
    (case k0 => k_is)
    (case a1 => k_is)
    (case l1 => k_is)
    (case c1 => k_is)
    (case k1 => k_is)
    (case a2 => k_is)
    (case l2 => k_is)
    (case c2 => k_is)
    (case k2 => k_is)
    (case a3 => k_is)
    (case l3 => k_is)
    (case c3 => k_is)
    (case k3 => k_is)
    (case a4 => k_is)
    (case l4 => k_is)
    (case c4 => k_is)
    (case k4 => k_is)
    (case a5 => k_is)
    (case l5 => k_is)
    (case c5 => k_is)
    (case k5 => k_is)
    (case a6 => k_is)
    (case l6 => k_is)
    (case c6 => k_is)
    (case k6 => k_is)
    (case a7 => k_is)
    (case l7 => k_is)
    (case c7 => k_is)
    (case k7 => k_is)
    (case a8 => k_is)
    (case l8 => k_is)
    (case c8 => k_is)
    (case k8 => k_is)
    (case a9 => k_is)
    (case l9 => k_is)
    (case c9 => k_is)
    (case k9 => k_is)
    (case a10 => k_is)
    (case l10 => k_is)
    (case c10 => k_is)
    (case k10 => k_is)
    (case a11 => k_is)
    (case l11 => k_is)
    (case c11 => k_is)
    (case k11 => k_is)
    (case a12 => k_is)
    (case l12 => k_is)
    (case c12 => k_is)
    (case k12 => k_is)
    (case a13 => k_is)
    (case l13 => k_is)
    (case c13 => k_is)
    (case k13 => k_is)
    (case a14 => k_is)
    (case l14 => k_is)
    (case c14 => k_is)
    (case k14 => k_is)
    (case a15 => k_is)
    (case l15 => k_is)
    (case c15 => k_is)
    (case k15 => k_is)
    (case n0 => k_is)
    (case n1 => k_is)
    (case xm1 => k_is)
    (case n2 => k_is)
    (case xm2 => k_is)
    (case n3 => k_is)
    (case z_isinstance => k_is)
    (case z_int => k_is)
    (case z_bool => k_is)
    (case z_str => k_is)
    (case z_tuple => k_is)
    (case z_list => k_is)
    (case z_len => k_is)
    (case z_range => k_is)
    (case z_abs => k_is)
    (case z_min => k_is)
    (case z_max => k_is)
    (case z_sum => k_is)
    (case z_sorted => k_is)
    (case z_enumerate => k_is)
    (case z_zip => k_is)
    (case z_set => k_is)
    (case z_any => k_is)
    (case z_all => k_is)
#print axioms PySem.Challenge.cw_stepruns_k17_whole_sure_texts_holds
