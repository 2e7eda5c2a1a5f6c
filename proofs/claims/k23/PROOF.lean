import PyProof.Rows.All
import Wide.All
import OpenK.AllK
import Wide.FinOn
import HandS.ForMost
import HandS.ForExc
import HandS.Wide
import HandS.WideBits
import HandS.IsInst
import HandS.Codes
import HandS.TupAny
import HandS.TupLen
import HandS.Style
import HandS.Zip
import HandS.Small
import HandS.ExcIs
import HandS.SortRule
import PyProof.Draws
import PyProof.EnumMake
import KE.SortData
import KE.DataMinMax
import PySem.Challenge.RW_stepruns_k23_whole_shorter_words
set_option Elab.async false
set_option linter.all false
set_option maxRecDepth 100000
set_option maxHeartbeats 4000000
namespace St
open PySem PySem.Spec PyProof.Rows L2
/-! ### names that are still the built-ins -/
structure Bn (mg : Str → Option Value) : Prop where
  isinstance_ : mg "isinstance" = none
  int_ : mg "int" = none
  bool_ : mg "bool" = none
  str_ : mg "str" = none
  tuple_ : mg "tuple" = none
  list_ : mg "list" = none
  len_ : mg "len" = none
  range_ : mg "range" = none
  abs_ : mg "abs" = none
  min_ : mg "min" = none
  max_ : mg "max" = none
  sum_ : mg "sum" = none
  sorted_ : mg "sorted" = none
  enumerate_ : mg "enumerate" = none
  zip_ : mg "zip" = none
  set_ : mg "set" = none
  any_ : mg "any" = none
  all_ : mg "all" = none
/-- the def st stands as x -/
def At (K : PySem.W.Frag) (mg : Str → Option Value) (x : Str) (st : Stmt) (ps : List Str) : Prop :=
  ∃ f fd, Fun K x x st f fd ∧ mg x = some (.ref f) ∧ Binds K fd ps []
/-- a def that keeps its promise, ready to be called by its name -/
structure Cal (P : Program) (w : World) (K : PySem.W.Frag) (mg : Str → Option Value) (base : Heap) (x : Str) (ps : List Str) (k : Nat) (sp : Sp) (f : Addr) (fd : FuncData) : Prop where
  ok : FnOk P w K mg base CX0 k f fd ps sp
  g : mg x = some (.ref f)
  kp : PySem.W.keepIn K (.ref f) = true
  b : Binds K fd ps []
def CalE (P : Program) (w : World) (K : PySem.W.Frag) (mg : Str → Option Value) (base : Heap) (x : Str) (ps : List Str) (k : Nat) (sp : Sp) : Prop := ∃ f fd, Cal P w K mg base x ps k sp f fd
/-! ### heaps -/
theorem same_new {H : Hp} {p : Addr} (h : H p = none) (o : HO) : Same H (upd H p o) := fun b u q => by rw [upd_ne (ne_of_none q h)]; exact q
theorem Same.seqT {K : PySem.W.Frag} {H H' : Hp} {a : Addr} {xs : List V} (e : Same H H') (h : SqT K H a xs) : SqT K H' a xs := by
  rcases h with (h | ⟨o, h⟩) | h
  · exact .inl (.inl (e _ _ h))
  · exact .inl (.inr ⟨o, e _ _ h⟩)
  · exact .inr h
theorem tyL {K : PySem.W.Frag} {H : Hp} {a : Addr} {xs : List V} (h : SqL K H a xs) : TyX K H (.ref a) (.type "list") := by
  rcases h with (h | ⟨o, h⟩) | ⟨o, its, n, h, c, _⟩
  · exact .base (.lst h)
  · exact .base (.frz h)
  · exact .kList h c
theorem tyT {K : PySem.W.Frag} {H : Hp} {a : Addr} {xs : List V} (h : SqT K H a xs) : TyX K H (.ref a) (.type "tuple") := by
  rcases h with (h | ⟨o, h⟩) | ⟨o, its, n, h, c, _⟩
  · exact .base (.tup h)
  · exact .fTuple h
  · exact .kTuple h c
theorem SqL.new {K : PySem.W.Frag} {H : Hp} {p : Addr} {xs : List V} : SqL K (upd H p (.lst xs)) p xs := .inl (.inl upd_same)
theorem SqT.new {K : PySem.W.Frag} {H : Hp} {p : Addr} {xs : List V} : SqT K (upd H p (.tup xs)) p xs := .inl (.inl upd_same)
theorem ne_new {H : Hp} {a p : Addr} {o : HO} (h : H a = some o) (hp : H p = none) : p ≠ a := fun e => by rw [e, h] at hp; cases hp
theorem iteDT {p : Prop} [Decidable p] {A B : Prop} (h : p) (a : A) : if decide p = true then A else B := by
  rw [decide_eq_true h]
  exact iteT a
theorem iteDF {p : Prop} [Decidable p] {A B : Prop} (h : ¬ p) (b : B) : if decide p = true then A else B := by
  rw [decide_eq_false h]
  exact iteF b
theorem iteND {p : Prop} [Decidable p] {A B : Prop} (h : ¬ p) (a : A) : if (!decide p) = true then A else B := by
  rw [decide_eq_false h]
  exact iteT a
theorem iteNF {p : Prop} [Decidable p] {A B : Prop} (h : p) (b : B) : if (!decide p) = true then A else B := by
  rw [decide_eq_true h]
  exact iteF b
/-! ### ways that meet: what is left is shown once, for all that the ways may bring (G is read off the first way) -/
theorem joinT {R G : Prop} (main : G → R) (k : G) : R := main k
theorem joinG1 {α : Type} {R : Prop} {G : α → Prop} (C : α → Prop) (main : (∀ x, C x → G x) → R) (k : ∀ x, C x → G x) : R := main k
theorem joinG2 {α β : Type} {R : Prop} {G : α → β → Prop} (C : α → β → Prop) (main : (∀ x y, C x y → G x y) → R) (k : ∀ x y, C x y → G x y) : R := main k
theorem joinG3 {α β γ : Type} {R : Prop} {G : α → β → γ → Prop} (C : α → β → γ → Prop) (main : (∀ x y z, C x y z → G x y z) → R) (k : ∀ x y z, C x y z → G x y z) : R := main k
theorem joinG4 {α β γ δ : Type} {R : Prop} {G : α → β → γ → δ → Prop} (C : α → β → γ → δ → Prop) (main : (∀ x y z u, C x y z u → G x y z u) → R) (k : ∀ x y z u, C x y z u → G x y z u) : R := main k
theorem to_nx {i : Nat} {v : V} {σ σ' : List (Option V)} {H : Hp} {Q : List (Option V) → Hp → Prop} (e : σ.set i (some v) = σ') (h : Q σ' H) : gName i v σ H Q := by
  show Q (σ.set i (some v)) H
  rw [e]
  exact h
/-- the value written otherwise -/
theorem to_v {Q : VK} {v v' : V} {H : Hp} (e : v = v') (h : Q v' H) : Q v H := e ▸ h
/-- the heap written otherwise -/
theorem to_H {Q : VK} {v : V} {H H' : Hp} (e : H = H') (h : Q v H') : Q v H := e ▸ h
theorem to_next {D : Ends} {σ σ' : List (Option V)} {H : Hp} (e : σ = σ') (h : D.nx σ' H) : tNext D σ H := by
  show D.nx σ H
  rw [e]
  exact h
/-! ### data of lists, tuples, numbers, texts -/
/-- data no deeper than n, no list of it too long -/
def OkD : Nat → PyData → Prop
  | _, .none => True | _, .bool _ => True | _, .int _ => True | _, .str _ => True
  | n + 1, .list ds => ds.length ≤ 1000000 ∧ ∀ d ∈ ds, OkD n d
  | n + 1, .tuple ds => ds.length ≤ 1000000 ∧ ∀ d ∈ ds, OkD n d
  | _, _ => False
theorem okA_nil {n : Nat} : ∀ d ∈ ([] : List PyData), OkD n d := fun d h => by cases h
theorem okA_cons {n : Nat} {a : PyData} {l : List PyData} (h : OkD n a) (t : ∀ d ∈ l, OkD n d) : ∀ d ∈ a :: l, OkD n d := fun d hd => by
  rcases List.mem_cons.mp hd with e | hd
  · exact e ▸ h
  · exact t d hd
theorem okd_list {n : Nat} {ds : List PyData} (h : ds.length ≤ 1000000) (t : ∀ d ∈ ds, OkD n d) : OkD (n + 1) (.list ds) := ⟨h, t⟩
theorem okd_tuple {n : Nat} {ds : List PyData} (h : ds.length ≤ 1000000) (t : ∀ d ∈ ds, OkD n d) : OkD (n + 1) (.tuple ds) := ⟨h, t⟩
theorem okA_strs {n : Nat} (ws : List Str) : ∀ d ∈ ws.map PyData.str, OkD n d := fun d hd => by
  obtain ⟨x, _, rfl⟩ := List.mem_map.mp hd
  cases n <;> trivial
theorem okA_ints {n : Nat} (ws : List Int) : ∀ d ∈ ws.map PyData.int, OkD n d := fun d hd => by
  obtain ⟨x, _, rfl⟩ := List.mem_map.mp hd
  cases n <;> trivial
theorem DpAll.length {K : PySem.W.Frag} {H : Hp} : ∀ {xs : List V} {ds : List PyData}, DpAll K H xs ds → xs.length = ds.length
  | _, _, .nil => rfl
  | _, _, .cons _ t => congrArg (· + 1) (DpAll.length t)
theorem DpAll.of {K : PySem.W.Frag} {H : Hp} : ∀ {xs : List V} {ds : List PyData}, xs.length = ds.length → (∀ (i : Nat) x d, xs[i]? = some x → ds[i]? = some d → Dp K H x d) → DpAll K H xs ds
  | [], [], _, _ => .nil
  | [], _ :: _, h, _ => by cases h
  | _ :: _, [], h, _ => by cases h
  | x :: xs, d :: ds, h, k => .cons (k 0 x d rfl rfl) (DpAll.of (by simpa using h) fun i y e h1 h2 => k (i + 1) y e (by simpa using h1) (by simpa using h2))
theorem DpAll.get {K : PySem.W.Frag} {H : Hp} : ∀ {xs : List V} {ds : List PyData} {i : Nat} {d : PyData}, DpAll K H xs ds → ds[i]? = some d → ∃ x, xs[i]? = some x ∧ Dp K H x d
  | _, _, _, _, .nil, e => by simp at e
  | _, _, 0, _, .cons h _, e => by
    cases Option.some.inj (by simpa using e)
    exact ⟨_, rfl, h⟩
  | _, _, i + 1, _, .cons _ t, e => by
    obtain ⟨x, h1, h2⟩ := DpAll.get (i := i) t (by simpa using e)
    exact ⟨x, by simpa using h1, h2⟩
mutual
theorem Dp.same {K : PySem.W.Frag} {H H' : Hp} (s : Same H H') : ∀ {v : V} {d : PyData}, Dp K H v d → Dp K H' v d
  | _, _, .non => .non
  | _, _, .bl b => .bl b
  | _, _, .int i => .int i
  | _, _, .str x => .str x
  | _, _, .lst h t => .lst (s.seq h) (DpAll.same s t)
  | _, _, .tup h t => .tup (St.Same.seqT s h) (DpAll.same s t)
theorem DpAll.same {K : PySem.W.Frag} {H H' : Hp} (s : Same H H') : ∀ {v : List V} {d : List PyData}, DpAll K H v d → DpAll K H' v d
  | _, _, .nil => .nil
  | _, _, .cons h t => .cons (Dp.same s h) (DpAll.same s t)
end
def isTL : PyData → Bool
  | .list _ => true | .tuple _ => true | _ => false
/-- a list or tuple of data, opened -/
theorem Dp.seq {K : PySem.W.Frag} {H : Hp} {v : V} {d : PyData} (h : Dp K H v d) (hd : isTL d = true) : ∃ (a : Addr) (xs : List V) (ds : List PyData), v = .ref a ∧ (d = .list ds ∧ SqL K H a xs ∨ d = .tuple ds ∧ SqT K H a xs) ∧ DpAll K H xs ds := by
  cases h with
  | lst h t => exact ⟨_, _, _, rfl, .inl ⟨rfl, h⟩, t⟩
  | tup h t => exact ⟨_, _, _, rfl, .inr ⟨rfl, h⟩, t⟩
  | non => cases hd
  | bl => cases hd
  | int => cases hd
  | str => cases hd
theorem canAll {n : Nat} : ∀ ds : List PyData, (∀ d ∈ ds, d.canLay0 = true ∧ d.depth ≤ n) → PyData.canLayAll0 ds = true ∧ PyData.depthAll ds ≤ n
  | [], _ => ⟨by simp only [PyData.canLayAll0], by simp only [PyData.depthAll]; omega⟩
  | d :: ds, h => by
    obtain ⟨a, b⟩ := h d List.mem_cons_self
    obtain ⟨c, e⟩ := canAll ds fun x hx => h x (List.mem_cons_of_mem _ hx)
    refine ⟨?_, ?_⟩
    · simp only [PyData.canLayAll0]
      rw [a, c]
      rfl
    · simp only [PyData.depthAll]
      omega
/-- as OkD, the texts of plain signs -/
def OkN : Nat → PyData → Prop
  | _, .none => True | _, .bool _ => True | _, .int _ => True | _, .str x => PyData.strOk x = true
  | n + 1, .list ds => ∀ d ∈ ds, OkN n d
  | n + 1, .tuple ds => ∀ d ∈ ds, OkN n d
  | _, _ => False
theorem ok_can : ∀ (n : Nat) (d : PyData), OkN n d → d.canLay0 = true ∧ d.depth ≤ n
  | _, .none, _ => ⟨by simp only [PyData.canLay0], by simp only [PyData.depth]; omega⟩
  | _, .bool _, _ => ⟨by simp only [PyData.canLay0], by simp only [PyData.depth]; omega⟩
  | _, .int _, _ => ⟨by simp only [PyData.canLay0], by simp only [PyData.depth]; omega⟩
  | n, .str x, h => by
    have h' : PyData.strOk x = true := by cases n <;> exact h
    exact ⟨by simp only [PyData.canLay0]; exact h', by simp only [PyData.depth]; omega⟩
  | n + 1, .list ds, h => by
    obtain ⟨a, b⟩ := canAll ds fun d hd => ok_can n d (h d hd)
    exact ⟨by simp only [PyData.canLay0]; exact a, by simp only [PyData.depth]; omega⟩
  | n + 1, .tuple ds, h => by
    obtain ⟨a, b⟩ := canAll ds fun d hd => ok_can n d (h d hd)
    exact ⟨by simp only [PyData.canLay0]; exact a, by simp only [PyData.depth]; omega⟩
  | 0, .list _, h => h.elim
  | 0, .tuple _, h => h.elim
  | 0, .dict _, h => h.elim
  | _ + 1, .dict _, h => h.elim
theorem ok_shaped {n : Nat} {d : PyData} (h : OkN n d) (hn : n ≤ 60) : SeqAt.shaped d = true := by
  obtain ⟨a, b⟩ := ok_can n d h
  unfold SeqAt.shaped
  rw [a, decide_eq_true (by omega)]
  rfl
theorem eqv_nil (ds : List PyData) : PyData.eqv (.list ds) (.list []) = ds.isEmpty := by
  cases ds <;> rfl
/-! ### a text times a number -/
def repS (x : Str) (n : Nat) : Str := ⟨((List.replicate n x.cps.toList).flatten).toArray⟩
theorem repS_one (x : Str) : repS x 1 = x := by
  unfold repS
  simp
theorem fold_app (l : List (Array Nat)) (a : Array Nat) : (l.foldl (· ++ ·) a).toList = a.toList ++ (l.map Array.toList).flatten := by
  induction l generalizing a with
  | nil => simp
  | cons x r ih => simp [List.foldl_cons, ih, List.append_assoc]
section
variable {X : Cx}
theorem op_mul_str : OpR X (binaryOp .Mult) (fun x y H Q => ∃ z n, x = .str z ∧ y = .int n ∧ n < 2 ^ 62 ∧ -(2 ^ 62) < n ∧ z.length * n.toNat ≤ 1000000 ∧ Q (.str (repS z n.toNat)) H) := by
  intro pins s σ H x y v u Q I rx ry h
  obtain ⟨z, n, rfl, rfl, h1, h2, h3, q⟩ := h
  obtain ⟨t, rfl⟩ := rx
  obtain ⟨t', rfl⟩ := ry
  refine P.mul_str (by
    have a : ¬ n < -(2 ^ 63) := by omega
    have b : ¬ n ≥ 2 ^ 63 := by omega
    rw [decide_eq_false a, decide_eq_false b]; rfl) (fun hn _ hb => ?_) (fun hn _ => ?_) ?_
  · have hp : 0 < n := by omega
    have e1 : (z.length : Int) * n ≤ 1000000 := by
      have e0 : ((n.toNat : Nat) : Int) = n := Int.toNat_of_nonneg (by omega)
      have e4 : ((z.length * n.toNat : Nat) : Int) ≤ 1000000 := Int.ofNat_le.mpr h3
      rw [Int.natCast_mul, e0] at e4
      exact e4
    have e2 : (2 ^ 63 - 1) / n < (z.length : Int) := hb
    have e3 : (2 ^ 63 - 1 : Int) < z.length * n := (Int.ediv_lt_iff_lt_mul hp).mp e2
    generalize (z.length : Int) * n = w at e1 e3
    omega
  · refine decide_eq_false ?_
    have z : sizeLine = 16777216 := sizeLine_eq
    omega
  · by_cases hn : n < 1
    · rw [if_pos hn]
      refine ⟨by decide, ?_⟩
      have e : n.toNat = 0 := by omega
      rw [e] at q
      exact ⟨.str _, H, I.tok _, ⟨_, rfl⟩, q⟩
    · rw [if_neg hn]
      by_cases hm : (n == 1 || z.length == 0) = true
      · rw [if_pos hm]
        have e : repS z n.toNat = z := by
          rw [Bool.or_eq_true] at hm
          rcases hm with hm | hm
          · have : n = 1 := by simpa using hm
            subst this
            exact repS_one z
          · have hz : z.cps.size = 0 := by simpa [Str.length] using hm
            obtain ⟨c⟩ := z
            have : c = #[] := Array.eq_empty_of_size_eq_zero hz
            subst this
            unfold repS
            simp
        rw [e] at q
        exact ⟨.str _, H, I, ⟨_, rfl⟩, q⟩
      · rw [if_neg hm]
        have e : (⟨(List.replicate n.toNat z.cps).foldl (· ++ ·) #[]⟩ : Str) = repS z n.toNat := by
          unfold repS
          congr 1
          apply Array.toList_inj.mp
          rw [fold_app]
          simp [List.map_replicate]
        rw [e]
        refine ⟨?_, ⟨.str _, H, I.tok _, ⟨_, rfl⟩, q⟩⟩
        rw [← e]
        refine fits_reps (decide_eq_false ?_)
        have z : sizeLine = 16777216 := sizeLine_eq
        omega
theorem ip_add_str : PIp X .Add (fun x y H Q => ∃ i j, x = .str i ∧ y = .str j ∧ i.length + j.length ≤ sizeLine ∧ Q (.str (i ++ j)) H) := iop_add_str
end
/-! ### walks over a text -/
theorem lc_str {x : Str} {g : TG} {tt : TT} {te : TE} {vs : List Nat} {σ : List (Option V)} {H1 : Hp} {D : Addr} {Qd : Hp → Prop} (Pv : Nat → Hp → Prop) (h0 : Pv 0 (upd H1 D (.lst [])))
    (hs : ∀ i c H, x.cps.toList[i]? = some c → Pv i H → g (.str ⟨#[c]⟩) (wipe σ vs) H fun σ2 H2 => wipe σ2 vs = wipe σ vs ∧ tt σ2 H2 fun b H3 =>
      if b = true then te σ2 H3 fun y H4 => ∃ acc, H4 D = some (.lst acc) ∧ acc.length < sizeLine ∧ Pv (i + 1) (upd H4 D (.lst (acc ++ [y]))) else Pv (i + 1) H3) (hd : ∀ H, Pv x.cps.size H → Qd H) :
    ∃ W : Nat → Nat → Hp → Prop, (∃ m, W 0 m (upd H1 D (.lst []))) ∧ ∀ i m H, W i m H →
      ((Its x).stop i H ∧ Qd H) ∨ ((Its x).go i H ∧ ∃ Nx : Hp → Prop, (∀ H', Nx H' → ∃ m', m' < m ∧ W (i + 1) m' H') ∧ ∀ v H', (Its x).yld i H v H' → g v (wipe σ vs) H' fun σ2 H2 => wipe σ2 vs = wipe σ vs ∧ tt σ2 H2 fun b H3 =>
        if b = true then te σ2 H3 fun y H4 => ∃ acc, H4 D = some (.lst acc) ∧ acc.length < sizeLine ∧ Nx (upd H4 D (.lst (acc ++ [y]))) else Nx H3) := by
  refine ⟨fun i m H => m = x.cps.size - i ∧ i ≤ x.cps.size ∧ Pv i H, ⟨x.cps.size, by simp, Nat.zero_le _, h0⟩, ?_⟩
  rintro i m H ⟨rfl, hi, p⟩
  by_cases hlt : i < x.cps.size
  · refine .inr ⟨hlt, Pv (i + 1), fun H' p' => ⟨x.cps.size - (i + 1), by omega, rfl, hlt, p'⟩, fun v H' y => ?_⟩
    obtain ⟨e, c, ec, ev⟩ := y
    subst e ev
    exact hs i c _ (by rw [Array.getElem?_toList]; exact ec) p
  · have e : i = x.cps.size := by omega
    subst e
    exact .inl ⟨Nat.le_refl _, hd H p⟩
theorem for_str {x : Str} {g : TG} {tb : TS} {D : Ends} {σ : List (Option V)} {H : Hp} (Pv : Nat → List (Option V) → Hp → Prop) (h0 : Pv 0 σ H)
    (hs : ∀ i c σ H, x.cps.toList[i]? = some c → Pv i σ H → g (.str ⟨#[c]⟩) σ H fun σ2 H2 => tb { D with nx := Pv (i + 1), ct := Pv (i + 1), bk := D.nx } σ2 H2) (hd : ∀ σ H, Pv x.cps.size σ H → D.nx σ H) :
    ∃ W : Nat → Nat → List (Option V) → Hp → Prop, (∃ m, W 0 m σ H) ∧ ∀ i m σ H, W i m σ H →
      ((Its x).stop i H ∧ D.nx σ H) ∨ ((Its x).go i H ∧ ∃ N : List (Option V) → Hp → Prop, (∀ σ' H', N σ' H' → ∃ m', m' < m ∧ W (i + 1) m' σ' H') ∧ ∀ v H', (Its x).yld i H v H' → g v σ H' fun σ2 H2 => tb { D with nx := N, ct := N, bk := D.nx } σ2 H2) := by
  refine ⟨fun i m σ H => m = x.cps.size - i ∧ i ≤ x.cps.size ∧ Pv i σ H, ⟨x.cps.size, by simp, Nat.zero_le _, h0⟩, ?_⟩
  rintro i m σ H ⟨rfl, hi, p⟩
  by_cases hlt : i < x.cps.size
  · refine .inr ⟨hlt, Pv (i + 1), fun σ' H' p' => ⟨x.cps.size - (i + 1), by omega, rfl, hlt, p'⟩, fun v H' y => ?_⟩
    obtain ⟨e, c, ec, ev⟩ := y
    subst e ev
    exact hs i c σ _ (by rw [Array.getElem?_toList]; exact ec) p
  · have e : i = x.cps.size := by omega
    subst e
    exact .inl ⟨Nat.le_refl _, hd σ H p⟩
/-! ### the rules with the written part K by name (within a comprehension X.K is not read off) -/
section
variable {X : Cx} (K : PySem.W.Frag)
theorem ix_list_ (h : X.K = K := by rfl) : IxR X (rIxL K) := h ▸ ix_list
theorem ix_tup_ (h : X.K = K := by rfl) : IxR X (rIxT K) := h ▸ ix_tup
theorem ix_seq_ (h : X.K = K := by rfl) : IxR X (rIx K) := h ▸ ix_seq
theorem sl_list_ (h : X.K = K := by rfl) : SlR X (rSlL K) := h ▸ sl_list
theorem sl_tupA_ (h : X.K = K := by rfl) : SlR X (rSlA K) := h ▸ sl_tupA
def rLenV (K : PySem.W.Frag) : List V → Hp → VK → Prop := fun xs H Q => ∃ x n, xs = [x] ∧ LenV K x H n ∧ Q (.int (n : Nat)) H
theorem call_len_ (h : X.K = K := by rfl) : CallR X (.builtin "len") (rLenV K) := h ▸ call_len
def rLenQ (K : PySem.W.Frag) : List V → Hp → VK → Prop := fun xs H Q => ∃ p ys, xs = [.ref p] ∧ (SqL K H p ys ∨ SqT K H p ys) ∧ Q (.int ys.length) H
theorem call_len_seq_ (h : X.K = K := by rfl) : CallR X (.builtin "len") (rLenQ K) := h ▸ call_len_seq
def rLenS : List V → Hp → VK → Prop := fun xs H Q => ∃ z, xs = [.str z] ∧ z.length ≤ sizeLine ∧ Q (.int z.length) H
theorem call_len_str_ : CallR X (.builtin "len") rLenS := call_len_str
theorem call_isi_ (h : X.K = K := by rfl) : CallR X (.builtin "isinstance") (rIsi K) := h ▸ call_isi
theorem call_isiT_ (h : X.K = K := by rfl) : CallR X (.builtin "isinstance") (rIsiT K) := h ▸ call_isiT
theorem cr_sum_ (hc : X.calm = true) (h : X.K = K := by rfl) : CallR X (.builtin "sum") (rSum K) := h ▸ cr_sum hc
theorem cr_max_ (hc : X.calm = true) (h : X.K = K := by rfl) : CallR X (.builtin "max") (rMax K) := h ▸ cr_max hc
theorem cr_min_ (hc : X.calm = true) (h : X.K = K := by rfl) : CallR X (.builtin "min") (rMin K) := h ▸ cr_min hc
theorem cr_all_ (hc : X.calm = true) (h : X.K = K := by rfl) : CallR X (.builtin "all") (rAll K) := h ▸ cr_all hc
theorem cr_any_ (hc : X.calm = true) (h : X.K = K := by rfl) : CallR X (.builtin "any") (rAny K) := h ▸ cr_any hc
def rTupOf (K : PySem.W.Frag) : List V → Hp → VK → Prop := fun xs H Q => ∃ p ys, xs = [.ref p] ∧ ((SqL K H p ys ∧ ∀ l, H l = none → Q (.ref l) (upd H l (.tup ys))) ∨ (SqT K H p ys ∧ Q (.ref p) H))
theorem call_tuple_of_ (h : X.K = K := by rfl) : CallR X (.type "tuple") (rTupOf K) := h ▸ call_tuple_of
def rListOf (K : PySem.W.Frag) : List V → Hp → VK → Prop := fun xs H Q => ∃ p ys, xs = [.ref p] ∧ (SqL K H p ys ∨ SqT K H p ys) ∧ ∀ l, H l = none → Q (.ref l) (upd H l (.lst ys))
theorem call_list_of_ (h : X.K = K := by rfl) : CallR X (.type "list") (rListOf K) := h ▸ call_list_of
theorem op_eqD_ (hu : X.A.units + 64 < cLine) (h : X.K = K := by rfl) : OpR X (compareOp .Eq) (rEqD K) := h ▸ op_eqD hu
theorem op_neD_ (hu : X.A.units + 64 < cLine) (h : X.K = K := by rfl) : OpR X (compareOp .NotEq) (rNeD K) := h ▸ op_neD hu
theorem op_in_seq_ (h : X.K = K := by rfl) : OpR X (compareOp .In) (rIn K false) := h ▸ op_in_seq
theorem op_notIn_seq_ (h : X.K = K := by rfl) : OpR X (compareOp .NotIn) (rIn K true) := h ▸ op_notIn_seq
def rJoinK (K : PySem.W.Frag) : V → List V → Hp → VK → Prop := fun x xs H Q => ∃ a p, ∃ ys : List Str, x = .str a ∧ xs = [.ref p] ∧ (SqL K H p (ys.map V.str) ∨ SqT K H p (ys.map V.str)) ∧ (ys.map (·.length)).sum + ys.length * a.length ≤ 16777216 ∧ Q (.str (Txt.join a ys)) H
theorem pe_join_ {o e : Expr} {to te : TE} {apos pos : Pos} (ho : PE X o to) (he : PE X e te) (hK : X.K = K := by rfl) (hs : starEach [e] X.env = [(false, eval e X.env)] := by rfl) (hbase : attributeBase o "join" X.env (eval o X.env) = eval o X.env := by rfl) (hline : (apos.endLine == pos.line) = true := by rfl) :
    PE X (.Call (.Attribute o "join" apos) [e] [] pos) (tM1 (rJoinK K) to te) := hK ▸ pe_join ho he hs hbase hline
theorem pi_tup_ {tg l : Expr} {tl : TE} (hl : PE X l tl) (h : X.K = K := by rfl) : PI X tg l (iTup K tl) := h ▸ pi_tup hl
theorem pi_list_ {tg l : Expr} {tl : TE} (hl : PE X l tl) (h : X.K = K := by rfl) : PI X tg l (iList K tl) := h ▸ pi_list hl
theorem op_catA_ (h : X.K = K := by rfl) : OpR X (binaryOp .Add) (rCatA K) := h ▸ op_catA
end
/-! ### what the law's own draws keep -/
/-- a source of draws: at h a list of a number, a list of numbers at q, a number -/
structure LawH (H : Hp) (h q : Addr) : Prop where
  ne : h ≠ q
  src : ∃ (st ix : Int) (cells : List Int), H h = some (.lst [.int st, .ref q, .int ix]) ∧ H q = some (.lst (cells.map V.int)) ∧ cells.length ≤ 1000
/-- all but the source stands as it was -/
def Sm (h q : Addr) (H H' : Hp) : Prop := ∀ b o, H b = some o → b ≠ h → b ≠ q → H' b = some o
theorem Sm.refl (h q : Addr) (H : Hp) : Sm h q H H := fun _ _ e _ _ => e
theorem Sm.trans {h q : Addr} {H H1 H2 : Hp} (a : Sm h q H H1) (b : Sm h q H1 H2) : Sm h q H H2 := fun c o e n m => b c o (a c o e n m) n m
theorem Sm.of {h q : Addr} {H H' : Hp} (a : Same H H') : Sm h q H H' := fun c o e _ _ => a c o e
theorem Sm.seq {K : PySem.W.Frag} {h q : Addr} {H H' : Hp} {a : Addr} {xs : List V} (e : Sm h q H H') (n1 : a ≠ h) (n2 : a ≠ q) (z : SqL K H a xs) : SqL K H' a xs := by
  rcases z with (z | ⟨o, z⟩) | z
  · exact .inl (.inl (e _ _ z n1 n2))
  · exact .inl (.inr ⟨o, e _ _ z n1 n2⟩)
  · exact .inr z
theorem Sm.seqT {K : PySem.W.Frag} {h q : Addr} {H H' : Hp} {a : Addr} {xs : List V} (e : Sm h q H H') (n1 : a ≠ h) (n2 : a ≠ q) (z : SqT K H a xs) : SqT K H' a xs := by
  rcases z with (z | ⟨o, z⟩) | z
  · exact .inl (.inl (e _ _ z n1 n2))
  · exact .inl (.inr ⟨o, e _ _ z n1 n2⟩)
  · exact .inr z
theorem LawH.same {H H' : Hp} {h q : Addr} (L : LawH H h q) (a : Same H H') : LawH H' h q := by
  obtain ⟨n, st, ix, cells, e1, e2, e3⟩ := L
  exact ⟨n, st, ix, cells, a _ _ e1, a _ _ e2, e3⟩
theorem LawH.nn {H : Hp} {h q : Addr} (L : LawH H h q) : H h ≠ Option.none ∧ H q ≠ Option.none := by
  obtain ⟨n, st, ix, cells, e1, e2, e3⟩ := L
  exact ⟨fun z => by (rw [e1] at z; cases z), fun z => by (rw [e2] at z; cases z)⟩
theorem LawH.tup_ne {H : Hp} {h q t : Addr} {xs : List V} (L : LawH H h q) (e : H t = some (.tup xs)) : t ≠ h ∧ t ≠ q := by
  obtain ⟨n, st, ix, cells, e1, e2, e3⟩ := L
  exact ⟨fun z => by (rw [z, e1] at e; cases e), fun z => by (rw [z, e2] at e; cases e)⟩
theorem LawH.updL {H : Hp} {h q D : Addr} {l : List V} (L : LawH H h q) (n1 : D ≠ h) (n2 : D ≠ q) : LawH (upd H D (.lst l)) h q := by
  obtain ⟨ne, st, ix, cells, a, b, d⟩ := L
  exact ⟨ne, st, ix, cells, by rw [upd_ne (Ne.symm n1)]; exact a, by rw [upd_ne (Ne.symm n2)]; exact b, d⟩
theorem SqT.updL {K : PySem.W.Frag} {H : Hp} {a D : Addr} {xs l l' : List V} (e : H D = some (.lst l)) (z : SqT K H a xs) : SqT K (upd H D (.lst l')) a xs := by
  rcases z with (z | ⟨o, z⟩) | z
  · exact .inl (.inl (by rw [upd_ne (fun y => by rw [y, e] at z; cases z)]; exact z))
  · exact .inl (.inr ⟨o, by rw [upd_ne (fun y => by rw [y, e] at z; cases z)]; exact z⟩)
  · exact .inr z
end St
namespace St
open PySem PySem.Spec PyProof.Rows L2
/-! ### texts of the signs 0 and 1, words by a step -/
def sg (b : Bool) : Nat := if b then 49 else 48
theorem sg_inj {a b : Bool} (h : sg a = sg b) : a = b := by
  cases a <;> cases b <;> first | rfl | (exact absurd h (by decide))
/-- the text of some signs -/
def tx (l : List Bool) : Str := ⟨(l.map sg).toArray⟩
theorem tx_list (l : List Bool) : (tx l).cps.toList = l.map sg := by simp [tx]
theorem tx_len (l : List Bool) : (tx l).length = l.length := by simp [tx, Str.length]
theorem str_ext {a b : Str} (h : a.cps.toList = b.cps.toList) : a = b := by
  obtain ⟨a⟩ := a
  obtain ⟨b⟩ := b
  exact congrArg Str.mk (Array.toList_inj.mp h)
theorem app_list (a b : Str) : (a ++ b).cps.toList = a.cps.toList ++ b.cps.toList := by
  show (Str.append a b).cps.toList = _
  unfold Str.append
  simp
theorem tx_app (a b : List Bool) : tx a ++ tx b = tx (a ++ b) := by
  apply str_ext
  rw [app_list, tx_list, tx_list, tx_list, List.map_append]
theorem tx_inj {a b : List Bool} (h : tx a = tx b) : a = b := by
  have e : a.map sg = b.map sg := by rw [← tx_list, ← tx_list, h]
  exact (List.map_inj_right (fun _ _ h => sg_inj h)).mp e
theorem tx_one : ("1" : Str) = tx [true] := by decide +kernel
theorem tx_zero : ("0" : Str) = tx [false] := by decide +kernel
theorem tx_nil : ("" : Str) = tx [] := by decide +kernel
theorem tx_rep (b : Bool) (n : Nat) : repS (tx [b]) n = tx (List.replicate n b) := by
  apply str_ext
  unfold repS
  rw [tx_list]
  simp only [tx_list, List.map_replicate]
  induction n with
  | zero => rfl
  | succ n ih =>
    rw [List.replicate_succ, List.flatten_cons, ih, List.replicate_succ]
    rfl
/-- so many figures of a number by twos, the highest first -/
def fig (n : Nat) : Nat → List Bool
  | 0 => []
  | k + 1 => (n / 2 ^ k % 2 == 1) :: fig n k
theorem fig_len (n k : Nat) : (fig n k).length = k := by
  induction k with
  | zero => rfl
  | succ k ih => rw [fig, List.length_cons, ih]
/-- what figures are worth -/
def worth : List Bool → Nat
  | [] => 0
  | b :: r => (if b then 2 ^ r.length else 0) + worth r
theorem worth_fig (n k : Nat) : worth (fig n k) = n % 2 ^ k := by
  induction k with
  | zero => simp [fig, worth, Nat.mod_one]
  | succ k ih =>
    rw [fig, worth, ih, fig_len, Nat.pow_succ, Nat.mod_mul]
    have := Nat.mod_two_eq_zero_or_one (n / 2 ^ k)
    rcases this with h | h <;> rw [h] <;> simp <;> omega
theorem worth_lt (l : List Bool) : worth l < 2 ^ l.length := by
  induction l with
  | nil => simp [worth]
  | cons b r ih =>
    rw [worth, List.length_cons, Nat.pow_succ]
    split <;> omega
/-- the least number of figures for all rests -/
def wideN (m : Nat) : Nat := if m ≤ 1 then 0 else Nat.log2 (m - 1) + 1
theorem wide_le (m : Nat) : m ≤ 2 ^ wideN m := by
  unfold wideN
  split
  · omega
  · have := Nat.lt_log2_self (n := m - 1)
    omega
theorem wide_lt (m d : Nat) (h : d < wideN m) : 2 ^ d < m := by
  unfold wideN at h
  split at h
  · omega
  · have h1 := Nat.log2_self_le (n := m - 1) (by omega)
    have h2 : 2 ^ d ≤ 2 ^ (m - 1).log2 := Nat.pow_le_pow_right (by decide) (by omega)
    omega
theorem wide_eq {m c : Nat} (h1 : m ≤ 2 ^ c) (h2 : ∀ d, d < c → 2 ^ d < m) : wideN m = c := by
  rcases Nat.lt_trichotomy (wideN m) c with h | h | h
  · have a := h2 _ h
    have b := wide_le m
    omega
  · exact h
  · have a := wide_lt m c h
    omega
theorem wide_64 {m : Nat} (h : m ≤ 64) : wideN m ≤ 6 := by
  refine Nat.not_lt.mp fun c => ?_
  have := wide_lt m 6 c
  omega
def shortN (m : Nat) : Nat := 2 ^ wideN m - m
theorem short_lt {m : Nat} (h : 1 ≤ m) : shortN m < m := by
  unfold shortN
  have h1 := wide_le m
  cases e : wideN m with
  | zero =>
    rw [e] at h1
    simp at h1
    simp
    omega
  | succ c =>
    have h2 := wide_lt m c (by omega)
    rw [Nat.pow_succ]
    omega
theorem short_zero {m : Nat} (h : wideN m = 0) (h1 : 1 ≤ m) : m = 1 := by
  have := wide_le m
  rw [h] at this
  simp at this
  omega
/-- the word for a rest -/
def restB (m r : Nat) : List Bool := if r < shortN m then fig r (wideN m - 1) else fig (r + shortN m) (wideN m)
/-- the word for a number -/
def wordB (m n : Nat) : List Bool := List.replicate (n / m) true ++ false :: restB m (n % m)
theorem rest_len (m r : Nat) : (restB m r).length = if r < shortN m then wideN m - 1 else wideN m := by
  unfold restB
  split <;> rw [fig_len]
theorem rest_len_le (m r : Nat) : (restB m r).length ≤ wideN m := by
  rw [rest_len]
  split <;> omega
theorem word_len (m n : Nat) : (wordB m n).length = n / m + 1 + (restB m (n % m)).length := by
  unfold wordB
  simp
  omega
/-- a place of a text -/
theorem cut_tx (l : List Bool) (i j : Nat) : cutS (tx l) (some (i : Int)) (some (j : Int)) = tx ((l.drop i).take (j - i)) := by
  apply str_ext
  unfold cutS
  rw [tx_list, tx_len, HT.sIx_nat, HT.sIx_nat, tx_list]
  simp only [List.map_take, List.map_drop]
  by_cases h : i ≤ l.length
  · rw [Nat.min_eq_left h]
    by_cases h2 : j ≤ l.length
    · rw [Nat.min_eq_left h2]
    · rw [Nat.min_eq_right (show l.length ≤ j by omega)]
      rw [List.take_of_length_le (by simp), List.take_of_length_le (by simp; omega)]
  · rw [Nat.min_eq_right (show l.length ≤ i by omega)]
    have e1 : List.drop l.length (l.map sg) = [] := List.drop_eq_nil_of_le (by simp)
    have e2 : List.drop i (l.map sg) = [] := List.drop_eq_nil_of_le (by simp; omega)
    rw [e1, e2]
    simp
theorem cut_to (l : List Bool) (j : Nat) : cutS (tx l) none (some (j : Int)) = tx (l.take j) := by
  have := cut_tx l 0 j
  have e : cutS (tx l) none (some (j : Int)) = cutS (tx l) (some ((0 : Nat) : Int)) (some (j : Int)) := by
    unfold cutS
    have e0 : HT.sIx (tx l).length 0 (some ((0 : Nat) : Int)) = 0 := by rw [HT.sIx_nat, Nat.min_eq_left (Nat.zero_le _)]
    rw [e0, HT.sIx_none]
  rw [e, this, List.drop_zero, Nat.sub_zero]
theorem cut_from (l : List Bool) (i : Nat) : cutS (tx l) (some (i : Int)) none = tx (l.drop i) := by
  apply str_ext
  unfold cutS
  rw [tx_list, tx_len, HT.sIx_nat, HT.sIx_none, tx_list]
  simp only [List.map_drop]
  by_cases h : i ≤ l.length
  · rw [Nat.min_eq_left h, List.take_of_length_le (by simp)]
  · rw [Nat.min_eq_right (show l.length ≤ i by omega)]
    have e1 : List.drop l.length (l.map sg) = [] := List.drop_eq_nil_of_le (by simp)
    have e2 : List.drop i (l.map sg) = [] := List.drop_eq_nil_of_le (by simp; omega)
    rw [e1, e2]
    simp
/-- the sign at a place, as it is asked: text[at:at + 1] == "1" -/
theorem cut_at (l : List Bool) (i : Nat) : cutS (tx l) (some (i : Int)) (some ((i : Int) + 1)) = tx (l[i]?.toList) := by
  have := cut_tx l i (i + 1)
  rw [show ((i + 1 : Nat) : Int) = (i : Int) + 1 by omega] at this
  rw [this, Nat.add_sub_cancel_left]
  congr 1
  cases h : l[i]? with
  | none =>
    rw [List.drop_eq_nil_of_le (List.getElem?_eq_none_iff.mp h)]
    rfl
  | some b =>
    obtain ⟨hi, e⟩ := List.getElem?_eq_some_iff.mp h
    rw [List.drop_eq_getElem_cons hi, e]
    rfl
theorem at_is (o : Option Bool) : (tx o.toList = tx [true]) ↔ o = some true := by
  constructor
  · intro h
    have := tx_inj h
    cases o with
    | none => cases this
    | some b => exact congrArg some (List.cons.inj this).1
  · rintro rfl
    rfl
theorem fig_get (n k i : Nat) (h : i < k) : (fig n k)[i]? = some (n / 2 ^ (k - 1 - i) % 2 == 1) := by
  induction k generalizing i with
  | zero => omega
  | succ k ih =>
    cases i with
    | zero => simp [fig]
    | succ i =>
      rw [fig, List.getElem?_cons_succ, ih i (by omega)]
      rw [show k + 1 - 1 - (i + 1) = k - 1 - i by omega]
theorem take_more {α : Type} {l : List α} {i : Nat} {x : α} (h : l[i]? = some x) : l.take (i + 1) = l.take i ++ [x] := by
  rw [List.take_add_one, h]
  rfl
theorem fig_take (n k i : Nat) (h : i < k) : (fig n k).take (i + 1) = (fig n k).take i ++ [n / 2 ^ (k - 1 - i) % 2 == 1] := take_more (fig_get n k i h)
theorem bit_int (n d : Nat) : (((n : Int) / ((2 ^ d : Nat) : Int) % 2 = 1)) ↔ (n / 2 ^ d % 2 == 1) = true := by
  rw [beq_iff_eq, ← Int.natCast_ediv]
  omega
end St
namespace St
open PySem PySem.Spec PyProof.Rows L2
/-! ### reading words -/
def onesN : List Bool → Nat
  | true :: r => onesN r + 1
  | _ => 0
/-- the number whose word begins a row of signs, and how long it is -/
def rd (m : Nat) (l : List Bool) : Option (Nat × Nat) :=
  let k := onesN l
  let t := l.drop (k + 1)
  let c := wideN m
  let r := worth (t.take (c - 1))
  if l.length ≤ k then none else if t.length < c - 1 then none else
    if 0 < c ∧ shortN m ≤ r then (if t.length < c then none else some (k * m + (2 * r + (if t[c - 1]? = some true then 1 else 0) - shortN m), k + 1 + c))
    else some (k * m + r, k + 1 + (c - 1))
theorem ones_rep (k : Nat) (t : List Bool) : onesN (List.replicate k true ++ false :: t) = k := by
  induction k with
  | zero => rfl
  | succ k ih =>
    rw [List.replicate_succ, List.cons_append, onesN, ih]
theorem ones_split : ∀ (l : List Bool), onesN l < l.length → l = List.replicate (onesN l) true ++ false :: l.drop (onesN l + 1)
  | [], h => by cases h
  | false :: r, _ => rfl
  | true :: r, h => by
    have e : onesN (true :: r) = onesN r + 1 := rfl
    rw [e] at h ⊢
    have ih := ones_split r (by rw [List.length_cons] at h; omega)
    rw [List.replicate_succ, List.cons_append, List.drop_succ_cons]
    rw [← ih]
theorem fig_snoc (n k : Nat) : fig n (k + 1) = fig (n / 2) k ++ [n % 2 == 1] := by
  induction k with
  | zero => simp [fig]
  | succ k ih =>
    rw [fig, ih, fig, List.cons_append]
    rw [Nat.div_div_eq_div_mul, Nat.pow_succ, Nat.mul_comm 2]
theorem fig_worth (l : List Bool) : fig (worth l) l.length = l := by
  have low : ∀ (l : List Bool) (a : Nat), fig (a * 2 ^ l.length + worth l) l.length = l := by
    intro l
    induction l with
    | nil => intro a; rfl
    | cons b r ih =>
      intro a
      have hw := worth_lt r
      rw [List.length_cons, fig, worth]
      have e1 : a * 2 ^ (r.length + 1) + ((if b then 2 ^ r.length else 0) + worth r) = (2 * a + (if b then 1 else 0)) * 2 ^ r.length + worth r := by
        rw [Nat.pow_succ]
        cases b <;> simp <;> grind
      rw [e1, ih]
      congr 1
      rw [Nat.add_comm, Nat.add_mul_div_right _ _ (Nat.pow_pos (by decide)), Nat.div_eq_of_lt hw]
      cases b <;> simp <;> omega
  have := low l 0
  rw [Nat.zero_mul, Nat.zero_add] at this
  exact this
theorem worth_snoc (l : List Bool) (b : Bool) : worth (l ++ [b]) = 2 * worth l + (if b then 1 else 0) := by
  induction l with
  | nil => cases b <;> rfl
  | cons a r ih =>
    rw [List.cons_append, worth, ih, worth, List.length_append, List.length_singleton, Nat.pow_succ]
    cases a <;> simp <;> omega
theorem pow_half {c : Nat} (h : 1 ≤ c) : 2 ^ c = 2 * 2 ^ (c - 1) := by
  obtain ⟨d, rfl⟩ : ∃ d, c = d + 1 := ⟨c - 1, by omega⟩
  rw [Nat.add_sub_cancel, Nat.pow_succ']
theorem short_half {m : Nat} (h : 1 ≤ wideN m) : shortN m < 2 ^ (wideN m - 1) := by
  have := wide_lt m (wideN m - 1) (by omega)
  have e := pow_half h
  have hp : 0 < 2 ^ (wideN m - 1) := Nat.pow_pos (by decide)
  unfold shortN
  omega
theorem short_add {m : Nat} : shortN m + m = 2 ^ wideN m := by
  have := wide_le m
  unfold shortN
  omega
theorem rd_word (m : Nat) (hm : 1 ≤ m) (n : Nat) (post : List Bool) : rd m (wordB m n ++ post) = some (n, (wordB m n).length) := by
  have hk : onesN (wordB m n ++ post) = n / m := by
    unfold wordB
    rw [List.append_assoc, List.cons_append, ones_rep]
  have ht : (wordB m n ++ post).drop (n / m + 1) = restB m (n % m) ++ post := by
    have e : wordB m n ++ post = (List.replicate (n / m) true ++ [false]) ++ (restB m (n % m) ++ post) := by
      unfold wordB
      simp [List.append_assoc]
    rw [e]
    exact List.drop_left' (by simp)
  have hr : n % m < m := Nat.mod_lt _ hm
  have hsa := @short_add m
  have hlen : (wordB m n).length = n / m + 1 + (restB m (n % m)).length := word_len m n
  have hn : n / m * m + n % m = n := Nat.div_add_mod' n m
  unfold rd
  simp only [hk, ht]
  rw [if_neg (by rw [List.length_append, hlen]; omega)]
  by_cases c : n % m < shortN m
  · have w1 : 1 ≤ wideN m := by
      refine Nat.not_lt.mp fun z => ?_
      have e := short_zero (show wideN m = 0 by omega) hm
      subst e
      have : shortN 1 = 0 := by decide
      omega
    have hh := short_half w1
    have er : restB m (n % m) = fig (n % m) (wideN m - 1) := if_pos c
    have el : (restB m (n % m)).length = wideN m - 1 := by rw [er, fig_len]
    have et : (restB m (n % m) ++ post).take (wideN m - 1) = fig (n % m) (wideN m - 1) := by
      rw [List.take_append_of_le_length (by omega), ← el, List.take_length, er, fig_len]
    rw [if_neg (by rw [List.length_append]; omega), et, worth_fig, Nat.mod_eq_of_lt (by omega), if_neg (by omega), hlen, el, hn]
  · have er : restB m (n % m) = fig (n % m + shortN m) (wideN m) := if_neg c
    have el : (restB m (n % m)).length = wideN m := by rw [er, fig_len]
    by_cases w0 : wideN m = 0
    · have e := short_zero w0 hm
      subst e
      rw [if_neg (by rw [List.length_append, w0]; omega), if_neg (by omega), hlen, el, w0]
      simp [worth] at hn ⊢
    · obtain ⟨d, hd⟩ : ∃ d, wideN m = d + 1 := ⟨wideN m - 1, by omega⟩
      have ef : fig (n % m + shortN m) (wideN m) = fig ((n % m + shortN m) / 2) d ++ [(n % m + shortN m) % 2 == 1] := by rw [hd, fig_snoc]
      have et : (restB m (n % m) ++ post).take (wideN m - 1) = fig ((n % m + shortN m) / 2) d := by
        rw [er, ef, hd, List.append_assoc, Nat.add_sub_cancel]
        rw [List.take_append_of_le_length (by rw [fig_len]; exact Nat.le_refl _), List.take_of_length_le (by rw [fig_len]; exact Nat.le_refl _)]
      have eg : (restB m (n % m) ++ post)[wideN m - 1]? = some ((n % m + shortN m) % 2 == 1) := by
        rw [er, ef, hd, List.append_assoc, Nat.add_sub_cancel]
        rw [List.getElem?_append_right (by rw [fig_len]; exact Nat.le_refl _), fig_len, Nat.sub_self]
        rfl
      have hlt : (n % m + shortN m) / 2 < 2 ^ d := by
        have : 2 ^ wideN m = 2 * 2 ^ d := by rw [hd, Nat.pow_succ']
        omega
      rw [if_neg (by rw [List.length_append]; omega), et, worth_fig, Nat.mod_eq_of_lt hlt, if_pos ⟨by omega, by omega⟩, if_neg (by rw [List.length_append]; omega), eg, hlen, el]
      congr 2
      have hb : (if some ((n % m + shortN m) % 2 == 1) = some true then 1 else 0) = (n % m + shortN m) % 2 := by
        rcases Nat.mod_two_eq_zero_or_one (n % m + shortN m) with h | h <;> rw [h] <;> rfl
      rw [hb]
      omega
theorem rd_some (m : Nat) (hm : 1 ≤ m) (l : List Bool) (n e : Nat) (h : rd m l = some (n, e)) : ∃ post, l = wordB m n ++ post ∧ e = (wordB m n).length := by
  unfold rd at h
  simp only at h
  have hsa := @short_add m
  by_cases h1 : l.length ≤ onesN l
  · rw [if_pos h1] at h
    cases h
  rw [if_neg h1] at h
  have hl := ones_split l (by omega)
  generalize onesN l = k at *
  generalize l.drop (k + 1) = t at *
  subst hl
  by_cases h2 : t.length < wideN m - 1
  · rw [if_pos h2] at h
    cases h
  rw [if_neg h2] at h
  have tl : (t.take (wideN m - 1)).length = wideN m - 1 := by
    rw [List.length_take]
    omega
  have wl := worth_lt (t.take (wideN m - 1))
  rw [tl] at wl
  have fw := fig_worth (t.take (wideN m - 1))
  rw [tl] at fw
  by_cases h3 : 0 < wideN m ∧ shortN m ≤ worth (t.take (wideN m - 1))
  · rw [if_pos h3] at h
    by_cases h4 : t.length < wideN m
    · rw [if_pos h4] at h
      cases h
    rw [if_neg h4] at h
    obtain ⟨b, hb⟩ : ∃ b, t[wideN m - 1]? = some b := ⟨_, List.getElem?_eq_getElem (by omega)⟩
    rw [hb] at h
    have e2 := pow_half (c := wideN m) (by omega)
    generalize hbv : (if some b = some true then 1 else 0) = bv at h
    have hbv2 : bv ≤ 1 := by
      rw [← hbv]
      split <;> omega
    obtain ⟨rfl, rfl⟩ : k * m + (2 * worth (t.take (wideN m - 1)) + bv - shortN m) = n ∧ k + 1 + wideN m = e := by
      have := Option.some.inj h
      exact ⟨congrArg (·.1) this, congrArg (·.2) this⟩
    have r0 : 2 * worth (t.take (wideN m - 1)) + bv - shortN m < m := by omega
    have d1 : (k * m + (2 * worth (t.take (wideN m - 1)) + bv - shortN m)) / m = k := by
      rw [Nat.add_comm, Nat.add_mul_div_right _ _ (by omega), Nat.div_eq_of_lt r0, Nat.zero_add]
    have d2 : (k * m + (2 * worth (t.take (wideN m - 1)) + bv - shortN m)) % m = 2 * worth (t.take (wideN m - 1)) + bv - shortN m := by
      rw [Nat.add_comm, Nat.add_mul_mod_self_right, Nat.mod_eq_of_lt r0]
    have et : t.take (wideN m) = t.take (wideN m - 1) ++ [b] := by
      have := take_more hb
      rw [show wideN m - 1 + 1 = wideN m by omega] at this
      exact this
    have er : restB m (2 * worth (t.take (wideN m - 1)) + bv - shortN m) = t.take (wideN m) := by
      unfold restB
      rw [if_neg (by omega), show 2 * worth (t.take (wideN m - 1)) + bv - shortN m + shortN m = 2 * worth (t.take (wideN m - 1)) + bv by omega]
      have hw := worth_snoc (t.take (wideN m - 1)) b
      have hw2 : worth (t.take (wideN m)) = 2 * worth (t.take (wideN m - 1)) + bv := by
        rw [et, hw, ← hbv]
        cases b <;> rfl
      rw [← hw2]
      have := fig_worth (t.take (wideN m))
      rw [List.length_take, Nat.min_eq_left (by omega)] at this
      exact this
    refine ⟨t.drop (wideN m), ?_, ?_⟩
    · unfold wordB
      rw [d1, d2, er, List.append_assoc, List.cons_append, List.take_append_drop]
    · rw [word_len, d1, d2, er, List.length_take]
      omega
  · rw [if_neg h3] at h
    obtain ⟨rfl, rfl⟩ : k * m + worth (t.take (wideN m - 1)) = n ∧ k + 1 + (wideN m - 1) = e := by
      have := Option.some.inj h
      exact ⟨congrArg (·.1) this, congrArg (·.2) this⟩
    have r0 : worth (t.take (wideN m - 1)) < m := by
      by_cases w0 : wideN m = 0
      · rw [w0] at wl
        simp at wl
        rw [w0]
        simp [worth]
        omega
      · have := short_lt hm
        have : worth (t.take (wideN m - 1)) < shortN m := Nat.not_le.mp fun z => h3 ⟨by omega, z⟩
        omega
    have d1 : (k * m + worth (t.take (wideN m - 1))) / m = k := by
      rw [Nat.add_comm, Nat.add_mul_div_right _ _ (by omega), Nat.div_eq_of_lt r0, Nat.zero_add]
    have d2 : (k * m + worth (t.take (wideN m - 1))) % m = worth (t.take (wideN m - 1)) := by
      rw [Nat.add_comm, Nat.add_mul_mod_self_right, Nat.mod_eq_of_lt r0]
    have er : restB m (worth (t.take (wideN m - 1))) = t.take (wideN m - 1) := by
      unfold restB
      by_cases w0 : wideN m = 0
      · rw [if_neg (by have := short_zero w0 hm; subst this; have : shortN 1 = 0 := by decide
                       omega), w0]
        simp [fig]
      · have : worth (t.take (wideN m - 1)) < shortN m := Nat.not_le.mp fun z => h3 ⟨by omega, z⟩
        rw [if_pos this]
        exact fw
    refine ⟨t.drop (wideN m - 1), ?_, ?_⟩
    · unfold wordB
      rw [d1, d2, er, List.append_assoc, List.cons_append, List.take_append_drop]
    · rw [word_len, d1, d2, er, List.length_take]
      omega
theorem word_pre {m : Nat} (hm : 1 ≤ m) {a b : Nat} {p q : List Bool} (h : wordB m a ++ p = wordB m b ++ q) : a = b ∧ p = q := by
  have e1 := rd_word m hm a p
  have e2 := rd_word m hm b q
  rw [h, e2] at e1
  have e3 : b = a := congrArg (·.1) (Option.some.inj e1)
  subst e3
  exact ⟨rfl, List.append_cancel_left h⟩
theorem word_pos (m n : Nat) : 1 ≤ (wordB m n).length := by
  rw [word_len]
  generalize n / m = k
  omega
theorem ones_at : ∀ (l : List Bool) (i : Nat), i ≤ onesN l → (l[i]? = some true ↔ i < onesN l)
  | [], i, h => by
    have e : onesN [] = 0 := rfl
    rw [e]
    simp
  | false :: r, i, h => by
    have e : onesN (false :: r) = 0 := rfl
    rw [e] at h ⊢
    have : i = 0 := by omega
    subst this
    simp
  | true :: r, 0, h => by
    have e : onesN (true :: r) = onesN r + 1 := rfl
    rw [e]
    simp
  | true :: r, i + 1, h => by
    have e : onesN (true :: r) = onesN r + 1 := rfl
    rw [e] at h ⊢
    have ih := ones_at r i (by omega)
    rw [List.getElem?_cons_succ, ih]
    omega
theorem ones_le (l : List Bool) : onesN l ≤ l.length := by
  induction l with
  | nil => exact Nat.le_refl _
  | cons b r ih =>
    cases b
    · exact Nat.zero_le _
    · show onesN r + 1 ≤ r.length + 1
      omega
def bitN (t : List Bool) (i : Nat) : Nat := if t[i]? = some true then 1 else 0
theorem bitN_le (t : List Bool) (i : Nat) : bitN t i ≤ 1 := by
  unfold bitN
  split <;> omega
/-- what the first figures tell, those that lack being 0 -/
def pvN (t : List Bool) : Nat → Nat
  | 0 => 0
  | i + 1 => 2 * pvN t i + bitN t i
theorem pvN_eq (t : List Bool) : ∀ i, i ≤ t.length → pvN t i = worth (t.take i)
  | 0, _ => by simp [pvN, worth]
  | i + 1, h => by
    have ih := pvN_eq t i (by omega)
    have e : t[i]? = some t[i] := List.getElem?_eq_getElem (by omega)
    rw [pvN, ih, take_more e, worth_snoc]
    unfold bitN
    rw [e]
    cases t[i] <;> rfl
theorem pvN_lt (t : List Bool) : ∀ i, pvN t i < 2 ^ i
  | 0 => Nat.one_pos
  | i + 1 => by
    have ih := pvN_lt t i
    have := bitN_le t i
    rw [pvN, Nat.pow_succ]
    omega
/-- the same with figures that may lack, as the program reckons -/
theorem rd_pv (m : Nat) (l : List Bool) : rd m l =
    (if l.length ≤ onesN l then none else
      if 0 < wideN m ∧ shortN m ≤ pvN (l.drop (onesN l + 1)) (wideN m - 1) then
        (if onesN l + 1 + (wideN m - 1) + 1 ≤ l.length then some (onesN l * m + (2 * pvN (l.drop (onesN l + 1)) (wideN m - 1) + bitN (l.drop (onesN l + 1)) (wideN m - 1) - shortN m), onesN l + 1 + (wideN m - 1) + 1) else none)
      else (if onesN l + 1 + (wideN m - 1) ≤ l.length then some (onesN l * m + pvN (l.drop (onesN l + 1)) (wideN m - 1), onesN l + 1 + (wideN m - 1)) else none)) := by
  unfold rd
  simp only
  by_cases h1 : l.length ≤ onesN l
  · rw [if_pos h1, if_pos h1]
  rw [if_neg h1, if_neg h1]
  have tl : (l.drop (onesN l + 1)).length = l.length - (onesN l + 1) := List.length_drop
  by_cases h2 : (l.drop (onesN l + 1)).length < wideN m - 1
  · rw [if_pos h2]
    split
    · rw [if_neg (by omega)]
    · rw [if_neg (by omega)]
  rw [if_neg h2, pvN_eq _ _ (by omega)]
  by_cases h3 : 0 < wideN m ∧ shortN m ≤ worth ((l.drop (onesN l + 1)).take (wideN m - 1))
  · rw [if_pos h3, if_pos h3]
    by_cases h4 : (l.drop (onesN l + 1)).length < wideN m
    · rw [if_pos h4, if_neg (by omega)]
    · rw [if_neg h4]
      unfold bitN
      rw [if_pos (show onesN l + 1 + (wideN m - 1) + 1 ≤ l.length by omega)]
      rw [show onesN l + 1 + wideN m = onesN l + 1 + (wideN m - 1) + 1 by omega]
  · rw [if_neg h3, if_neg h3, if_pos (by omega)]
/-- the number whose word begins at a place, and where it ends -/
def feN (m : Nat) (l : List Bool) (b : Nat) : Option (Nat × Nat) := (rd m (l.drop b)).map fun p => (p.1, b + p.2)
theorem rd_le {m : Nat} {l : List Bool} {n e : Nat} (hm : 1 ≤ m) (h : rd m l = some (n, e)) : 1 ≤ e ∧ e ≤ l.length := by
  obtain ⟨post, rfl, rfl⟩ := rd_some m hm l n e h
  exact ⟨word_pos m n, by rw [List.length_append]; omega⟩
/-- all words that stand one behind the other, and where each ends -/
def cutsF (m : Nat) : Nat → List Bool → Nat → List (Nat × Nat)
  | 0, _, _ => []
  | f + 1, l, b => match rd m l with
    | none => []
    | some (n, e) => (n, b + e) :: cutsF m f (l.drop e) (b + e)
def cuts (m : Nat) (l : List Bool) : List (Nat × Nat) := cutsF m (l.length + 1) l 0
theorem cutsF_none {m : Nat} {l : List Bool} (h : rd m l = none) (f b : Nat) : cutsF m f l b = [] := by
  cases f with
  | zero => rfl
  | succ f => rw [cutsF, h]
theorem cutsF_some {m : Nat} {l : List Bool} {n e : Nat} (h : rd m l = some (n, e)) (f b : Nat) : cutsF m (f + 1) l b = (n, b + e) :: cutsF m f (l.drop e) (b + e) := by
  rw [cutsF, h]
theorem cutsF_fuel {m : Nat} (hm : 1 ≤ m) : ∀ (f g : Nat) (l : List Bool) (b : Nat), l.length < f → l.length < g → cutsF m f l b = cutsF m g l b
  | 0, _, _, _, h, _ => by omega
  | _ + 1, 0, _, _, _, h => by omega
  | f + 1, g + 1, l, b, h1, h2 => by
    cases h : rd m l with
    | none => rw [cutsF_none h, cutsF_none h]
    | some p =>
      obtain ⟨n, e⟩ := p
      obtain ⟨e1, e2⟩ := rd_le hm h
      rw [cutsF_some h, cutsF_some h]
      rw [cutsF_fuel hm f g (l.drop e) (b + e) (by rw [List.length_drop]; omega) (by rw [List.length_drop]; omega)]
theorem rd_nil (m : Nat) : rd m [] = none := by
  unfold rd
  simp
theorem cuts_word {m : Nat} (hm : 1 ≤ m) (n : Nat) : cuts m (wordB m n) = [(n, (wordB m n).length)] := by
  have h := rd_word m hm n []
  rw [List.append_nil] at h
  unfold cuts
  rw [cutsF_some h, List.drop_length, cutsF_none (rd_nil m), Nat.zero_add]
/-! ### words of greater numbers are greater -/
def ltB (a b : List Bool) : Prop := ∃ c p q, a = c ++ false :: p ∧ b = c ++ true :: q
theorem worth_ltB : ∀ (a b : List Bool) (p q : List Bool), a.length = b.length → worth a < worth b → ltB (a ++ p) (b ++ q)
  | [], b, p, q, hl, h => by
    cases b with
    | nil => exact absurd h (by decide)
    | cons => cases hl
  | x :: a, [], p, q, hl, h => by cases hl
  | x :: a, y :: b, p, q, hl, h => by
    have hl' : a.length = b.length := by simpa using hl
    rw [worth, worth, hl'] at h
    have h1 := worth_lt a
    have h2 := worth_lt b
    rw [hl'] at h1
    cases x <;> cases y
    · obtain ⟨c, p', q', e1, e2⟩ := worth_ltB a b p q hl' (by simpa using h)
      exact ⟨false :: c, p', q', by rw [List.cons_append, e1]; rfl, by rw [List.cons_append, e2]; rfl⟩
    · exact ⟨[], a ++ p, b ++ q, rfl, rfl⟩
    · simp at h
      omega
    · obtain ⟨c, p', q', e1, e2⟩ := worth_ltB a b p q hl' (by simpa using h)
      exact ⟨true :: c, p', q', by rw [List.cons_append, e1]; rfl, by rw [List.cons_append, e2]; rfl⟩
theorem ltB_pre (c : List Bool) {a b : List Bool} (h : ltB a b) : ltB (c ++ a) (c ++ b) := by
  obtain ⟨d, p, q, rfl, rfl⟩ := h
  exact ⟨c ++ d, p, q, by rw [List.append_assoc], by rw [List.append_assoc]⟩
theorem rest_ltB {m r s : Nat} (hm : 1 ≤ m) (hs : s < m) (h : r < s) : ltB (restB m r) (restB m s) := by
  have hsa := @short_add m
  unfold restB
  by_cases c1 : s < shortN m
  · have w1 : 1 ≤ wideN m := by
      refine Nat.not_lt.mp fun z => ?_
      have e := short_zero (show wideN m = 0 by omega) hm
      subst e
      have : shortN 1 = 0 := by decide
      omega
    have hh := short_half w1
    rw [if_pos (by omega), if_pos c1]
    have := worth_ltB (fig r (wideN m - 1)) (fig s (wideN m - 1)) [] [] (by rw [fig_len, fig_len]) (by rw [worth_fig, worth_fig, Nat.mod_eq_of_lt (by omega), Nat.mod_eq_of_lt (by omega)]; exact h)
    simpa using this
  · rw [if_neg c1]
    by_cases c2 : r < shortN m
    · rw [if_pos c2]
      have w1 : 1 ≤ wideN m := by
        refine Nat.not_lt.mp fun z => ?_
        have e := short_zero (show wideN m = 0 by omega) hm
        subst e
        have : shortN 1 = 0 := by decide
        omega
      have hh := short_half w1
      have ph := pow_half w1
      obtain ⟨d, hd⟩ : ∃ d, wideN m = d + 1 := ⟨wideN m - 1, by omega⟩
      rw [hd, fig_snoc, Nat.add_sub_cancel]
      rw [hd, Nat.add_sub_cancel] at hh ph
      have := worth_ltB (fig r d) (fig ((s + shortN m) / 2) d) [] [(s + shortN m) % 2 == 1] (by rw [fig_len, fig_len]) (by
        rw [worth_fig, worth_fig, Nat.mod_eq_of_lt (by omega), Nat.mod_eq_of_lt (by rw [hd] at hsa; omega)]
        omega)
      simpa using this
    · rw [if_neg c2]
      have := worth_ltB (fig (r + shortN m) (wideN m)) (fig (s + shortN m) (wideN m)) [] [] (by rw [fig_len, fig_len]) (by rw [worth_fig, worth_fig, Nat.mod_eq_of_lt (by omega), Nat.mod_eq_of_lt (by omega)]; omega)
      simpa using this
theorem word_ltB {m a b : Nat} (hm : 1 ≤ m) (h : a < b) : ltB (wordB m a) (wordB m b) := by
  have ha := Nat.div_add_mod' a m
  have hb := Nat.div_add_mod' b m
  have ra := Nat.mod_lt a (show m > 0 by omega)
  have rb := Nat.mod_lt b (show m > 0 by omega)
  have hle : a / m ≤ b / m := Nat.div_le_div_right (by omega)
  unfold wordB
  by_cases c : a / m = b / m
  · rw [c]
    refine ltB_pre _ ?_
    have := ltB_pre [false] (rest_ltB (m := m) (r := a % m) (s := b % m) hm rb (by rw [c] at ha; omega))
    simpa using this
  · obtain ⟨d, hd⟩ : ∃ d, b / m = a / m + (d + 1) := ⟨b / m - a / m - 1, by omega⟩
    rw [hd, ← List.replicate_append_replicate, List.append_assoc]
    refine ltB_pre _ ⟨[], restB m (a % m), List.replicate d true ++ false :: restB m (b % m), rfl, ?_⟩
    rw [List.replicate_succ]
    rfl
theorem ltB_codes {a b : List Bool} (h : ltB a b) : a.map sg < b.map sg := by
  obtain ⟨c, p, q, rfl, rfl⟩ := h
  rw [List.map_append, List.map_append]
  induction c with
  | nil =>
    show (48 :: p.map sg : List Nat) < 49 :: q.map sg
    exact List.Lex.rel (by decide)
  | cons x c ih => exact List.Lex.cons ih
theorem codes_irrefl (a : List Nat) : ¬ a < a := List.lt_irrefl a
theorem ltB_not {a b : List Bool} (h : ltB a b) : ¬ b.map sg < a.map sg := fun z => List.lt_irrefl _ (List.lt_trans (ltB_codes h) z)
/-- where the last word ends -/
def endOf (r : List (Nat × Nat)) : Nat := (r.getLast?.map (·.2)).getD 0
theorem endOf_snoc (r : List (Nat × Nat)) (x : Nat × Nat) : endOf (r ++ [x]) = x.2 := by
  unfold endOf
  rw [List.getLast?_concat]
  rfl
/-- vs are tuples of these pairs -/
structure PrAt (H : Hp) (vs : List V) (r : List (Nat × Nat)) : Prop where
  len : vs.length = r.length
  at_ : ∀ (i : Nat) (x : Nat × Nat), r[i]? = some x → ∃ t, vs[i]? = some (.ref t) ∧ H t = some (.tup [.int (x.1 : Nat), .int (x.2 : Nat)])
theorem PrAt.same {H H' : Hp} {vs : List V} {r : List (Nat × Nat)} (h : PrAt H vs r) (s : Same H H') : PrAt H' vs r := ⟨h.len, fun i x e => by
  obtain ⟨t, a, b⟩ := h.at_ i x e
  exact ⟨t, a, s _ _ b⟩⟩
theorem PrAt.snoc {H : Hp} {vs : List V} {r : List (Nat × Nat)} {t : Addr} {n e : Nat} (h : PrAt H vs r) (ht : H t = some (.tup [.int (n : Nat), .int (e : Nat)])) : PrAt H (vs ++ [.ref t]) (r ++ [(n, e)]) := by
  refine ⟨by rw [List.length_append, List.length_append, h.len]; rfl, fun i x hx => ?_⟩
  by_cases hi : i < r.length
  · rw [List.getElem?_append_left hi] at hx
    obtain ⟨t', a, b⟩ := h.at_ i x hx
    exact ⟨t', by rw [List.getElem?_append_left (by rw [h.len]; exact hi)]; exact a, b⟩
  · have hi2 : i < (r ++ [(n, e)]).length := (List.getElem?_eq_some_iff.mp hx).1
    rw [List.length_append, List.length_singleton] at hi2
    have : i = r.length := by omega
    subst this
    rw [List.getElem?_append_right (Nat.le_refl _), Nat.sub_self] at hx
    cases Option.some.inj hx
    exact ⟨t, by rw [← h.len, List.getElem?_append_right (Nat.le_refl _), Nat.sub_self]; rfl, ht⟩
def prD (r : List (Nat × Nat)) : List PyData := r.map fun p => .tuple [.int (p.1 : Nat), .int (p.2 : Nat)]
theorem PrAt.dpAll {K : PySem.W.Frag} {H : Hp} : ∀ {vs : List V} {r : List (Nat × Nat)}, PrAt H vs r → DpAll K H vs (prD r)
  | [], [], _ => .nil
  | [], _ :: _, h => by have := h.len; cases this
  | _ :: _, [], h => by have := h.len; cases this
  | v :: vs, x :: r, h => by
    obtain ⟨t, a, b⟩ := h.at_ 0 x rfl
    cases Option.some.inj a
    have h' : PrAt H vs r := ⟨by have := h.len; simpa using this, fun i y e => h.at_ (i + 1) y e⟩
    exact .cons (.tup (.inl (.inl b)) (.cons (.int _) (.cons (.int _) .nil))) (PrAt.dpAll h')
theorem prD_ok (r : List (Nat × Nat)) : OkN 2 (.list (prD r)) := by
  intro d hd
  obtain ⟨p, _, rfl⟩ := List.mem_map.mp hd
  intro d hd
  simp only [List.mem_cons, List.not_mem_nil, or_false] at hd
  rcases hd with rfl | rfl <;> trivial
theorem rd_bound {m : Nat} (hm : 1 ≤ m) {l : List Bool} {b n e : Nat} (hb : b ≤ l.length) (h : feN m l b = some (n, e)) : b < e ∧ e ≤ l.length ∧ ∃ d, rd m (l.drop b) = some (n, d) ∧ e = b + d := by
  unfold feN at h
  cases h2 : rd m (l.drop b) with
  | none => rw [h2] at h; cases h
  | some p =>
    obtain ⟨n', d⟩ := p
    rw [h2] at h
    obtain ⟨rfl, rfl⟩ : n' = n ∧ b + d = e := by
      have := Option.some.inj h
      exact ⟨congrArg (·.1) this, congrArg (·.2) this⟩
    have := rd_le hm h2
    rw [List.length_drop] at this
    exact ⟨by omega, by omega, d, rfl, rfl⟩
theorem fe_none {m : Nat} {l : List Bool} {b : Nat} (h : feN m l b = none) : rd m (l.drop b) = none := by
  unfold feN at h
  cases h2 : rd m (l.drop b) with
  | none => rfl
  | some p => rw [h2] at h; cases h
theorem cuts_step {m : Nat} (hm : 1 ≤ m) {l : List Bool} {b n e : Nat} (hb : b ≤ l.length) (h : feN m l b = some (n, e)) :
    cutsF m ((l.drop b).length + 1) (l.drop b) b = (n, e) :: cutsF m ((l.drop e).length + 1) (l.drop e) e := by
  obtain ⟨h1, h2, d, h3, rfl⟩ := rd_bound hm hb h
  rw [cutsF_some h3, List.drop_drop]
  rw [cutsF_fuel hm (l.drop b).length ((l.drop (b + d)).length + 1) (l.drop (b + d)) (b + d) (by rw [List.length_drop, List.length_drop]; omega) (by omega)]
theorem cutsF_len {m : Nat} (hm : 1 ≤ m) : ∀ (f : Nat) (l : List Bool) (b : Nat), (cutsF m f l b).length ≤ l.length
  | 0, _, _ => Nat.zero_le _
  | f + 1, l, b => by
    cases h : rd m l with
    | none => rw [cutsF_none h]; exact Nat.zero_le _
    | some p =>
      obtain ⟨n, e⟩ := p
      obtain ⟨e1, e2⟩ := rd_le hm h
      have := cutsF_len hm f (l.drop e) (b + e)
      rw [cutsF_some h, List.length_cons]
      rw [List.length_drop] at this
      omega
theorem cuts_len {m : Nat} (hm : 1 ≤ m) (l : List Bool) : (cuts m l).length ≤ l.length := cutsF_len hm _ l 0
end St
namespace St
open PySem PySem.Spec PyProof.Rows L2
/-! ### lengths of words by two steps -/
def lenN (m n : Nat) : Nat := n / m + 1 + (restB m (n % m)).length
theorem lenN_word (m n : Nat) : (wordB m n).length = lenN m n := word_len m n
theorem lenN_lo (m n : Nat) : n / m + 1 ≤ lenN m n := by
  unfold lenN
  omega
theorem lenN_hi (m n : Nat) : lenN m n ≤ n / m + 1 + wideN m := by
  unfold lenN
  have := rest_len_le m (n % m)
  omega
/-- a number from which on words by the lesser step are longer -/
def lateN (a b : Nat) : Nat := (wideN (max a b) + 2) * min a b * max a b / (max a b - min a b) + max a b
theorem lateN_comm (a b : Nat) : lateN a b = lateN b a := by
  unfold lateN
  rw [Nat.max_comm, Nat.min_comm]
theorem late_longer {a b n : Nat} (ha : 1 ≤ a) (hab : a < b) (hn : lateN a b ≤ n) : lenN b n < lenN a n := by
  have e1 : max a b = b := Nat.max_eq_right (Nat.le_of_lt hab)
  have e2 : min a b = a := Nat.min_eq_left (Nat.le_of_lt hab)
  unfold lateN at hn
  rw [e1, e2] at hn
  have h1 := lenN_lo a n
  have h2 := lenN_hi b n
  obtain ⟨w, hw⟩ : ∃ w, wideN b = w := ⟨_, rfl⟩
  rw [hw] at h2 hn
  suffices h : n / b + w < n / a by omega
  obtain ⟨d, rfl⟩ : ∃ d, b = a + d := ⟨b - a, by omega⟩
  have hd : 0 < d := by omega
  rw [Nat.add_sub_cancel_left] at hn
  obtain ⟨X, hX⟩ : ∃ X, (w + 2) * a * (a + d) = X := ⟨_, rfl⟩
  rw [hX] at hn
  have q1 : X < d * (X / d) + d := by
    have := Nat.div_add_mod X d
    have := Nat.mod_lt X hd
    omega
  have q2 : d * (X / d + (a + d)) ≤ d * n := Nat.mul_le_mul_left d hn
  rw [Nat.mul_add] at q2
  have q3 : d * 1 ≤ d * (a + d) := Nat.mul_le_mul_left d (by omega)
  have q4 : X < d * n := by omega
  obtain ⟨x, hx⟩ : ∃ x, n / a = x := ⟨_, rfl⟩
  obtain ⟨y, hy⟩ : ∃ y, n / (a + d) = y := ⟨_, rfl⟩
  rw [hx, hy]
  have u1 : n < a * (x + 1) := by
    rw [← hx]
    exact Nat.lt_mul_div_succ n ha
  have u2 : (a + d) * y ≤ n := by
    rw [← hy]
    exact Nat.mul_div_le n (a + d)
  -- (a + d) * n < (a + d) * a * (x + 1); a * (a + d) * y ≤ a * n
  have v1 : (a + d) * n < (a + d) * (a * (x + 1)) := Nat.mul_lt_mul_of_pos_left u1 (by omega)
  have v2 : a * ((a + d) * y) ≤ a * n := Nat.mul_le_mul_left a u2
  have v3 : (a + d) * n = a * n + d * n := Nat.add_mul a d n
  have e3 : (a + d) * (a * (x + 1)) = (a * (a + d)) * (x + 1) := by grind
  have e4 : a * ((a + d) * y) = (a * (a + d)) * y := by grind
  have e5 : X = (a * (a + d)) * (w + 2) := by
    rw [← hX]
    grind
  have v4 : (a * (a + d)) * (y + (w + 2)) < (a * (a + d)) * (x + 1) := by
    rw [Nat.mul_add, ← e4, ← e5, ← e3]
    omega
  have := Nat.lt_of_mul_lt_mul_left v4
  omega
theorem late_bound {a b : Nat} (ha : 1 ≤ a) (hb : 1 ≤ b) (ha' : a ≤ 64) (hb' : b ≤ 64) : lateN a b ≤ 100000 := by
  unfold lateN
  have h6 := wide_64 (m := max a b) (by omega)
  have h1 : (wideN (max a b) + 2) * min a b ≤ 8 * 64 := Nat.mul_le_mul (by omega) (by omega)
  have h2 : (wideN (max a b) + 2) * min a b * max a b ≤ 8 * 64 * 64 := Nat.mul_le_mul h1 (by omega)
  have h3 := Nat.div_le_self ((wideN (max a b) + 2) * min a b * max a b) (max a b - min a b)
  omega
theorem late_num {a b : Nat} (ha : 1 ≤ a) (hb : 1 ≤ b) (ha' : a ≤ 64) (hb' : b ≤ 64) : (wideN (max a b) + 2) * min a b ≤ 512 := Nat.mul_le_mul (show _ ≤ 8 by have := wide_64 (m := max a b) (by omega); omega) (show _ ≤ 64 by omega)
/-! the least of pairs -/
def encP (p : Int × Int) : PyData := .tuple [.int p.1, .int p.2]
def lexI (p q : Int × Int) : Prop := p.1 < q.1 ∨ (p.1 = q.1 ∧ p.2 ≤ q.2)
theorem minD_ii (x : Int × Int) (xs : List (Int × Int)) : ∃ m, m ∈ x :: xs ∧ PySem.W.minD (encP x) (xs.map encP) = encP m ∧ ∀ y ∈ x :: xs, lexI m y := by
  unfold PySem.W.minD
  induction xs generalizing x with
  | nil => exact ⟨x, List.mem_singleton.mpr rfl, rfl, fun y hy => by rw [List.mem_singleton.mp hy]; exact .inr ⟨rfl, Int.le_refl _⟩⟩
  | cons z zs ih =>
    rw [List.map_cons, List.foldl_cons]
    have e : (if PySem.W.dataLt (encP z) (encP x) = true then encP z else encP x) = encP (if z.1 < x.1 ∨ (z.1 = x.1 ∧ z.2 < x.2) then z else x) := by
      have e1 : PySem.W.dataLt (encP z) (encP x) = decide (z.1 < x.1 ∨ (z.1 = x.1 ∧ z.2 < x.2)) := PySem.W.dataLt_ii _ _ _ _
      rw [e1]
      by_cases c : z.1 < x.1 ∨ (z.1 = x.1 ∧ z.2 < x.2)
      · rw [if_pos (decide_eq_true c), if_pos c]
      · rw [if_neg (by rw [decide_eq_false c]; exact Bool.false_ne_true), if_neg c]
    rw [e]
    obtain ⟨m, h1, h2, h3⟩ := ih (if z.1 < x.1 ∨ (z.1 = x.1 ∧ z.2 < x.2) then z else x)
    refine ⟨m, ?_, h2, ?_⟩
    · rcases List.mem_cons.mp h1 with h | h
      · rw [h]
        split
        · exact List.mem_cons_of_mem _ List.mem_cons_self
        · exact List.mem_cons_self
      · exact List.mem_cons_of_mem _ (List.mem_cons_of_mem _ h)
    · have h4 := h3 _ List.mem_cons_self
      intro y hy
      rcases List.mem_cons.mp hy with rfl | hy
      · unfold lexI at *
        split at h4 <;> omega
      rcases List.mem_cons.mp hy with rfl | hy
      · unfold lexI at *
        split at h4 <;> omega
      · exact h3 y (List.mem_cons_of_mem _ hy)
theorem alike_encP (p q : Int × Int) : PySem.W.alike (encP p) (encP q) = true := by simp [encP, PySem.W.alike, PySem.W.alikeAll]
theorem encP_inj {p q : Int × Int} (h : encP p = encP q) : p = q := by
  unfold encP at h
  injection h with h
  injection h with h1 h2
  injection h1 with h1
  injection h2 with h2 _
  injection h2 with h2
  exact Prod.ext h1 h2
theorem alikeAll_encP (l : List (Int × Int)) : PySem.W.AlikeAll (l.map encP) := by
  refine ⟨fun x hx y hy => ?_, fun x hx => ?_⟩
  · obtain ⟨p, _, rfl⟩ := List.mem_map.mp hx
    obtain ⟨q, _, rfl⟩ := List.mem_map.mp hy
    exact alike_encP p q
  · obtain ⟨p, _, rfl⟩ := List.mem_map.mp hx
    intro z
    cases z
theorem depth_encP : ∀ l : List (Int × Int), PyData.depthAll (l.map encP) ≤ 1
  | [] => by simp [PyData.depthAll]
  | p :: r => by
    have := depth_encP r
    have e : (encP p).depth ≤ 1 := by simp [encP, PyData.depth, PyData.depthAll]
    rw [List.map_cons, PyData.depthAll]
    omega
/-- the signs together -/
def sumsN (ns : List Nat) (m : Nat) : Nat := (ns.map (lenN m)).sum
theorem sum_natI (f : Nat → Nat) (ns : List Nat) : (ns.map fun n => ((f n : Nat) : Int)).sum = (((ns.map f).sum : Nat) : Int) := by
  induction ns with
  | nil => rfl
  | cons a r ih => rw [List.map_cons, List.sum_cons, List.map_cons, List.sum_cons, ih, Int.natCast_add]
/-- step s has the fewest signs, the least such -/
def BestS (ns : List Nat) (s : Nat) : Prop := 1 ≤ s ∧ s ≤ 64 ∧ ∀ t, 1 ≤ t → t ≤ 64 → sumsN ns s < sumsN ns t ∨ (sumsN ns s = sumsN ns t ∧ s ≤ t)
theorem BestS.one {ns : List Nat} {s t : Nat} (h : BestS ns s) (h' : BestS ns t) : s = t := by
  have a := h.2.2 t h'.1 h'.2.1
  have b := h'.2.2 s h.1 h.2.1
  omega
theorem minS {K : PySem.W.Frag} {H3 : Hp} {ts : List Addr} {ns : List Nat} (hts : ts.length = 64) (he : ∀ (i : Nat) (t : Addr), ts[i]? = some t → H3 t = some (.tup [.int (sumsN ns (i + 1) : Nat), .int ((i + 1 : Nat) : Int)])) :
    ∃ (d : PyData) (ds : List PyData) (s : Nat), (∀ H4, Same H3 H4 → DpAll K H4 (ts.map V.ref) (d :: ds)) ∧ PySem.W.AlikeAll (d :: ds) ∧ PyData.depthAll (d :: ds) ≤ 50 ∧ BestS ns s ∧
      ∀ (i : Nat) (x : V), (ts.map V.ref)[i]? = some x → (d :: ds)[i]? = some (PySem.W.minD d ds) → ∃ t, x = .ref t ∧ H3 t = some (.tup [.int (sumsN ns s : Nat), .int (s : Nat)]) := by
  obtain ⟨ps, hps⟩ : ∃ ps : List (Int × Int), ps = (List.range 64).map fun i => (((sumsN ns (i + 1) : Nat) : Int), ((i + 1 : Nat) : Int)) := ⟨_, rfl⟩
  have hpl : ps.length = 64 := by rw [hps, List.length_map, List.length_range]
  have hpg : ∀ i, i < 64 → ps[i]? = some (((sumsN ns (i + 1) : Nat) : Int), ((i + 1 : Nat) : Int)) := fun i hi => by
    rw [hps, List.getElem?_map, List.getElem?_range hi]
    rfl
  have hdp : ∀ {H4 : Hp}, Same H3 H4 → DpAll K H4 (ts.map V.ref) (ps.map encP) := fun {H4} s => DpAll.of (by rw [List.length_map, List.length_map, hts, hpl]) fun i x d hx hd => by
    rw [List.getElem?_map] at hx hd
    cases e : ts[i]? with
    | none => rw [e] at hx; cases hx
    | some t =>
      rw [e] at hx
      cases Option.some.inj hx
      have hi : i < 64 := hts ▸ (List.getElem?_eq_some_iff.mp e).1
      rw [hpg i hi] at hd
      cases Option.some.inj hd
      exact .tup (.inl (.inl (s _ _ (he i t e)))) (.cons (.int _) (.cons (.int _) .nil))
  cases hpe : ps with
  | nil => rw [hpe] at hpl; cases hpl
  | cons p0 pr =>
    obtain ⟨m, hm1, hm2, hm3⟩ := minD_ii p0 pr
    rw [hpe] at hdp hpg
    obtain ⟨j, hj⟩ := List.getElem?_of_mem hm1
    have hj64 : j < 64 := by
      have := (List.getElem?_eq_some_iff.mp hj).1
      rw [hpe] at hpl
      omega
    have em := hpg j hj64
    rw [hj] at em
    have em := Option.some.inj em
    refine ⟨encP p0, pr.map encP, j + 1, fun H4 s => hdp s, alikeAll_encP (p0 :: pr), Nat.le_trans (depth_encP (p0 :: pr)) (by decide), ⟨by omega, by omega, fun u u1 u64 => ?_⟩, fun i x hx hd => ?_⟩
    · have hu : (p0 :: pr)[u - 1]? = _ := hpg (u - 1) (by omega)
      rw [show u - 1 + 1 = u by omega] at hu
      have := hm3 _ (List.mem_of_getElem? hu)
      rw [em] at this
      unfold lexI at this
      dsimp only at this
      omega
    · rw [List.getElem?_map] at hx
      cases e : ts[i]? with
      | none => rw [e] at hx; cases hx
      | some t =>
        rw [e] at hx
        have hi : i < 64 := hts ▸ (List.getElem?_eq_some_iff.mp e).1
        rw [hm2, show (encP p0 :: pr.map encP) = (p0 :: pr).map encP from rfl, List.getElem?_map, hpg i hi] at hd
        have := (encP_inj (Option.some.inj hd)).symm
        rw [em] at this
        have ei := congrArg Prod.snd this
        dsimp only at ei
        have ei : i = j := by omega
        subst ei
        exact ⟨t, (Option.some.inj hx).symm, he i t e⟩
end St
namespace St
open PySem PySem.Spec PyProof.Rows L2
/-! ### sorted, min of data (numbers, texts, tuples of these) of any length -/
theorem refs_rel {xs : List V} {us : List Value} (r : Vals xs us) : ∀ {i : Nat} {x : V}, xs[i]? = some x → ∃ u, us[i]? = some u ∧ RelV x u := fun h => r.get h
theorem vals_each : ∀ {xs : List V} {us : List Value}, Vals xs us → PySem.W.EachIs (fun u x => RelV x u) us xs
  | _, _, .nil => .nil
  | _, _, .cons r t => .cons r (vals_each t)
theorem each_vals : ∀ {xs : List V} {us : List Value}, PySem.W.EachIs (fun u x => RelV x u) us xs → Vals xs us
  | _, _, .nil => .nil
  | _, _, .cons r t => .cons r (each_vals t)
/-- sorted(xs), xs a list of data of one form: a new list, the stable arrangement -/
def rSortedD (K : PySem.W.Frag) : List V → Hp → VK → Prop := fun vs H Q => ∃ (a : Addr) (xs : List V) (f : V → PyData), vs = [V.ref a] ∧ SqL K H a xs ∧ (∀ x ∈ xs, Dp K H x (f x)) ∧ PySem.W.AllAlike (xs.map f) ∧ PySem.W.Sortable (xs.map f) ∧ (∀ x ∈ xs, (f x).depth ≤ 50) ∧
  ∀ p, H p = none → Q (.ref p) (upd H p (.lst (xs.mergeSort (PySem.W.dataLe false f))))
section
variable {X : Cx}
theorem cr_sortedD (hu : X.A.units + 64 < cLine) : CallR X (.builtin "sorted") (rSortedD X.K) := by
  intro pins s σ H vs us Q I r h
  obtain ⟨a, xs, f, rfl, hs, hx, ha, hk, hd, q⟩ := h
  obtain ⟨its, rv, hl, hz⟩ := I.list hs
  obtain ⟨u, rfl, ru⟩ := vals1 r
  obtain rfl : u = Value.ref a := ru
  have e0 := vals_each rv
  have er : ∀ {xs : List V} {us : List Value}, (∀ x ∈ xs, Dp X.K H x (f x)) → PySem.W.EachIs (fun u x => RelV x u) us xs → PySem.W.EachIs (fun v b => ∃ as, Reads s.heap v (f b) as) us xs := by
    intro xs us hx e
    induction e with
    | nil => exact .nil
    | cons r t ih => exact .cons (Dp.reads I _ _ _ (hx _ List.mem_cons_self) r) (ih fun x h => hx x (List.mem_cons_of_mem _ h))
  refine PySem.W.sorted_data (R := fun u x => RelV x u) hl.isList e0 (er hx e0) ha hk hz (fun b hb => by have := hd b hb; omega) fun out ho eo => ?_
  obtain ⟨c, hc⟩ := sortedAll_at s.heap its out.toArray
  refine ⟨.ref _, upd H (s.heap.objs.size + 1) (.lst (xs.mergeSort (PySem.W.dataLe false f))), I.laid (t' := s.toks) (fun b o e => sortedAll_old e) (Nat.le_succ _) ⟨?_, out, c, each_vals eo, hc⟩, rfl, q _ (I.hok.fresh (Nat.le_succ _))⟩
  rw [List.length_mergeSort]
  exact hz
theorem cr_sortedD_ (K : PySem.W.Frag) (hu : X.A.units + 64 < cLine) (h : X.K = K := by rfl) : CallR X (.builtin "sorted") (rSortedD K) := h ▸ cr_sortedD hu
/-- min(xs), xs a list of data of one form: the first of the least -/
def rMinD (K : PySem.W.Frag) : List V → Hp → VK → Prop := fun vs H Q => ∃ (a : Addr) (xs : List V) (d : PyData) (ds : List PyData), vs = [V.ref a] ∧ SqL K H a xs ∧ DpAll K H xs (d :: ds) ∧ PySem.W.AlikeAll (d :: ds) ∧ PyData.depthAll (d :: ds) ≤ 50 ∧
  ∀ (i : Nat) (x : V), xs[i]? = some x → (d :: ds)[i]? = some (PySem.W.minD d ds) → Q x H
theorem min_list_dataI {prog : Program} {w : World} {A : Around} {E : Value → Shared → Prop} {s : Shared} {l : Addr} {vs : Array Value} {x : PyData} {xs : List PyData} {as : List Addr} {Q : Value → Shared → Prop} (hh : A.handled = none) (hl : s.heap.IsList l vs) (hr : ReadsAll s.heap vs.toList (x :: xs) as) (ha : PySem.W.AlikeAll (x :: xs)) (hu : A.units + 1 + PyData.depthAll (x :: xs) < cLine)
    (h : ∀ (i : Nat) v h' tk, vs[i]? = some v → (x :: xs)[i]? = some (PySem.W.minD x xs) → (∀ b o, s.heap.get? b = some o → h'.get? b = some o) → Q v { s with heap := h', toks := tk }) :
    wpAny (model prog w) A (call (.builtin "min") [.ref l]) Q E s := by
  have hn : vs.size = xs.length + 1 := PySem.W.readsAll_len hr
  refine PySem.call_min_walkH (PySem.W.iter_listW (A := A.in1) hh hl fun s₂ e W st hfp hw hk => ?_)
  refine ⟨_, _, _, _, _, _, _, s.heap, _, rfl, W, st, hfp, by omega, hw, hk, PySem.W.cmpIn_lt (A := A.in1) hr ha (by show A.units + 1 + _ < _; exact hu), fun v s' hP m => ?_⟩
  obtain ⟨h', tk, rfl, hk'⟩ := PySem.W.moved_old e rfl m
  obtain ⟨e3, e2⟩ := PySem.W.argBest_fold PySem.W.dataLt PyData.none x xs xs.length (Nat.le_refl _)
  rw [List.take_length] at e2
  have e1 : vs.size - 1 = xs.length := by omega
  rw [e1] at hP
  refine h _ v h' tk hP ?_ hk'
  unfold PySem.W.minD
  rw [← e2, List.getD_eq_getElem?_getD]
  cases e : (x :: xs)[PySem.argBest (fun i j => PySem.W.dataLt ((x :: xs).getD i PyData.none) ((x :: xs).getD j PyData.none)) xs.length]? with
  | some y => rfl
  | none =>
    have := List.getElem?_eq_none_iff.mp e
    rw [List.length_cons] at this
    omega
theorem cr_minD (hc : X.calm = true) (hu : X.A.units + 64 < cLine) : CallR X (.builtin "min") (rMinD X.K) := by
  intro pins s σ H vs us Q I r h
  obtain ⟨a, xs, d, ds, rfl, hs, hx, ha, hd, q⟩ := h
  obtain ⟨its, rv, hl, _⟩ := I.list hs
  rw [Vals.ref1 r]
  obtain ⟨as, hr⟩ := Dp.readsAll I _ _ _ hx rv
  refine min_list_dataI (I.ok.hd hc) hl.isList hr ha (by omega) fun i v h' tk hi hj hk => ?_
  have hi' : its[i]? = some v := by simpa using hi
  have hlt : i < xs.length := by
    have := (List.getElem?_eq_some_iff.mp hi').1
    rw [rv.length]
    exact this
  have hxi : xs[i]? = some xs[i] := List.getElem?_eq_getElem hlt
  obtain ⟨u, hu, ru⟩ := rv.get hxi
  rw [hi'] at hu
  cases Option.some.inj hu
  exact ⟨xs[i], H, I.kept hk, ru, q i _ hxi hj⟩
theorem cr_minD_ (K : PySem.W.Frag) (hc : X.calm = true) (hu : X.A.units + 64 < cLine) (h : X.K = K := by rfl) : CallR X (.builtin "min") (rMinD K) := h ▸ cr_minD hc hu
end
end St
namespace St
open PySem PySem.Spec PyProof.Rows L2
/-! ### enumerate over a tuple, over a text -/
theorem meets_enumT (l : Addr) (items : Array Value) (n : Nat) (dct : Option Addr) (sl : Array (Option Value)) :
    Meets (Builtin.«enumerate.__new__» ⟨[.type "enumerate", .ref l], []⟩) (fun _ R s => s.heap.get? l = some { cls := .type "tuple", dict := dct, data := .seq items n, slots := sl } ∧
      R (.ok (.ret (.ref (s.heap.push { cls := .type "tuple_iterator", data := .fields #[.ref l, .int 0 0] }).objs.size)))
        { s with heap := (s.heap.push { cls := .type "tuple_iterator", data := .fields #[.ref l, .int 0 0] }).push { cls := .type "enumerate", data := .fields #[.none, .bool false, .ref s.heap.objs.size, rawInt 0, .none, .none] } }) :=
  .of_wp fun prog w A R s h => by
    obtain ⟨hp, g, d, tk, os⟩ := s; obtain ⟨hl, h⟩ := h
    have hsub := sub_enumerate
    have hL : Heap.IsTuple (Shared.heap ⟨hp, g, d, tk, os⟩) l items := ⟨_, hl, rfl, n, rfl⟩
    wp_walk using AutoSeq1.wpAny_loadPart' hl
    refine wpAny_stack_any fun st => wpAny_pure ?_
    split
    · rename_i c _ _ _ _ _
      cases (c == Value.type "enumerate")
      · wp_walk using AutoSeq1.wpAny_loadPart' hl, wpAny_pyIter_tuple hL
        exact ⟨_, rfl, h⟩
      · wp_walk using AutoSeq1.wpAny_loadPart' hl, wpAny_pyIter_tuple hL
        exact ⟨_, rfl, h⟩
    · wp_walk using AutoSeq1.wpAny_loadPart' hl, wpAny_pyIter_tuple hL
      exact ⟨_, rfl, h⟩
section
variable {prog : Program} {w : World} {A : Around} {E : Value → Shared → Prop} {s : Shared}
theorem call_enumT {l : Addr} {items : Array Value} {Q : Value → Shared → Prop} (hL : s.heap.IsTuple l items)
    (h : ∀ h', IsEnum h' (s.heap.objs.size + 1) s.heap.objs.size 0 .none → h'.IsTupleIter s.heap.objs.size l 0 → h'.objs.size = s.heap.objs.size + 2 →
      (∀ b o, s.heap.get? b = some o → h'.get? b = some o) → Q (.ref (s.heap.objs.size + 1)) { s with heap := h' }) :
    wpAny (model prog w) A (call (.type "enumerate") [.ref l]) Q E s := by
  obtain ⟨⟨c, dct, dt, sl⟩, hl, hc, n, hd⟩ := hL
  replace hc : c = .type "tuple" := hc
  replace hd : dt = .seq items n := hd
  subst hc hd
  refine callType_new F.called_enumerate (by decide) (F.typeCall_enumerate_1 _) (F.newCall_enumerate_1 _) (fun obj => F.args_object_init_2 obj _) F.entry_enumerate_new
    (meets_enumT l items n dct sl) ⟨hl, ?_⟩
  have hz : (s.heap.push { cls := .type "tuple_iterator", data := .fields #[.ref l, .int 0 0] }).objs.size = s.heap.objs.size + 1 := Heap.size_push ..
  show _ ∧ _
  rw [hz]
  have he : IsEnum ((s.heap.push { cls := .type "tuple_iterator", data := .fields #[.ref l, .int 0 0] }).push
      { cls := .type "enumerate", data := .fields #[.none, .bool false, .ref s.heap.objs.size, rawInt 0, .none, .none] }) (s.heap.objs.size + 1) s.heap.objs.size 0 .none := by
    have := Heap.get?_push_size (s.heap.push { cls := .type "tuple_iterator", data := .fields #[.ref l, .int 0 0] })
      (o := { cls := .type "enumerate", data := .fields #[.none, .bool false, .ref s.heap.objs.size, rawInt 0, .none, .none] }) rfl
    rw [hz] at this; exact this
  refine ⟨⟨_, he, rfl⟩, h _ he ⟨_, Heap.get?_push_of_some _ (Heap.get?_push_size _ rfl), rfl, rfl⟩ (by rw [Heap.size_push, hz]) fun b o x => Heap.get?_push_of_some _ (Heap.get?_push_of_some _ x)⟩
end
theorem drawsT {prog : Program} {w : World} {A : Around} (hh : A.handled = none) (it l : Addr) (hne : l ≠ it) (items : Array Value) :
    Draws prog w A it [it, l] items.size (fun i v => items[i]? = some v) (fun i h => h.IsTupleIter it l i ∧ h.IsTuple l items) where
  live := fun _ _ st => let ⟨o, ho, _⟩ := st.1; ⟨o, ho⟩
  frame := fun _ _ _ st hk => ⟨st.1.at fun o e => hk it (by simp) o e, let ⟨o, ho, r⟩ := st.2; ⟨o, hk l (by simp) o ho, r⟩⟩
  item := fun i s Q E hi st hQ => by
    refine RZ.nextOf_tuple_item st.1 st.2 (x := items[i]) (by simp [hi]) fun h' hit' hs' => ?_
    obtain ⟨o, ho, r⟩ := st.2
    exact hQ _ h' s.toks (by simp [hi]) ⟨hit', o, hs'.extBut l o hne ho, r⟩ hs'
  done := fun s Q E st hE => RZ.nextOf_tuple_end hh st.1 st.2 (by simp) hE
theorem enumT_end {prog : Program} {w : World} {A : Around} {E : Value → Shared → Prop} {s : Shared} {e it a : Addr} {i : Nat} {items : Array Value} {z : Int} {old : Value} {Q : Option Value → Shared → Prop} (hh : A.in1.handled = none)
    (he : IsEnum s.heap e it z old) (hit : s.heap.IsTupleIter it a i) (ht : s.heap.IsTuple a items) (hx : items[i]? = none)
    (hQ : ∀ h', Heap.ExtBut it s.heap h' → Q none { s with heap := h' }) : wpAny (model prog w) A (pyNext (.ref e)) Q E s := by
  have hT : s.TypeIs (.ref e) "enumerate" := ⟨_, he, rfl⟩
  unfold pyNext
  refine wpAny_bind (wpAny_attempt (wpAny_callSpecial?_slot (name := Str.ofString "__next__") hT F.slot_enumerate_next
    (wpAny_call_entry F.slot_enumerate_next hT F.entry_enumerate_next ?_ (F.args_enumerate_next_1 _))))
  show wpAny _ _ (field (.ref e) 2 >>= _) _ _ _
  refine wpAny_bind (wpAny_field he rfl (x := .ref it) rfl ?_)
  refine wpAny_bind (RZ.nextOf_tuple_end hh hit ht hx fun h' x he' hx' => ?_)
  obtain ⟨o, ho, hc⟩ := hx'
  refine wpAny_bind (wpAny_isInstance (T := "StopIteration") (b := true) ⟨o, ho, hc⟩ isSubtype_stop ?_)
  exact wpAny_pure (hQ _ he')
/-- the tuple at a, each item in a new pair -/
def IteT (K : PySem.W.Frag) (a : Addr) : It :=
  ⟨fun i H => ∃ (xs : List V) (x : V), SqT K H a xs ∧ xs[i]? = some x, fun i H v H' => ∃ T x, v = .ref T ∧ H T = none ∧ H' = upd H T (.tup [.int (i : Nat), x]) ∧ ∀ xs, SqT K H a xs → xs[i]? = some x, fun i H => ∃ xs : List V, SqT K H a xs ∧ xs.length ≤ i⟩
theorem turn_enumT {P : Program} {w : World} {K : PySem.W.Frag} {elts : List Expr} {kk : Nat} {tpos : Pos} (a e it : Addr) :
    Turn P w K (.Tuple elts kk tpos) (IteT K a) [e, it] e (fun i h => (∃ old, IsEnum h e it ((i : Nat) : Int) old) ∧ h.IsTupleIter it a i ∧ e ≠ it) where
  mem := by simp
  obj := fun i h st b hb => by
    obtain ⟨⟨old, he⟩, ⟨o, ho, hc, hd⟩, _⟩ := st
    have e' : b = e ∨ b = it := by simpa using hb
    rcases e' with z | z
    · rw [z]; exact ⟨_, he, fun v q => nomatch q⟩
    · rw [z]; exact ⟨o, ho, fun v q => by rw [hd] at q; cases q⟩
  keep := fun i h h' st k => let ⟨⟨old, he⟩, hi, hne⟩ := st; ⟨⟨old, k e (by simp) _ he⟩, hi.at fun o q => k it (by simp) o q, hne⟩
  item := by
    intro X hP hw hK hc i pins s σ H E I hf st hg
    subst hP hw hK
    obtain ⟨⟨old, he⟩, hit, hne⟩ := st
    obtain ⟨xs, x, hq, hx⟩ := hg
    obtain ⟨its, rv, p, hz⟩ := I.tuple hq
    obtain ⟨u, hu, ru⟩ := rv.get hx
    have hel : e < s.heap.objs.size := Heap.lt_size he
    have hil : it < s.heap.objs.size := by obtain ⟨_, q, _⟩ := hit; exact Heap.lt_size q
    have nai : a ≠ it := fun z => by
      obtain ⟨o1, q1, c1, _⟩ := p
      obtain ⟨o2, q2, c2, _⟩ := hit
      rw [z, q2] at q1
      rw [Option.some.inj q1, c1] at c2
      exact absurd (Value.type.inj c2) (by decide)
    have nae : a ≠ e := fun z => by
      obtain ⟨o1, q1, c1, _⟩ := p
      have q2 : s.heap.get? e = _ := he
      rw [z, q2] at q1
      rw [← Option.some.inj q1] at c1
      exact absurd (Value.type.inj c1) (by decide)
    have hlt : i < its.toArray.size := by
      have := (List.getElem?_eq_some_iff.mp hu).1
      simpa using this
    refine wpAny_pyNext_enum_itemD (drawsT (show X.A.in1.handled = none from I.ok.hd hc) it a nai its.toArray) he ⟨hit, p⟩ hlt hne (by simp; exact ⟨hne, Ne.symm nae⟩) fun x' h' tk hPx ho hst hT hsz hk => ?_
    have exu : x' = u := by
      have : its[i]? = some x' := by simpa using hPx
      rw [hu] at this
      exact (Option.some.inj this).symm
    subst exu
    refine ⟨_, rfl, wpAny_letOwnedTupleGo_enum (s := { s with heap := h', toks := tk + 1 }) ho fun h'' he' sb => ?_⟩
    have hT2 : h''.get? s.heap.objs.size = some { cls := .type "tuple", data := .seq #[.int i tk, x'] } := (sb.2 _ (Nat.ne_of_gt hel)).trans hT
    have new : ObjOk X.prog X.w (upd H s.heap.objs.size (.tup [.int (i : Nat), x])) h'' s.heap.objs.size (.tup [.int (i : Nat), x]) :=
      ⟨by show 2 ≤ sizeLine; decide, [.int i tk, x'], .cons ⟨_, rfl⟩ (.cons ru .nil), ⟨_, hT2, rfl, _, rfl⟩⟩
    have I1 : Inv X pins σ (upd H s.heap.objs.size (.tup [.int (i : Nat), x])) { s with heap := h'', toks := tk + 1 } :=
      I.turnedNew (ch := [e, it]) (fun b ob hb q => (sb.2 b (fun z => hb (by simp [z]))).trans (hk b ob (fun z => hb (by simp [z])) (fun z => hb (by simp [z])) q)) hf (Nat.le_refl _) new
    refine ⟨.ref s.heap.objs.size, _, I1, rfl, ⟨_, x, rfl, I.hok.fresh (Nat.le_refl _), rfl, fun ys hy => by rw [I.tuple_inj hy hq]; exact hx⟩, ⟨⟨x', ?_⟩, hst.1.at fun o q => (sb.2 it (Ne.symm hne)).trans q, hne⟩, fun b hb => ?_⟩
    · have e1 : ((i + 1 : Nat) : Int) = (i : Int) + 1 := by omega
      rw [e1]; exact he'
    · have hb' : b < s.heap.objs.size := by
        have e' : b = e ∨ b = it := by simpa using hb
        rcases e' with z | z
        · rw [z]; exact hel
        · rw [z]; exact hil
      rw [upd_ne (Nat.ne_of_lt hb')]
      exact (hf b hb).1
  done := by
    intro X hP hw hK hc i pins s σ H E I hf st hg
    subst hP hw hK
    obtain ⟨⟨old, he⟩, hit, hne⟩ := st
    obtain ⟨xs, hq, hx⟩ := hg
    obtain ⟨its, rv, p, hz⟩ := I.tuple hq
    obtain ⟨f0, f1, f2, f3, f4, f5⟩ := hf it (by simp)
    have hl := rv.length
    exact enumT_end (show X.A.in1.handled = none from I.ok.hd hc) he hit p (by simp; omega) fun h' eb => ⟨rfl, I.turned (t' := s.toks) (fun b o hb q => eb b o hb q) f0 f1 f3 f4 f5⟩
  self := fun A i s Q E st h => let ⟨⟨_, he⟩, _⟩ := st; wpAny_pyIter_enum he h
def iEnumT (K : PySem.W.Frag) (ta : TA) : TI := fun σ H R => ta σ H fun vs H1 => ∃ a xs, vs = [.ref a] ∧ SqT K H1 a xs ∧ R (IteT K a) H1
theorem pi_enumT {X : Cx} {e : Expr} {ta : TA} {p pos tpos : Pos} {elts : List Expr} {kk : Nat} (hg : Gl X "enumerate") (hm : X.mg "enumerate" = none) (ha : PA X [e] ta) (hs : starEach [e] X.env = [(false, eval e X.env)] := by rfl) :
    PI X (.Tuple elts kk tpos) (.Call (.Name "enumerate" p) [e] [] pos) (iEnumT X.K ta) := by
  refine ⟨fun pins s σ H R I h => ?_⟩
  refine Call_ (ld_blt I hg hm boot_enumerate (PyProof.Rows.callWith_type1 (thn (ha.run pos pins s σ H _ I h) fun us s1 ⟨vs, H1, I1, r1, q1⟩ => ?_) hs rfl))
  obtain ⟨a, xs, ex, hq, q⟩ := q1
  subst ex
  cases r1 with
  | cons r rr =>
    cases rr
    cases r
    obtain ⟨its, rv, p', hz⟩ := I1.tuple hq
    refine call_enumT p' fun h' he hit hsz hk => wpAny_pyIter_enum he ?_
    have I2 : Inv X pins σ H1 { s1 with heap := h' } := I1.kept (t' := s1.toks) hk
    refine ⟨s1.heap.objs.size + 1, [s1.heap.objs.size + 1, s1.heap.objs.size], _, _, H1, rfl, I2, turn_enumT a (s1.heap.objs.size + 1) s1.heap.objs.size, ⟨⟨.none, he⟩, hit, Nat.succ_ne_self _⟩, fun b hb => ?_, q⟩
    have e' : b = s1.heap.objs.size + 1 ∨ b = s1.heap.objs.size := by simpa using hb
    have hle : s1.heap.objs.size ≤ b := by
      rcases e' with z | z
      · rw [z]; exact Nat.le_add_right _ _
      · rw [z]; exact Nat.le_refl _
    exact I1.fpOk hle (I1.hok.fresh hle)
/-- a walk over an enumerated tuple that stands still -/
theorem for_enumT {K : PySem.W.Frag} {a : Addr} {xs : List V} {g : TG} {tb : TS} {D : Ends} {σ : List (Option V)} {H : Hp} (Pv : Nat → List (Option V) → Hp → Prop) (h0 : Pv 0 σ H) (hl : ∀ i σ H, i ≤ xs.length → Pv i σ H → SqT K H a xs)
    (hs : ∀ i x σ H T, xs[i]? = some x → Pv i σ H → H T = none → g (.ref T) σ (upd H T (.tup [.int (i : Nat), x])) fun σ2 H2 => tb { D with nx := Pv (i + 1), ct := Pv (i + 1), bk := D.nx } σ2 H2) (hd : ∀ σ H, Pv xs.length σ H → D.nx σ H) :
    ∃ W : Nat → Nat → List (Option V) → Hp → Prop, (∃ m, W 0 m σ H) ∧ ∀ i m σ H, W i m σ H →
      ((IteT K a).stop i H ∧ D.nx σ H) ∨ ((IteT K a).go i H ∧ ∃ N : List (Option V) → Hp → Prop, (∀ σ' H', N σ' H' → ∃ m', m' < m ∧ W (i + 1) m' σ' H') ∧ ∀ x H', (IteT K a).yld i H x H' → g x σ H' fun σ2 H2 => tb { D with nx := N, ct := N, bk := D.nx } σ2 H2) := by
  refine ⟨fun i m σ H => m = xs.length - i ∧ i ≤ xs.length ∧ Pv i σ H, ⟨xs.length, by simp, Nat.zero_le _, h0⟩, ?_⟩
  rintro i m σ H ⟨rfl, hi, p⟩
  have q := hl i σ H hi p
  by_cases hlt : i < xs.length
  · refine .inr ⟨⟨xs, xs[i], q, by simp [hlt]⟩, Pv (i + 1), fun σ' H' p' => ⟨xs.length - (i + 1), by omega, rfl, hlt, p'⟩, fun x H' y => ?_⟩
    obtain ⟨T, z, rfl, nT, rfl, y⟩ := y
    exact hs i z σ H T (y xs q) p nT
  · have e : i = xs.length := by omega
    subst e
    exact .inl ⟨⟨xs, q, Nat.le_refl _⟩, hd σ H p⟩
/-- a comprehension over an enumerated tuple -/
theorem lc_enumT {K : PySem.W.Frag} {a : Addr} {xs : List V} {g : TG} {tt : TT} {te : TE} {vs : List Nat} {σ : List (Option V)} {H1 : Hp} {D : Addr} {Qd : Hp → Prop} (Pv : Nat → Hp → Prop) (h0 : Pv 0 (upd H1 D (.lst []))) (hl : ∀ i H, i ≤ xs.length → Pv i H → SqT K H a xs)
    (hs : ∀ i x H T, xs[i]? = some x → Pv i H → H T = none → g (.ref T) (wipe σ vs) (upd H T (.tup [.int (i : Nat), x])) fun σ2 H2 => wipe σ2 vs = wipe σ vs ∧ tt σ2 H2 fun b H3 =>
      if b = true then te σ2 H3 fun y H4 => ∃ acc, H4 D = some (.lst acc) ∧ acc.length < sizeLine ∧ Pv (i + 1) (upd H4 D (.lst (acc ++ [y]))) else Pv (i + 1) H3) (hd : ∀ H, Pv xs.length H → Qd H) :
    ∃ W : Nat → Nat → Hp → Prop, (∃ m, W 0 m (upd H1 D (.lst []))) ∧ ∀ i m H, W i m H →
      ((IteT K a).stop i H ∧ Qd H) ∨ ((IteT K a).go i H ∧ ∃ Nx : Hp → Prop, (∀ H', Nx H' → ∃ m', m' < m ∧ W (i + 1) m' H') ∧ ∀ x H', (IteT K a).yld i H x H' → g x (wipe σ vs) H' fun σ2 H2 => wipe σ2 vs = wipe σ vs ∧ tt σ2 H2 fun b H3 =>
        if b = true then te σ2 H3 fun y H4 => ∃ acc, H4 D = some (.lst acc) ∧ acc.length < sizeLine ∧ Nx (upd H4 D (.lst (acc ++ [y]))) else Nx H3) := by
  refine ⟨fun i m H => m = xs.length - i ∧ i ≤ xs.length ∧ Pv i H, ⟨xs.length, by simp, Nat.zero_le _, h0⟩, ?_⟩
  rintro i m H ⟨rfl, hi, p⟩
  have q := hl i H hi p
  by_cases hlt : i < xs.length
  · refine .inr ⟨⟨xs, xs[i], q, by simp [hlt]⟩, Pv (i + 1), fun H' p' => ⟨xs.length - (i + 1), by omega, rfl, hlt, p'⟩, fun x H' y => ?_⟩
    obtain ⟨T, z, rfl, nT, rfl, y⟩ := y
    exact hs i z H T (y xs q) p nT
  · have e : i = xs.length := by omega
    subst e
    exact .inl ⟨⟨xs, q, Nat.le_refl _⟩, hd H p⟩
end St
namespace St
open PySem PySem.Spec PyProof.Rows L2
/-! ### own errors -/
/-- the class at x -/
def ClsAt (K : PySem.W.Frag) (x : Str) (C : Addr) : Prop := PySem.W.nsIn K mainGlobals x = some (some (.ref C))
theorem ClsAt.one {K : PySem.W.Frag} {x : Str} {C D : Addr} (h : ClsAt K x C) (h' : ClsAt K x D) : C = D := by
  have := h.symm.trans h'
  cases this
  rfl
/-- what the top has written of an own error class without own __init__ -/
structure ExT (K : PySem.W.Frag) (mg : Str → Option Value) (x : Str) (C : Addr) : Prop where
  n : ClsAt K x C
  g : mg x = some (.ref C)
  q : PySem.W.excIn K C [.type "ValueError", .type "Exception", .type "BaseException", .type "object"] "ValueError.__new__" = true
  k : PySem.W.keepIn K (.ref C) = true
  b : PySem.W.subIn K (.ref C) (.type "BaseException") = some true
  t : PySem.W.typeIn K (.ref C) = some (.type "type")
  d : PySem.W.hasDictIn K C = true
  s : PySem.W.subIn K (.ref C) (.ref C) = some true
theorem ExT.te {K : PySem.W.Frag} {mg : Str → Option Value} {x : Str} {C : Addr} (T : ExT K mg x C) : PySem.W.exmOne K (.ref C) (.ref C) = some true :=
  PySem.W.exm_ref T.b T.d T.t T.s
/-- as Cal, of a def that may raise -/
structure CalR (P : Program) (w : World) (K : PySem.W.Frag) (mg : Str → Option Value) (base : Heap) (x : Str) (ps : List Str) (k : Nat) (sp : Sp) (f : Addr) (fd : FuncData) : Prop where
  ok : FnOk P w K mg base (L2.CX P w) k f fd ps sp
  g : mg x = some (.ref f)
  kp : PySem.W.keepIn K (.ref f) = true
  b : Binds K fd ps []
def CalX (P : Program) (w : World) (K : PySem.W.Frag) (mg : Str → Option Value) (base : Heap) (x : Str) (ps : List Str) (k : Nat) (sp : Sp) : Prop := ∃ f fd, CalR P w K mg base x ps k sp f fd
section
variable {X : Cx} {C : Addr} {bmB : List Value} {B newId initId : String}
/-- X() -/
theorem pmk_own0 {x : Str} {p pos : Pos} (F : ExcBaseFacts B newId initId bmB) (q : PySem.W.excIn X.K C bmB newId = true) (gC : X.mg x = some (.ref C)) (kC : PySem.W.keepIn X.K (.ref C) = true) (r : Raises X (.ref C)) (hg : Gl X x)
    (hdb : (x == ("__debug__" : Str)) = false := by decide) : PMk X (.Call (.Name x p) [] [] pos) (fun _ H Q => Q (.ref C) none H) := by
  intro pins s σ H Q I h
  refine wpAny_Call_Name_kw (ld_glob I hg gC ?_ hdb)
  refine PySem.W.callWith_K0 I.kIn kC ?_
  show wpAny _ _ (call (.ref C) []) _ _ _
  obtain ⟨bm, N, nm, qn, bs, hdct, sn, sub, ab, col, dd, k0, k1, k2, k3, k5, mN, hC, hN, hni, T⟩ := exc_obj I.kIn q
  refine wpAny_call_exc_subT F T hC hN hni (fun h' e hm => ?_) (Nat.zero_le _)
  exact mk_of I hm r h (I.hok.gone hm.new)
theorem ps_raise0 {x : Str} {p pos pos2 : Pos} {W : WX} (tk : Takes X W) (T : ExT X.K X.mg x C) (hg : Gl X x) (hdb : (x == ("__debug__" : Str)) = false := by decide) (hc : X.calm = true := by rfl) :
    PS X (.Raise (some (.Call (.Name x p) [] [] pos)) none pos2) (fun _ σ H => W (.ref C) none σ H) :=
  ps_raise hc tk (pmk_own0 PySem.F.excBase_ValueError T.q T.g T.k (raises_own T.b T.t) hg hdb)
/-- isinstance(e, c), e the error that the suite holds -/
theorem call_isX {a D : Addr} {oe : Obj} {cls : Value} {d : Option Addr} {pn : List (Addr × Obj)} (E : ExcC X.K D) (hz : Zc cls d oe) (hf : ∃ vs, oe.data = .fields vs) :
    CallR (X.suite a ((a, oe) :: pn)) (.builtin "isinstance") (fun xs H Q => cls = .ref D ∧ d = none ∧ rIsE X.K D a xs H Q) := by
  intro pins s σ H xs us Q I r h
  obtain ⟨rfl, rfl, h⟩ := h
  exact call_isE E hz hf pins s σ H xs us Q I r h
end
theorem kit_sub {K : PySem.W.Frag} {C S : Addr} (hd : PySem.W.hasDictIn K S = true) (ht : PySem.W.typeIn K (.ref S) = some (.type "type")) (h : PySem.W.subIn K (.ref C) (.ref S) = some true) : PySem.W.kitOne K (.ref C) (.ref S) = some true := by
  obtain ⟨cd, hc, _⟩ := PySem.W.any_some hd
  have e : ((PySem.W.clsIn K S).isSome && PySem.W.typeIn K (.ref S) == some (.type "type")) = true := by rw [hc, ht] <;> rfl
  show (if (Value.ref C == Value.ref S) = true then some true else (if ((PySem.W.clsIn K S).isSome && PySem.W.typeIn K (.ref S) == some (.type "type")) = true then PySem.W.subIn K (.ref C) (.ref S) else none)) = some true
  rw [if_pos e, h]
  split <;> rfl
end St
namespace St
open PySem PySem.Spec PyProof.Rows L2
/-! ### rows of words -/
def rowB (m : Nat) (ns : List Nat) : List Bool := (ns.map (wordB m)).flatten
theorem join_tx (ls : List (List Bool)) : Txt.join ("" : Str) (ls.map tx) = tx ls.flatten := by
  rw [TL.join_eq, tx_nil]
  apply str_ext
  show TL.tl (Str.join (tx []) (ls.map tx)) = _
  rw [TL.tl_join, tx_list]
  have e : ∀ ls : List (List Bool), TL.joinL (TL.tl (tx [])) ((ls.map tx).map TL.tl) = ls.flatten.map sg := by
    intro ls
    induction ls with
    | nil => rfl
    | cons a r ih =>
      cases r with
      | nil =>
        show TL.tl (tx a) = _
        rw [List.flatten_cons, List.flatten_nil, List.append_nil]
        exact tx_list a
      | cons b r =>
        show TL.tl (tx a) ++ (TL.tl (tx []) ++ TL.joinL (TL.tl (tx [])) (((b :: r).map tx).map TL.tl)) = _
        rw [ih, List.flatten_cons (l := a), List.map_append]
        show (tx a).cps.toList ++ ((tx []).cps.toList ++ _) = _
        rw [tx_list, tx_list]
        rfl
  exact e ls
theorem join_len (ls : List (List Bool)) : ((ls.map tx).map (·.length)).sum = ls.flatten.length := by
  induction ls with
  | nil => rfl
  | cons a r ih =>
    rw [List.map_cons, List.map_cons, List.sum_cons, ih, List.flatten_cons, List.length_append, tx_len]
theorem row_len (m : Nat) (ns : List Nat) : (rowB m ns).length = (ns.map fun n => (wordB m n).length).sum := by
  unfold rowB
  induction ns with
  | nil => rfl
  | cons a r ih =>
    rw [List.map_cons, List.flatten_cons, List.length_append, ih, List.map_cons, List.sum_cons]
theorem row_ge (m : Nat) (ns : List Nat) : (ns.map fun n => n / m + 1).sum ≤ (rowB m ns).length := by
  rw [row_len]
  induction ns with
  | nil => exact Nat.le_refl _
  | cons a r ih =>
    rw [List.map_cons, List.map_cons, List.sum_cons, List.sum_cons]
    have := word_len m a
    generalize a / m = k at *
    omega
theorem sum_int (ns : List Nat) : (ns.map fun (n : Nat) => (n : Int)).sum = ((ns.sum : Nat) : Int) := by
  induction ns with
  | nil => rfl
  | cons a r ih =>
    rw [List.map_cons, List.sum_cons, List.sum_cons, ih, Int.natCast_add]
theorem mem_le_sum {ns : List Nat} {f : Nat → Nat} {n : Nat} (h : n ∈ ns) : f n ≤ (ns.map f).sum := by
  induction ns with
  | nil => cases h
  | cons a r ih =>
    rw [List.map_cons, List.sum_cons]
    rcases List.mem_cons.mp h with rfl | h
    · omega
    · have := ih h
      omega
theorem row_le {m c : Nat} (h64 : m ≤ 64) : ∀ {ns : List Nat}, (∀ n ∈ ns, n / m ≤ c) → (rowB m ns).length ≤ ns.length * (c + 7)
  | [], _ => Nat.zero_le _
  | a :: r, h => by
    have ih := row_le h64 (ns := r) fun n hn => h n (List.mem_cons_of_mem _ hn)
    have h1 := h a List.mem_cons_self
    have h2 := rest_len_le m (a % m)
    have h3 := wide_64 h64
    have h4 := word_len m a
    have e : (rowB m (a :: r)).length = (wordB m a).length + (rowB m r).length := by
      unfold rowB
      rw [List.map_cons, List.flatten_cons, List.length_append]
    rw [e, List.length_cons, Nat.succ_mul]
    generalize a / m = k at *
    omega
/-- all steps by which the words of numbers are a text -/
def stepsN (ns : List Nat) (l : List Bool) (k : Nat) : List Nat := ((List.range k).map (· + 1)).filter fun m => decide (rowB m ns = l)
theorem stepsN_succ (ns : List Nat) (l : List Bool) (k : Nat) : stepsN ns l (k + 1) = stepsN ns l k ++ (if rowB (k + 1) ns = l then [k + 1] else []) := by
  unfold stepsN
  rw [List.range_succ, List.map_append, List.filter_append]
  congr 1
  by_cases c : rowB (k + 1) ns = l
  · simp [c]
  · simp [c]
theorem stepsN_len (ns : List Nat) (l : List Bool) (k : Nat) : (stepsN ns l k).length ≤ k := by
  unfold stepsN
  refine Nat.le_trans (List.length_filter_le _ _) ?_
  simp
end St
namespace St
open PySem PySem.Spec PyProof.Rows L2
def topS (i : Nat) : Stmt := PySem.Challenge.pw_stepruns_k23_whole_shorter_words.main.body.getD i (.Pass ⟨0, 0, 0, 0⟩)

abbrev s__law_mix : Stmt := topS 28
theorem sc__law_mix : FnScope ["_law_script", "_law_seed", "_law_state", "_law_cell"] ["_law_script", "_law_seed"] (defScope s__law_mix) := ⟨rfl, rfl, rfl, by decide +kernel, rfl, by decide +kernel, by decide +kernel⟩
def sp__law_mix (K : PySem.W.Frag) : Sp := fun vs H Q _ => ∃ (a : Addr) (ns : List Int) (sd : Int), vs = [.ref a, .int sd] ∧ SqL K H a (ns.map V.int) ∧ ns.length ≤ 63 ∧
  ∀ (h q : Addr) (H' : Hp), Same H H' → H h = none → H q = none → LawH H' h q → Q (.ref h) H'
section
variable {P : Program} {w : World} {K : PySem.W.Frag} {mg : Str → Option Value} {base : Heap}
theorem ok__law_mix (A : At K mg "_law_mix" s__law_mix ["_law_script", "_law_seed"]) (B : Bn mg) : CalE P w K mg base "_law_mix" ["_law_script", "_law_seed"] 1 (sp__law_mix K) := by
  obtain ⟨f, fd, F, gF, bF⟩ := A
  refine ⟨f, fd, F.ok sc__law_mix (fun vs H Q E h => ?_) (fun cdv A outer s H vs Q E hr h => ?_), gF, F.kp, bF⟩
  · repeat (first | (obtain ⟨rfl, _⟩ := h; rfl) | (obtain ⟨_, h⟩ := h))
  · obtain ⟨a, ns, sd, rfl, hS, hl, q⟩ := h
    refine ⟨_, (pss_cons (ps_set (i := 2) sc__law_mix.nd rfl (.inl rfl) (pv 1))
      (pss_cons (ps_for PassesOwn.never rfl (pi_list (pv 0)) (pg_name (i := 3) sc__law_mix.nd rfl (.inl rfl))
      (pss_one (ps_set (i := 2) sc__law_mix.nd rfl (.inl rfl) (pe_op op_mod (pe_callTy call_int1 (by rfl) B.int_ (by decide +kernel) (pa_cons (pe_op op_add (pe_op op_add (pe_op op_mul (pv 2) pe_int) (pe_op op_mod (pe_callTy call_int1 (by rfl) B.int_ (by decide +kernel) (pa_cons (pv 3) pa_nil)) pe_int)) pe_int) pa_nil)) pe_int))))
      (pss_one (ps_ret (pe_lst (pa_cons (pv 2) (pa_cons (pe_callTy (call_list_of_ K) (by rfl) B.list_ (by decide +kernel) (pa_cons (pv 0) pa_nil)) (pa_cons pe_int pa_nil)))))))), ?_⟩
    -- _law_state = _law_seed
    refine ⟨_, rfl, ?_⟩
    refine ⟨_, rfl, a, rfl, ⟨_, hS⟩, for_list (K := K) (a := a) (xs := ns.map V.int) (fun i σ H2 => ∃ (st : Int) (v : Option V), σ = [some (.ref a), some (.int sd), some (.int st), v] ∧ H2 = H)
      ⟨_, _, rfl, rfl⟩ (fun i σ H2 _ ⟨_, _, _, e⟩ => e ▸ hS) ?_ ?_⟩
    · rintro i y σ H2 hi ⟨st, v, rfl, rfl⟩
      obtain ⟨z, rfl⟩ : ∃ z, y = V.int z := by
        rw [List.getElem?_map] at hi
        cases e : ns[i]? with
        | none => rw [e] at hi; cases hi
        | some z => rw [e] at hi; exact ⟨z, (Option.some.inj hi).symm⟩
      refine ⟨_, rfl, _, _, rfl, rfl, .inr (by omega), _, rfl, .inl ⟨_, rfl, _, _, rfl, rfl, (by decide : (0 : Int) < 2147483629), _, _, rfl, rfl, _, _, rfl, rfl, .inl ⟨_, rfl, _, _, rfl, rfl, (by decide : (0 : Int) < 2147483647), ?_⟩⟩⟩
      exact ⟨_, _, rfl, rfl⟩
    · rintro σ H2 ⟨st, v, rfl, rfl⟩
      -- return [state, list(script), 0]
      refine ⟨_, rfl, _, rfl, a, _, rfl, .inl hS, fun c nc => ⟨(by show 3 ≤ sizeLine; decide), fun p np => ?_⟩⟩
      have npc : p ≠ c := fun e => by rw [e, upd_same] at np; cases np
      refine q p c _ ((same_new nc _).trans (same_new np _)) ((same_new nc _).free np) nc ⟨npc, st, 0, ns, upd_same, ?_, by omega⟩
      rw [upd_ne npc.symm, upd_same]
end

abbrev s__law_next : Stmt := topS 29
theorem sc__law_next : FnScope ["_law_h", "_law_cap", "_law_cell"] ["_law_h", "_law_cap"] (defScope s__law_next) := ⟨rfl, rfl, rfl, by decide +kernel, rfl, by decide +kernel, by decide +kernel⟩
def sp__law_next (K : PySem.W.Frag) : Sp := fun vs H Q _ => ∃ (h q : Addr) (cap : Int), vs = [.ref h, .int cap] ∧ LawH H h q ∧ 0 < cap ∧ cap < 2 ^ 300 ∧
  ∀ (k : Int) (H' : Hp), 0 ≤ k → k < cap → LawH H' h q → Sm h q H H' → Q (.int k) H'
theorem cap_wide {cap : Int} (h : 0 < cap) (h' : cap < 2 ^ 300) : CDivW z cap := wide_div (b := 300) h (by omega) (by decide) (by decide)
section
variable {P : Program} {w : World} {K : PySem.W.Frag} {mg : Str → Option Value} {base : Heap}
theorem ok__law_next (A : At K mg "_law_next" s__law_next ["_law_h", "_law_cap"]) (B : Bn mg) : CalE P w K mg base "_law_next" ["_law_h", "_law_cap"] 1 (sp__law_next K) := by
  obtain ⟨f, fd, F, gF, bF⟩ := A
  refine ⟨f, fd, F.ok sc__law_next (fun vs H Q E h => ?_) (fun cdv A outer s H vs Q E hr h => ?_), gF, F.kp, bF⟩
  · repeat (first | (obtain ⟨rfl, _⟩ := h; rfl) | (obtain ⟨_, h⟩ := h))
  · obtain ⟨h, q, cap, rfl, L, c0, c1, k⟩ := h
    refine ⟨_, (pss_cons (ps_set (i := 2) sc__law_next.nd rfl (.inl rfl) (pe_ix (ix_list_ K) (pe_op op_cat (pe_ix (ix_list_ K) (pv 0) pe_int (fun _ _ => rfl)) (pe_lst (pa_cons pe_int pa_nil))) (pe_op op_mod (pe_callTy call_int1 (by rfl) B.int_ (by decide +kernel) (pa_cons (pe_ix (ix_list_ K) (pv 0) pe_int (fun _ _ => rfl)) pa_nil)) (pe_callB (call_max2 rfl) (by rfl) B.max_ (by decide +kernel) (pa_cons pe_int (pa_cons (pe_callB (call_len_seq_ K) (by rfl) B.len_ (by decide +kernel) (pa_cons (pe_ix (ix_list_ K) (pv 0) pe_int (fun _ _ => rfl)) pa_nil)) pa_nil)))) (fun _ _ => rfl)))
      (pss_cons (ps_if (pt_cmpR op_ge (pv 2) (pe_op op_pow pe_int pe_int) (nomark _))
      (pss_cons (ps_asg (pe_op op_fdivW (pv 2) (pv 1)) (pg_sub (pe_ix (ix_list_ K) (pv 0) pe_int (fun _ _ => rfl)) (pe_op op_mod (pe_callTy call_int1 (by rfl) B.int_ (by decide +kernel) (pa_cons (pe_ix (ix_list_ K) (pv 0) pe_int (fun _ _ => rfl)) pa_nil)) (pe_callB (call_len_seq_ K) (by rfl) B.len_ (by decide +kernel) (pa_cons (pe_ix (ix_list_ K) (pv 0) pe_int (fun _ _ => rfl)) pa_nil))) set_list))
      (pss_one (ps_ret (pe_op op_mod (pe_callTy call_int1 (by rfl) B.int_ (by decide +kernel) (pa_cons (pv 2) pa_nil)) (pv 1)))))
      pss_nil)
      (pss_cons (ps_asg (pe_op op_mod (pe_callTy call_int1 (by rfl) B.int_ (by decide +kernel) (pa_cons (pe_op op_add (pe_op op_add (pe_op op_mul (pe_ix (ix_list_ K) (pv 0) pe_int (fun _ _ => rfl)) pe_int) (pe_op op_mul (pv 2) pe_int)) pe_int) pa_nil)) pe_int) (pg_sub (pv 0) pe_int set_list))
      (pss_cons (ps_asg (pe_op op_add (pe_ix (ix_list_ K) (pv 0) pe_int (fun _ _ => rfl)) pe_int) (pg_sub (pv 0) pe_int set_list))
      (pss_one (ps_ret (pe_op op_mod (pe_callTy call_int1 (by rfl) B.int_ (by decide +kernel) (pa_cons (pe_op op_fdiv (pe_ix (ix_list_ K) (pv 0) pe_int (fun _ _ => rfl)) pe_int) pa_nil)) (pv 1)))))))), ?_⟩
    obtain ⟨hne, st, ix, cells, eh, eq, hl⟩ := id L
    have sL : SqL K H h [.int st, .ref q, .int ix] := .inl (.inl eh)
    have sQ : SqL K H q (cells.map V.int) := .inl (.inl eq)
    have l3 : ([V.int 0] : List V).length ≤ sizeLine := by show 1 ≤ sizeLine; decide
    have lm : (cells.map V.int).length = cells.length := List.length_map _
    -- (h[1] + [0])[h[2] % max(1, len(h[1]))]
    refine ⟨_, rfl, h, _, 1, _, rfl, rfl, sL, rfl, l3, fun z nz => ?_⟩
    have s1 : Same H (upd H z (.lst [.int 0])) := same_new nz _
    have lq : (cells.map V.int).length + ([V.int 0] : List V).length ≤ sizeLine := by
      rw [lm]
      show cells.length + 1 ≤ sizeLine
      have := sizeLine_eq
      omega
    refine ⟨q, z, _, _, rfl, rfl, s1 _ _ eq, upd_same, lq, fun z2 nz2 => ?_⟩
    have s2 := s1.trans (same_new nz2 (.lst (cells.map V.int ++ [.int 0])))
    have e2 : (upd (upd H z (.lst [.int 0])) z2 (.lst (cells.map V.int ++ [.int 0]))) z2 = some (.lst (cells.map V.int ++ [.int 0])) := upd_same
    generalize upd (upd H z (.lst [.int 0])) z2 (.lst (cells.map V.int ++ [.int 0])) = H2 at *
    obtain ⟨m, em, hm⟩ : ∃ m : Int, (if ((cells.map V.int).length : Int) > 1 then ((cells.map V.int).length : Int) else 1) = m ∧ (0 < m ∧ m ≤ cells.length + 1 ∧ (cells = [] → m = 1) ∧ (cells ≠ [] → m = cells.length)) := by
      refine ⟨_, rfl, ?_⟩
      rw [lm]
      cases cells with
      | nil => simp
      | cons c r =>
        simp only [List.length_cons]
        split
        · exact ⟨by omega, by omega, (fun z => by cases z), fun _ => rfl⟩
        · exact ⟨by omega, by omega, (fun z => by cases z), fun _ => by omega⟩
    obtain ⟨m0, m1, m2, m3⟩ := hm
    have j0 : 0 ≤ ix % m := Int.emod_nonneg _ (by omega)
    have j1 : ix % m < m := Int.emod_lt_of_pos _ m0
    obtain ⟨j, ej⟩ : ∃ j : Nat, ix % m = (j : Int) := ⟨(ix % m).toNat, by omega⟩
    obtain ⟨c, ec, hc⟩ : ∃ c : Int, (cells.map V.int ++ [V.int 0])[j]? = some (.int c) ∧ (10 ^ 18 ≤ c → j < cells.length ∧ cells ≠ []) := by
      by_cases hj : j < cells.length
      · refine ⟨cells[j], ?_, fun _ => ⟨hj, fun z => by rw [z] at hj; cases hj⟩⟩
        rw [List.getElem?_append_left (by rw [lm]; exact hj), List.getElem?_map, List.getElem?_eq_getElem hj]
        rfl
      · have hn : j = cells.length := by
          by_cases hc : cells = []
          · have := m2 hc
            subst hc
            simp
            omega
          · have := m3 hc
            omega
        subst hn
        refine ⟨0, ?_, fun z => by omega⟩
        rw [List.getElem?_append_right (by rw [lm]; exact Nat.le_refl _), lm, Nat.sub_self]
        rfl
    refine ⟨_, rfl, h, _, 2, _, rfl, rfl, s2.seq sL, rfl, .inl ⟨ix, rfl, _, rfl, h, _, 1, _, rfl, rfl, s2.seq sL, rfl, q, _, rfl, .inl (s2.seq sQ), 1, _, rfl, ?_⟩⟩
    show rI (fun _ j => 0 < j) (fun i j => V.int (i % j)) (V.int ix) (.int (if ((cells.map V.int).length : Int) > 1 then ((cells.map V.int).length : Int) else 1)) H2 _
    rw [em]
    refine ⟨_, _, rfl, rfl, m0, z2, _, _, _, rfl, rfl, .inl (.inl e2), by rw [ej]; exact atI_nat ec, ?_⟩
    -- if _law_cell >= 10 ** 18
    refine ⟨_, rfl, _, _, rfl, rfl, ⟨by decide, by decide, by decide⟩, _, _, rfl, rfl, _, rfl, ?_⟩
    have h2 := s2.seq sL
    have q2 := s2.seq sQ
    have eh2 := s2 _ _ eh
    have eq2 := s2 _ _ eq
    refine ite2 (fun b => ?_) (fun b => ?_)
    · have b' : 10 ^ 18 ≤ c := of_decide_eq_true b
      obtain ⟨hj, hne0⟩ := hc b'
      have m4 := m3 hne0
      refine ⟨_, rfl, _, rfl, _, _, rfl, rfl, cap_wide c0 c1, ?_⟩
      refine ⟨_, rfl, h, _, 1, _, rfl, rfl, h2, rfl, _, rfl, h, _, 2, _, rfl, rfl, h2, rfl, .inl ⟨ix, rfl, _, rfl, h, _, 1, _, rfl, rfl, h2, rfl, q, _, rfl, .inl q2, _, _, rfl, rfl, ?_, ?_⟩⟩
      · show (0 : Int) < ((cells.map V.int).length : Int)
        rw [lm]
        omega
      refine ⟨q, _, _, j, rfl, rfl, eq2, ?_, ?_⟩
      · rw [lm, ← m4, ej]
        unfold ixN
        rw [if_pos (by omega), if_pos (by omega), Int.toNat_natCast]
      refine ⟨_, rfl, .inl ⟨_, rfl, _, rfl, _, _, rfl, rfl, c0, ?_⟩⟩
      refine k _ _ (Int.emod_nonneg _ (by omega)) (Int.emod_lt_of_pos _ c0) ⟨hne, st, ix, cells.set j (c / cap), by rw [upd_ne hne]; exact eh2, by rw [upd_same, List.map_set], by rw [List.length_set]; exact hl⟩ (fun b o e n1 n2 => ?_)
      rw [upd_ne n2]
      exact s2 _ _ e
    · refine ⟨_, rfl, h, _, 0, _, rfl, rfl, h2, rfl, _, _, rfl, rfl, .inr (by omega), _, rfl, _, _, rfl, rfl, .inr (by omega), _, _, rfl, rfl, _, _, rfl, rfl, .inl ⟨_, rfl, _, _, rfl, rfl, (by decide : (0 : Int) < 2147483647), ?_⟩⟩
      refine ⟨_, rfl, h, _, 0, 0, rfl, rfl, eh2, rfl, ?_⟩
      have e3 := @upd_same H2 h (.lst [.int ((st * 48271 + c * 69621 + 11) % 2147483647), .ref q, .int ix])
      refine ⟨_, rfl, h, _, 2, _, rfl, rfl, .inl (.inl e3), rfl, _, _, rfl, rfl, _, rfl, h, _, 2, 2, rfl, rfl, e3, rfl, ?_⟩
      refine ⟨_, rfl, h, _, 0, _, rfl, rfl, .inl (.inl upd_same), rfl, _, _, rfl, rfl, ⟨by decide, by decide⟩, .inl ⟨_, rfl, _, rfl, _, _, rfl, rfl, c0, ?_⟩⟩
      refine k _ _ (Int.emod_nonneg _ (by omega)) (Int.emod_lt_of_pos _ c0) ⟨hne, _, _, cells, upd_same, by rw [upd_ne hne.symm, upd_ne hne.symm]; exact eq2, hl⟩ (fun b o e n1 n2 => ?_)
      rw [upd_ne n1, upd_ne n1]
      exact s2 _ _ e
end

abbrev s__law_pick : Stmt := topS 31
theorem sc__law_pick : FnScope ["_law_h", "_law_things"] ["_law_h", "_law_things"] (defScope s__law_pick) := ⟨rfl, rfl, rfl, by decide +kernel, rfl, by decide +kernel, by decide +kernel⟩
def sp__law_pick (K : PySem.W.Frag) : Sp := fun vs H Q _ => ∃ (h q t : Addr) (xs : List V), vs = [.ref h, .ref t] ∧ LawH H h q ∧ SqL K H t xs ∧ t ≠ h ∧ t ≠ q ∧ xs ≠ [] ∧ xs.length ≤ 1000 ∧
  ∀ (k : Nat) (x : V) (H' : Hp), xs[k]? = some x → LawH H' h q → Sm h q H H' → Q x H'
theorem pickI {K : PySem.W.Frag} {H0 : Hp} {h q t : Addr} {xs : List V} {Q : VK} (L : LawH H0 h q) (nt : H0 t = none) (hx : xs ≠ []) (hl : xs.length ≤ 1000) (k : ∀ x ∈ xs, ∀ H', LawH H' h q → Sm h q H0 H' → Q x H') : sp__law_pick K [.ref h, .ref t] (upd H0 t (.lst xs)) Q E0 := by
  have s3 := same_new nt (.lst xs)
  obtain ⟨hne, st, ix, cells, eh, eq, _⟩ := id L
  exact ⟨h, q, t, _, rfl, L.same s3, .inl (.inl upd_same), ne_new eh nt, ne_new eq nt, hx, hl, fun j x H3 ex L3 S3 => k x (List.mem_of_getElem? ex) H3 L3 (Sm.trans (Sm.of s3) S3)⟩
section
variable {P : Program} {w : World} {K : PySem.W.Frag} {mg : Str → Option Value} {base : Heap}
theorem ok__law_pick (A : At K mg "_law_pick" s__law_pick ["_law_h", "_law_things"]) (B : Bn mg) (H__law_next : CalE P w K mg base "_law_next" ["_law_h", "_law_cap"] 1 (sp__law_next K)) : CalE P w K mg base "_law_pick" ["_law_h", "_law_things"] 2 (sp__law_pick K) := by
  obtain ⟨f, fd, F, gF, bF⟩ := A
  obtain ⟨f__law_next, fd__law_next, G__law_next⟩ := H__law_next
  refine ⟨f, fd, F.ok sc__law_pick (fun vs H Q E h => ?_) (fun cdv A outer s H vs Q E hr h => ?_), gF, F.kp, bF⟩
  · repeat (first | (obtain ⟨rfl, _⟩ := h; rfl) | (obtain ⟨_, h⟩ := h))
  · obtain ⟨h, q, t, xs, rfl, L, hS, n1, n2, hx, hl, k⟩ := h
    have hp : 0 < xs.length := List.length_pos_iff.mpr hx
    refine ⟨_, (pss_one (ps_ret (pe_ix (ix_list_ K) (pv 1) (pe_call G__law_next.ok (hr.mono (by first | decide | exact Nat.le_refl _)) (by rfl) G__law_next.g G__law_next.kp G__law_next.b .nil pass0 (pa_cons (pv 0) (pa_cons (pe_callB (call_len_seq_ K) (by rfl) B.len_ (by decide +kernel) (pa_cons (pv 1) pa_nil)) pa_nil))) (fun _ _ => rfl)))), ?_⟩
    refine ⟨_, rfl, _, rfl, _, rfl, t, xs, rfl, .inl hS, h, q, _, rfl, L, by omega, by omega, fun j H' j0 j1 L' S' => ?_⟩
    obtain ⟨i, rfl⟩ : ∃ i : Nat, j = (i : Int) := ⟨j.toNat, by omega⟩
    have hi : i < xs.length := by omega
    have ex : xs[i]? = some xs[i] := List.getElem?_eq_getElem hi
    exact ⟨t, xs, _, _, rfl, rfl, S'.seq n1 n2 hS, atI_nat ex, k i _ H' ex L' S'⟩
end

abbrev s__law_rests : Stmt := topS 32
theorem sc__law_rests : FnScope ["_law_step", "_law_many", "_law_whole", "_law_found", "_law_rest", "_law_value", "_law_size", "_law_figures_here", "_law_k"] ["_law_step"] (defScope s__law_rests) := ⟨rfl, rfl, rfl, by decide +kernel, rfl, by decide +kernel, by decide +kernel⟩
/-- the words of the rests -/
def restsV (m : Nat) : List V := (List.range m).map fun r => V.str (tx (restB m r))
def sp__law_rests (K : PySem.W.Frag) : Sp := fun vs H Q _ => ∃ m : Nat, vs = [.int (m : Nat)] ∧ 1 ≤ m ∧ m ≤ 64 ∧
  ∀ (D : Addr) (H' : Hp), Same H H' → H D = none → H' D = some (.lst (restsV m)) → Q (.ref D) H'
theorem restsV_take {m j : Nat} (h : j < m) : (restsV m).take (j + 1) = (restsV m).take j ++ [V.str (tx (restB m j))] := take_more (by unfold restsV; rw [List.getElem?_map, List.getElem?_range h]; rfl)
section
variable {P : Program} {w : World} {K : PySem.W.Frag} {mg : Str → Option Value} {base : Heap}
theorem ok__law_rests (A : At K mg "_law_rests" s__law_rests ["_law_step"]) (B : Bn mg) : CalE P w K mg base "_law_rests" ["_law_step"] 1 (sp__law_rests K) := by
  obtain ⟨f, fd, F, gF, bF⟩ := A
  refine ⟨f, fd, F.ok sc__law_rests (fun vs H Q E h => ?_) (fun cdv A outer s H vs Q E hr h => ?_), gF, F.kp, bF⟩
  · repeat (first | (obtain ⟨rfl, _⟩ := h; rfl) | (obtain ⟨_, h⟩ := h))
  · obtain ⟨m, rfl, hm, h64, k⟩ := h
    have hsz := sizeLine_eq
    have h6 := wide_64 h64
    refine ⟨_, (pss_cons (ps_asg (pe_tup (pa_cons pe_int (pa_cons pe_int pa_nil))) (pg_tup (by rfl) (pgs_cons (pg_name (i := 1) sc__law_rests.nd rfl (.inl rfl)) (pgs_cons (pg_name (i := 2) sc__law_rests.nd rfl (.inl rfl)) pgs_nil))))
      (pss_cons (ps_while PassesOwn.never (pt_cmpR op_lt (pv 2) (pv 0) (nomark _))
      (pss_one (ps_par (i := 1) (j := 2) (by rfl) sc__law_rests.nd rfl rfl (by decide) rfl rfl (pa_cons (pe_op op_add (pv 1) pe_int) (pa_cons (pe_op op_mul pe_int (pv 2)) pa_nil)) (by rfl))))
      (pss_cons (ps_set (i := 3) sc__law_rests.nd rfl (.inl rfl) (pe_lst pa_nil))
      (pss_cons (ps_for PassesOwn.never rfl (pi_range1 (by rfl) B.range_ (pa_cons (pv 0) pa_nil)) (pg_name (i := 4) sc__law_rests.nd rfl (.inl rfl))
      (pss_cons (ps_asg (pe_ifExp (pt_cmpR op_lt (pv 4) (pe_op op_sub (pv 2) (pv 0)) (nomark _)) (pe_tup (pa_cons (pv 4) (pa_cons (pe_op op_sub (pv 1) pe_int) pa_nil))) (pe_tup (pa_cons (pe_op op_sub (pe_op op_add (pv 4) (pv 2)) (pv 0)) (pa_cons (pv 1) pa_nil)))) (pg_tup (by rfl) (pgs_cons (pg_name (i := 5) sc__law_rests.nd rfl (.inl rfl)) (pgs_cons (pg_name (i := 6) sc__law_rests.nd rfl (.inl rfl)) pgs_nil))))
      (pss_cons (ps_set (i := 7) sc__law_rests.nd rfl (.inl rfl) pe_str)
      (pss_cons (ps_for PassesOwn.never rfl (pi_range1 (by rfl) B.range_ (pa_cons (pv 6) pa_nil)) (pg_name (i := 8) sc__law_rests.nd rfl (.inl rfl))
      (pss_cons (ps_set (i := 7) sc__law_rests.nd rfl (.inl rfl) (pe_op op_add_str (pe_callTy call_str_int (by rfl) B.str_ (by decide +kernel) (pa_cons (pe_op op_mod (pe_callTy call_int1 (by rfl) B.int_ (by decide +kernel) (pa_cons (pv 5) pa_nil)) pe_int) pa_nil)) (pv 7)))
      (pss_one (ps_set (i := 5) sc__law_rests.nd rfl (.inl rfl) (pe_op op_fdiv (pv 5) pe_int)))))
      (pss_one (ps_expr (pe_bm PySem.F.plainAttrs_list PySem.F.slot_list_append PySem.F.type_list_append mt_append (pv 3) (pa_cons (pv 7) pa_nil))))))))
      (pss_one (ps_ret (pv 3))))))), ?_⟩
    refine ⟨(by show 2 ≤ sizeLine; omega), fun T0 nT0 => ?_⟩
    have s0 := same_new nT0 (.tup [.int 0, .int 1])
    refine ⟨T0, _, rfl, .inl (.inl upd_same), rfl, _, _, rfl, _, _, rfl, rfl, ?_⟩
    generalize upd H T0 (.tup [.int 0, .int 1]) = H0 at *
    refine ⟨fun n σ H2 => ∃ c : Nat, n = 6 - c ∧ σ = [some (.int (m : Nat)), some (.int (c : Nat)), some (.int ((2 ^ c : Nat) : Int)), none, none, none, none, none, none] ∧ (∀ d, d < c → 2 ^ d < m) ∧ c ≤ 6 ∧ H2 = H0, ⟨6, 0, rfl, rfl, fun d h => by omega, by decide, rfl⟩, ?_⟩
    rintro n σ H2 ⟨c, rfl, rfl, hc, c6, rfl⟩
    refine ⟨_, rfl, _, rfl, _, _, rfl, rfl, _, rfl, ite2 (fun z => ?_) (fun z => ?_)⟩
    · have z' : 2 ^ c < m := Int.ofNat_lt.mp (of_decide_eq_true z)
      have c5 : c < 6 := by
        refine Nat.not_le.mp fun y => ?_
        have : c = 6 := by omega
        subst this
        omega
      refine ⟨fun σ' H' => σ' = [some (.int (m : Nat)), some (.int ((c + 1 : Nat) : Int)), some (.int ((2 ^ (c + 1) : Nat) : Int)), none, none, none, none, none, none] ∧ H' = H2, fun σ' H' ⟨e1, e2⟩ => ⟨6 - (c + 1), by omega, c + 1, rfl, e1, fun d hd => ?_, by omega, e2⟩, ?_⟩
      · by_cases hd' : d = c
        · exact hd' ▸ z'
        · exact hc d (by omega)
      refine ⟨_, rfl, _, _, rfl, rfl, _, rfl, _, _, rfl, rfl, .inl (by decide), _, _, rfl, ?_, rfl⟩
      have e : (2 : Int) * ((2 ^ c : Nat) : Int) = ((2 ^ (c + 1) : Nat) : Int) := by
        rw [Nat.pow_succ]
        omega
      rw [← e]
      rfl
    have z' : m ≤ 2 ^ c := Nat.not_lt.mp fun y => z (decide_eq_true (Int.ofNat_lt.mpr y))
    have hw := wide_eq z' hc
    have es : ((2 ^ c : Nat) : Int) - (m : Int) = ((shortN m : Nat) : Int) := by
      unfold shortN
      rw [hw]
      omega
    refine ⟨(by show 0 ≤ sizeLine; omega), fun D nD => ?_⟩
    refine ⟨_, rfl, _, rfl, by omega, by omega, ?_⟩
    rw [Int.toNat_natCast]
    refine for_range (lo := 0) (n := m) (fun j σ H3 => ∃ v4 v5 v6 v7 v8, σ = [some (.int (m : Nat)), some (.int (c : Nat)), some (.int ((2 ^ c : Nat) : Int)), some (.ref D), v4, v5, v6, v7, v8] ∧ Same H2 H3 ∧ H3 D = some (.lst ((restsV m).take j))) ⟨_, _, _, _, _, rfl, same_new nD _, by rw [List.take_zero]; exact upd_same⟩ ?_ ?_
    · rintro j σ H3 hj ⟨v4, v5, v6, v7, v8, rfl, s3, eD⟩
      -- value and size
      obtain ⟨v, s, hvs, hs⟩ : ∃ v s : Nat, restB m j = fig v s ∧ (if j < shortN m then v = j ∧ s + 1 = c else v = j + shortN m ∧ s = c) := by
        unfold restB
        by_cases q : j < shortN m
        · have w1 : 1 ≤ wideN m := by
            refine Nat.not_lt.mp fun z => ?_
            have e := short_zero (show wideN m = 0 by omega) hm
            subst e
            have : shortN 1 = 0 := by decide
            omega
          exact ⟨j, wideN m - 1, by rw [if_pos q], by rw [if_pos q]; omega⟩
        · exact ⟨j + shortN m, wideN m, by rw [if_neg q], by rw [if_neg q]; omega⟩
      have hv : v < 2 ^ 62 := by
        have : shortN m < m := short_lt hm
        split at hs <;> omega
      have hs6 : s ≤ 6 := by split at hs <;> omega
      refine' joinG2 (fun (T : Addr) (H4 : Hp) => Same H3 H4 ∧ H4 T = some (.tup [.int (v : Nat), .int (s : Nat)])) ?main ?rest
      case main =>
        intro key
        refine ⟨_, rfl, _, rfl, _, rfl, _, _, rfl, rfl, _, _, rfl, rfl, _, rfl, ?_⟩
        rw [es]
        by_cases q : j < shortN m
        · rw [if_pos q] at hs
          refine iteDT (by omega) ⟨_, rfl, _, rfl, _, _, rfl, rfl, (by show 2 ≤ sizeLine; omega), fun T nT => ?_⟩
          have e1 : (0 : Int) + (j : Int) = ((v : Nat) : Int) := by omega
          have e2 : (c : Int) - 1 = ((s : Nat) : Int) := by omega
          dsimp only
          have hh : Same H3 (upd H3 T (.tup [.int (0 + (j : Int)), .int ((c : Int) - 1)])) ∧ (upd H3 T (.tup [.int (0 + (j : Int)), .int ((c : Int) - 1)])) T = some (.tup [.int (v : Nat), .int (s : Nat)]) := ⟨same_new nT _, by rw [← e1, ← e2]; exact upd_same⟩
          generalize upd H3 T (.tup [.int (0 + (j : Int)), .int ((c : Int) - 1)]) = H4 at *
          exact key T H4 hh
        · rw [if_neg q] at hs
          refine iteDF (by omega) ⟨_, rfl, _, rfl, _, _, rfl, rfl, _, rfl, _, _, rfl, rfl, _, rfl, (by show 2 ≤ sizeLine; omega), fun T nT => ?_⟩
          have e1 : (0 : Int) + (j : Int) + ((2 ^ c : Nat) : Int) - (m : Int) = ((v : Nat) : Int) := by omega
          dsimp only
          rw [e1]
          have hh : Same H3 (upd H3 T (.tup [.int (v : Nat), .int (c : Nat)])) ∧ (upd H3 T (.tup [.int (v : Nat), .int (c : Nat)])) T = some (.tup [.int (v : Nat), .int (s : Nat)]) := ⟨same_new nT _, by rw [hs.2]; exact upd_same⟩
          generalize upd H3 T (.tup [.int (v : Nat), .int (c : Nat)]) = H4 at *
          exact key T H4 hh
      case rest =>
        intro T H4 ⟨s4, eT⟩
        refine ⟨T, _, rfl, .inl (.inl eT), rfl, _, _, rfl, _, _, rfl, rfl, ?_⟩
        refine ⟨_, rfl, _, rfl, by omega, by omega, ?_⟩
        rw [Int.toNat_natCast]
        refine for_range (lo := 0) (n := s) (fun i σ H5 => ∃ v8, σ = [some (.int (m : Nat)), some (.int (c : Nat)), some (.int ((2 ^ c : Nat) : Int)), some (.ref D), some (.int (0 + (j : Int))), some (.int ((v / 2 ^ i : Nat) : Int)), some (.int (s : Nat)), some (.str (tx (fig v i))), v8] ∧ H5 = H4) ⟨v8, ?_, rfl⟩ ?_ ?_
        · rw [tx_nil, show v / 2 ^ 0 = v by simp]
          rfl
        · rintro i σ H5 hi ⟨v8, rfl, rfl⟩
          have hstr : V.str (toString (((v / 2 ^ i : Nat) : Int) % 2)) = V.str (tx [v / 2 ^ i % 2 == 1]) := by
            rcases Nat.mod_two_eq_zero_or_one (v / 2 ^ i) with h | h
            · rw [show ((v / 2 ^ i : Nat) : Int) % 2 = 0 by omega, h]
              decide +kernel
            · rw [show ((v / 2 ^ i : Nat) : Int) % 2 = 1 by omega, h]
              decide +kernel
          refine ⟨_, rfl, .inl ⟨_, rfl, _, _, rfl, rfl, (by decide : (0 : Int) < 2), _, rfl, ?_, _, rfl, ?_⟩⟩
          · have h2 : (((v / 2 ^ i : Nat) : Int) % 2).natAbs < 2 := by omega
            rcases Nat.lt_or_ge ((((v / 2 ^ i : Nat) : Int) % 2).natAbs) 1 with h | h
            · rw [show (((v / 2 ^ i : Nat) : Int) % 2).natAbs = 0 by omega]
              decide
            · rw [show (((v / 2 ^ i : Nat) : Int) % 2).natAbs = 1 by omega]
              decide
          rw [hstr]
          refine ⟨_, _, rfl, rfl, by rw [tx_len, tx_len, fig_len]; show 1 + i ≤ sizeLine; omega, ?_⟩
          rw [tx_app]
          refine ⟨_, rfl, _, _, rfl, rfl, ⟨by decide, by decide⟩, some (.int (0 + (i : Int))), ?_, rfl⟩
          have ed : ((v / 2 ^ i : Nat) : Int) / 2 = ((v / 2 ^ (i + 1) : Nat) : Int) := by
            rw [Nat.pow_succ, ← Nat.div_div_eq_div_mul, Int.natCast_ediv (v / 2 ^ i) 2]
            rfl
          rw [← ed]
          rfl
        · rintro σ H5 ⟨v8, rfl, rfl⟩
          have eD4 := s4 _ _ eD
          refine ⟨_, rfl, .inl ⟨rfl, _, .inl (.inl eD4)⟩, _, rfl, D, _, _, rfl, rfl, eD4, ?_, _, _, _, _, _, rfl, fun b o ho => ?_, ?_⟩
          · rw [List.length_take]
            omega
          · rw [upd_ne (ne_of_none ho nD)]
            exact s4 _ _ (s3 _ _ ho)
          · rw [upd_same, restsV_take hj, hvs]
    · rintro σ H3 ⟨v4, v5, v6, v7, v8, rfl, s3, eD⟩
      rw [List.take_of_length_le (by unfold restsV; rw [List.length_map, List.length_range]; exact Nat.le_refl _)] at eD
      refine ⟨_, rfl, k D H3 (s0.trans s3) (s0.free nD) eD⟩
end

abbrev s_is_integer : Stmt := topS 7
theorem sc_is_integer : FnScope ["thing", "low", "high"] ["thing", "low", "high"] (defScope s_is_integer) := ⟨rfl, rfl, rfl, by decide +kernel, rfl, by decide +kernel, by decide +kernel⟩
/-- the values of «any value» -/
inductive AnyV (K : PySem.W.Frag) (H : Hp) : V → Prop
  | non : AnyV K H .non
  | bl (b : Bool) : AnyV K H (.bl b)
  | int (i : Int) : AnyV K H (.int i)
  | str (x : Str) : AnyV K H (.str x)
  | lst {a : Addr} (h : TyX K H (.ref a) (.type "list")) : AnyV K H (.ref a)
  | tup {a : Addr} (h : TyX K H (.ref a) (.type "tuple")) : AnyV K H (.ref a)
  | dct {a : Addr} (h : TyX K H (.ref a) (.type "dict")) : AnyV K H (.ref a)
def isI (x : V) (lo hi : Int) : Bool := match x with
  | .int n => decide (lo ≤ n) && decide (n ≤ hi)
  | _ => false
theorem isI_yes {n lo hi : Int} (h : lo ≤ n) (h' : n ≤ hi) : isI (.int n) lo hi = true := by
  show (decide (lo ≤ n) && decide (n ≤ hi)) = true
  rw [decide_eq_true h, decide_eq_true h']
  rfl
def sp_is_integer (K : PySem.W.Frag) : Sp := fun vs H Q _ => ∃ (x : V) (lo hi : Int), vs = [x, .int lo, .int hi] ∧ AnyV K H x ∧ Q (.bl (isI x lo hi)) H
section
variable {P : Program} {w : World} {K : PySem.W.Frag} {mg : Str → Option Value} {base : Heap}
theorem ok_is_integer (A : At K mg "is_integer" s_is_integer ["thing", "low", "high"]) (B : Bn mg) : CalE P w K mg base "is_integer" ["thing", "low", "high"] 1 (sp_is_integer K) := by
  obtain ⟨f, fd, F, gF, bF⟩ := A
  refine ⟨f, fd, F.ok sc_is_integer (fun vs H Q E h => ?_) (fun cdv A outer s H vs Q E hr h => ?_), gF, F.kp, bF⟩
  · repeat (first | (obtain ⟨rfl, _⟩ := h; rfl) | (obtain ⟨_, h⟩ := h))
  · obtain ⟨x, lo, hi, rfl, hx, q⟩ := h
    refine ⟨_, (pss_one (ps_ret (pe_and (pe_callB (call_isi_ K) (by rfl) B.isinstance_ (by decide +kernel) (pa_cons (pv 0) (pa_cons (pe_bltn (v := .ty "int") (by rfl) B.int_ (by decide +kernel) rfl) pa_nil))) (pe_and (pe_not (pe_callB (call_isi_ K) (by rfl) B.isinstance_ (by decide +kernel) (pa_cons (pv 0) (pa_cons (pe_bltn (v := .ty "bool") (by rfl) B.bool_ (by decide +kernel) rfl) pa_nil)))) (pe_one (pe_chain op_le op_le (pv 1) (pv 0) (pv 2))))))), ?_⟩
    have no : ∀ T : String, TyX K H x (.type T) → kitB T "int" = some false → isI x lo hi = false → (tRet (tAndV (tCB (rIsi K) (tCons (tVar 0) (tCons (tC (.ty "int")) tNil))) (tAndV (tNotV (tCB (rIsi K) (tCons (tVar 0) (tCons (tC (.ty "bool")) tNil)))) (tChain (rI0 fun i j => .bl (decide (i ≤ j))) (rI0 fun i j => .bl (decide (i ≤ j))) (tVar 1) (tVar 0) (tVar 2))))) { nx := fun _ H' => Q .non H', rt := Q } (start ["thing", "low", "high"] [x, .int lo, .int hi]) H := fun T hT hk hi => by
      refine ⟨_, rfl, _, _, _, _, false, rfl, .ty _, hT, kit_ty hk, _, rfl, iteF ?_⟩
      rw [hi] at q
      exact q
    cases hx with
    | non => exact no _ (.base .non) (by decide +kernel) rfl
    | str z => exact no _ (.base (.str z)) (by decide +kernel) rfl
    | lst h => exact no _ h (by decide +kernel) rfl
    | tup h => exact no _ h (by decide +kernel) rfl
    | dct h => exact no _ h (by decide +kernel) rfl
    | bl b =>
      refine ⟨_, rfl, _, _, _, _, true, rfl, .ty _, .base (.bl b), kit_ty (by decide +kernel), _, rfl, iteT ?_⟩
      refine ⟨_, rfl, _, _, _, _, true, rfl, .ty _, .base (.bl b), kit_ty (by decide +kernel), _, rfl, _, rfl, iteF ?_⟩
      exact q
    | int n =>
      refine ⟨_, rfl, _, _, _, _, true, rfl, .ty _, .base (.int n), kit_ty (by decide +kernel), _, rfl, iteT ?_⟩
      refine ⟨_, rfl, _, _, _, _, false, rfl, .ty _, .base (.int n), kit_ty (by decide +kernel), _, rfl, _, rfl, iteT ?_⟩
      refine ⟨_, rfl, _, rfl, _, _, rfl, rfl, _, rfl, ?_⟩
      have e : isI (.int n) lo hi = (decide (lo ≤ n) && decide (n ≤ hi)) := rfl
      rw [e] at q
      by_cases c : lo ≤ n
      · rw [decide_eq_true c]
        rw [decide_eq_true c, Bool.true_and] at q
        exact iteT ⟨_, rfl, _, _, rfl, rfl, q⟩
      · rw [decide_eq_false c]
        rw [decide_eq_false c, Bool.false_and] at q
        exact iteF q
end

abbrev s_check_step : Stmt := topS 13
theorem sc_check_step : FnScope ["thing"] ["thing"] (defScope s_check_step) := ⟨rfl, rfl, rfl, by decide +kernel, rfl, by decide +kernel, by decide +kernel⟩
def sp_check_step (K : PySem.W.Frag) : Sp := fun vs H Q _ => ∃ m : Nat, vs = [.int (m : Nat)] ∧ 1 ≤ m ∧ m ≤ 64 ∧ Q .non H
section
variable {P : Program} {w : World} {K : PySem.W.Frag} {mg : Str → Option Value} {base : Heap}
theorem ok_check_step (A : At K mg "check_step" s_check_step ["thing"]) (B : Bn mg) (H_is_integer : CalE P w K mg base "is_integer" ["thing", "low", "high"] 1 (sp_is_integer K)) (K_MOST_STEP : ∃ v, mg "MOST_STEP" = some v ∧ RelV (.int 64) v) : CalE P w K mg base "check_step" ["thing"] 2 (sp_check_step K) := by
  obtain ⟨f, fd, F, gF, bF⟩ := A
  obtain ⟨f_is_integer, fd_is_integer, G_is_integer⟩ := H_is_integer
  obtain ⟨v_MOST_STEP, C_MOST_STEP⟩ := K_MOST_STEP
  refine ⟨f, fd, F.ok sc_check_step (fun vs H Q E h => ?_) (fun cdv A outer s H vs Q E hr h => ?_), gF, F.kp, bF⟩
  · repeat (first | (obtain ⟨rfl, _⟩ := h; rfl) | (obtain ⟨_, h⟩ := h))
  · obtain ⟨m, rfl, h1, h2, k⟩ := h
    obtain ⟨_, rfl⟩ := C_MOST_STEP.2
    refine ⟨_, (pss_one (ps_if (pt_not (pt_val (pe_call G_is_integer.ok (hr.mono (by first | decide | exact Nat.le_refl _)) (by rfl) G_is_integer.g G_is_integer.kp G_is_integer.b .nil pass0 (pa_cons (pv 0) (pa_cons pe_int (pa_cons (pe_glob (by rfl) C_MOST_STEP.1 C_MOST_STEP.2) pa_nil))))))
      (pss_one ps_never)
      pss_nil)), ?_⟩
    refine ⟨_, rfl, _, _, _, rfl, .int _, ?_⟩
    rw [isI_yes (by omega) (by omega)]
    exact ⟨_, rfl, iteF k⟩
end

abbrev s_power_of_two : Stmt := topS 15
theorem sc_power_of_two : FnScope ["times"] ["times"] (defScope s_power_of_two) := ⟨rfl, rfl, rfl, by decide +kernel, rfl, by decide +kernel, by decide +kernel⟩
def sp_power_of_two (K : PySem.W.Frag) : Sp := fun vs H Q _ => ∃ t : Nat, vs = [.int (t : Nat)] ∧ t ≤ 1000 ∧ Q (.int ((2 ^ t : Nat) : Int)) H
section
variable {P : Program} {w : World} {K : PySem.W.Frag} {mg : Str → Option Value} {base : Heap}
theorem ok_power_of_two (A : At K mg "power_of_two" s_power_of_two ["times"]) (B : Bn mg) : CalE P w K mg base "power_of_two" ["times"] 1 (sp_power_of_two K) := by
  obtain ⟨f, fd, F, gF, bF⟩ := A
  refine ⟨f, fd, F.ok sc_power_of_two (fun vs H Q E h => ?_) (fun cdv A outer s H vs Q E hr h => ?_), gF, F.kp, bF⟩
  · repeat (first | (obtain ⟨rfl, _⟩ := h; rfl) | (obtain ⟨_, h⟩ := h))
  · obtain ⟨t, rfl, ht, k⟩ := h
    refine ⟨_, (pss_one (ps_ret (pe_op op_shl pe_int (pv 0)))), ?_⟩
    refine ⟨_, rfl, _, _, rfl, rfl, ⟨by omega, by omega, by decide⟩, ?_⟩
    have e : (1 : Int) * 2 ^ ((t : Int)).toNat = ((2 ^ t : Nat) : Int) := by
      rw [Int.one_mul, Int.toNat_natCast, Int.natCast_pow]
      rfl
    show Q (.int ((1 : Int) * 2 ^ ((t : Int)).toNat)) H
    rw [e]
    exact k
end

abbrev s_wide : Stmt := topS 14
theorem sc_wide : FnScope ["step", "found"] ["step"] (defScope s_wide) := ⟨rfl, rfl, rfl, by decide +kernel, rfl, by decide +kernel, by decide +kernel⟩
def sp_wide (K : PySem.W.Frag) : Sp := fun vs H Q _ => ∃ m : Nat, vs = [.int (m : Nat)] ∧ m ≤ 64 ∧ Q (.int (wideN m : Nat)) H
section
variable {P : Program} {w : World} {K : PySem.W.Frag} {mg : Str → Option Value} {base : Heap}
theorem ok_wide (A : At K mg "wide" s_wide ["step"]) (B : Bn mg) (H_power_of_two : CalE P w K mg base "power_of_two" ["times"] 1 (sp_power_of_two K)) : CalE P w K mg base "wide" ["step"] 2 (sp_wide K) := by
  obtain ⟨f, fd, F, gF, bF⟩ := A
  obtain ⟨f_power_of_two, fd_power_of_two, G_power_of_two⟩ := H_power_of_two
  refine ⟨f, fd, F.ok sc_wide (fun vs H Q E h => ?_) (fun cdv A outer s H vs Q E hr h => ?_), gF, F.kp, bF⟩
  · repeat (first | (obtain ⟨rfl, _⟩ := h; rfl) | (obtain ⟨_, h⟩ := h))
  · obtain ⟨m, rfl, hm, k⟩ := h
    have h6 := wide_64 hm
    refine ⟨_, (pss_cons (ps_set (i := 1) sc_wide.nd rfl (.inl rfl) pe_int)
      (pss_cons (ps_while PassesOwn.never (pt_cmpR op_lt (pe_call G_power_of_two.ok (hr.mono (by first | decide | exact Nat.le_refl _)) (by rfl) G_power_of_two.g G_power_of_two.kp G_power_of_two.b .nil pass0 (pa_cons (pv 1) pa_nil)) (pv 0) (nomark _))
      (pss_one (ps_aug (i := 1) sc_wide.nd rfl (.inl rfl) pe_int ip_add)))
      (pss_one (ps_ret (pv 1))))), ?_⟩
    refine ⟨fun n σ H2 => ∃ c : Nat, n = 6 - c ∧ σ = [some (.int (m : Nat)), some (.int (c : Nat))] ∧ (∀ d, d < c → 2 ^ d < m) ∧ c ≤ 6 ∧ H2 = H, ⟨6, 0, rfl, rfl, fun d h => by omega, by decide, rfl⟩, ?_⟩
    rintro n σ H2 ⟨c, rfl, rfl, hc, c6, rfl⟩
    refine ⟨_, rfl, c, rfl, by omega, _, rfl, _, _, rfl, rfl, _, rfl, ite2 (fun z => ?_) (fun z => ?_)⟩
    · have z' : 2 ^ c < m := Int.ofNat_lt.mp (of_decide_eq_true z)
      have c5 : c < 6 := by
        refine Nat.not_le.mp fun y => ?_
        have : c = 6 := by omega
        subst this
        omega
      refine ⟨fun σ' H' => ∃ c' : Nat, c' = c + 1 ∧ σ' = [some (.int (m : Nat)), some (.int (c' : Nat))] ∧ H' = H2, fun σ' H' ⟨c', e0, e1, e2⟩ => ⟨6 - c', by omega, c', rfl, e1, fun d hd => ?_, by omega, e2⟩, ?_⟩
      · by_cases hd' : d = c
        · exact hd' ▸ z'
        · exact hc d (by omega)
      exact ⟨_, rfl, _, _, rfl, rfl, c + 1, rfl, rfl, rfl⟩
    · have z' : m ≤ 2 ^ c := Nat.not_lt.mp fun y => z (decide_eq_true (Int.ofNat_lt.mpr y))
      rw [wide_eq z' hc] at k
      exact ⟨_, rfl, k⟩
end

abbrev s_late_number : Stmt := topS 23
theorem sc_late_number : FnScope ["one", "other", "less", "more"] ["one", "other"] (defScope s_late_number) := ⟨rfl, rfl, rfl, by decide +kernel, rfl, by decide +kernel, by decide +kernel⟩
def sp_late_number (K : PySem.W.Frag) : Sp := fun vs H Q _ => ∃ a b : Nat, vs = [.int (a : Nat), .int (b : Nat)] ∧ 1 ≤ a ∧ 1 ≤ b ∧ a ≤ 64 ∧ b ≤ 64 ∧ a ≠ b ∧ Q (.int (lateN a b : Nat)) H
section
variable {P : Program} {w : World} {K : PySem.W.Frag} {mg : Str → Option Value} {base : Heap}
theorem ok_late_number (A : At K mg "late_number" s_late_number ["one", "other"]) (B : Bn mg) (H_wide : CalE P w K mg base "wide" ["step"] 2 (sp_wide K)) : CalE P w K mg base "late_number" ["one", "other"] 3 (sp_late_number K) := by
  obtain ⟨f, fd, F, gF, bF⟩ := A
  obtain ⟨f_wide, fd_wide, G_wide⟩ := H_wide
  refine ⟨f, fd, F.ok sc_late_number (fun vs H Q E h => ?_) (fun cdv A outer s H vs Q E hr h => ?_), gF, F.kp, bF⟩
  · repeat (first | (obtain ⟨rfl, _⟩ := h; rfl) | (obtain ⟨_, h⟩ := h))
  · obtain ⟨a, b, rfl, ha, hb, ha', hb', hab, k⟩ := h
    refine ⟨_, (pss_cons (ps_par (i := 2) (j := 3) (by rfl) sc_late_number.nd rfl rfl (by decide) rfl rfl (pa_cons (pe_callB (call_min2 rfl) (by rfl) B.min_ (by decide +kernel) (pa_cons (pv 0) (pa_cons (pv 1) pa_nil))) (pa_cons (pe_callB (call_max2 rfl) (by rfl) B.max_ (by decide +kernel) (pa_cons (pv 0) (pa_cons (pv 1) pa_nil))) pa_nil)) (by rfl))
      (pss_one (ps_ret (pe_op op_add (pe_op op_fdivW (pe_op op_mul (pe_op op_mul (pe_op op_add (pe_call G_wide.ok (hr.mono (by first | decide | exact Nat.le_refl _)) (by rfl) G_wide.g G_wide.kp G_wide.b .nil pass0 (pa_cons (pv 3) pa_nil)) pe_int) (pv 2)) (pv 3)) (pe_op op_sub (pv 3) (pv 2))) (pv 3))))), ?_⟩
    refine ⟨_, rfl, _, rfl, _, _, rfl, _, rfl, _, rfl, _, _, rfl, _, _, rfl, ?_⟩
    have e1 : (if (b : Int) < (a : Int) then (b : Int) else (a : Int)) = ((min a b : Nat) : Int) := by split <;> omega
    have e2 : (if (b : Int) > (a : Int) then (b : Int) else (a : Int)) = ((max a b : Nat) : Int) := by split <;> omega
    refine to_next (σ' := [some (.int (a : Nat)), some (.int (b : Nat)), some (.int ((min a b : Nat) : Int)), some (.int ((max a b : Nat) : Int))]) (by rw [← e1, ← e2]; rfl) ?_
    have hn := late_num ha hb ha' hb'
    have hd : (0 : Int) < ((max a b : Nat) : Int) - ((min a b : Nat) : Int) := by omega
    have hdb : (((max a b : Nat) : Int) - ((min a b : Nat) : Int)).natAbs < 2 ^ 8 := by omega
    refine ⟨_, rfl, max a b, rfl, by omega, _, _, rfl, rfl, _, rfl, _, _, rfl, rfl, .inr (by omega), _, rfl, _, _, rfl, rfl, .inr (by omega), _, rfl, _, rfl, _, _, rfl, rfl, _, _, rfl, rfl, wide_div hd hdb (by decide) (by decide), _, rfl, _, _, rfl, rfl, ?_⟩
    have e : (((wideN (max a b) : Nat) : Int) + 2) * ((min a b : Nat) : Int) * ((max a b : Nat) : Int) / (((max a b : Nat) : Int) - ((min a b : Nat) : Int)) + ((max a b : Nat) : Int) = ((lateN a b : Nat) : Int) := by
      unfold lateN
      rw [show (((max a b : Nat) : Int) - ((min a b : Nat) : Int)) = ((max a b - min a b : Nat) : Int) by omega]
      rw [Int.natCast_add, Int.natCast_ediv, Int.natCast_mul, Int.natCast_mul, Int.natCast_add]
      rfl
    show Q (.int ((((wideN (max a b) : Nat) : Int) + 2) * ((min a b : Nat) : Int) * ((max a b : Nat) : Int) / (((max a b : Nat) : Int) - ((min a b : Nat) : Int)) + ((max a b : Nat) : Int))) H
    rw [e]
    exact k
end

abbrev s_length_by : Stmt := topS 22
theorem sc_length_by : FnScope ["step", "number", "many", "short"] ["step", "number"] (defScope s_length_by) := ⟨rfl, rfl, rfl, by decide +kernel, rfl, by decide +kernel, by decide +kernel⟩
def sp_length_by (K : PySem.W.Frag) : Sp := fun vs H Q _ => ∃ m n : Nat, vs = [.int (m : Nat), .int (n : Nat)] ∧ 1 ≤ m ∧ m ≤ 64 ∧ Q (.int (lenN m n : Nat)) H
section
variable {P : Program} {w : World} {K : PySem.W.Frag} {mg : Str → Option Value} {base : Heap}
theorem ok_length_by (A : At K mg "length_by" s_length_by ["step", "number"]) (B : Bn mg) (H_wide : CalE P w K mg base "wide" ["step"] 2 (sp_wide K)) (H_power_of_two : CalE P w K mg base "power_of_two" ["times"] 1 (sp_power_of_two K)) : CalE P w K mg base "length_by" ["step", "number"] 3 (sp_length_by K) := by
  obtain ⟨f, fd, F, gF, bF⟩ := A
  obtain ⟨f_wide, fd_wide, G_wide⟩ := H_wide
  obtain ⟨f_power_of_two, fd_power_of_two, G_power_of_two⟩ := H_power_of_two
  refine ⟨f, fd, F.ok sc_length_by (fun vs H Q E h => ?_) (fun cdv A outer s H vs Q E hr h => ?_), gF, F.kp, bF⟩
  · repeat (first | (obtain ⟨rfl, _⟩ := h; rfl) | (obtain ⟨_, h⟩ := h))
  · obtain ⟨m, n, rfl, hm, h64, k⟩ := h
    have h6 := wide_64 h64
    have es : ((2 ^ wideN m : Nat) : Int) - (m : Int) = ((shortN m : Nat) : Int) := by
      unfold shortN
      have := wide_le m
      omega
    have hm0 : (0 : Int) < ((m : Nat) : Int) := by omega
    have hmb : (((m : Nat) : Int)).natAbs < 2 ^ 8 := by omega
    refine ⟨_, (pss_cons (ps_set (i := 2) sc_length_by.nd rfl (.inl rfl) (pe_call G_wide.ok (hr.mono (by first | decide | exact Nat.le_refl _)) (by rfl) G_wide.g G_wide.kp G_wide.b .nil pass0 (pa_cons (pv 0) pa_nil)))
      (pss_cons (ps_set (i := 3) sc_length_by.nd rfl (.inl rfl) (pe_op op_sub (pe_call G_power_of_two.ok (hr.mono (by first | decide | exact Nat.le_refl _)) (by rfl) G_power_of_two.g G_power_of_two.kp G_power_of_two.b .nil pass0 (pa_cons (pv 2) pa_nil)) (pv 0)))
      (pss_one (ps_ret (pe_op op_add (pe_op op_add (pe_op op_fdivW (pv 1) (pv 0)) pe_int) (pe_ifExp (pt_cmpR op_lt (pe_op op_mod (pv 1) (pv 0)) (pv 3) (nomark _)) (pe_op op_sub (pv 2) pe_int) (pv 2))))))), ?_⟩
    refine ⟨_, rfl, m, rfl, h64, ?_⟩
    refine ⟨_, rfl, wideN m, rfl, by omega, _, rfl, _, _, rfl, rfl, ?_⟩
    refine ⟨_, rfl, _, rfl, _, _, rfl, rfl, wide_div hm0 hmb (by decide) (by decide), _, _, rfl, rfl, ?_⟩
    refine ⟨_, rfl, _, rfl, _, _, rfl, rfl, hm0, _, rfl, _, _, rfl, rfl, _, rfl, ?_⟩
    rw [es]
    unfold lenN at k
    rw [rest_len] at k
    by_cases c : n % m < shortN m
    · have w1 : 1 ≤ wideN m := by
        refine Nat.not_lt.mp fun z => ?_
        have e := short_zero (show wideN m = 0 by omega) hm
        subst e
        have : shortN 1 = 0 := by decide
        omega
      refine iteDT (by omega) ?_
      refine ⟨_, rfl, _, _, rfl, rfl, _, _, rfl, rfl, ?_⟩
      rw [if_pos c] at k
      refine to_v (congrArg V.int ?_) k
      rw [← Int.natCast_ediv]
      omega
    · refine iteDF (by omega) ?_
      refine ⟨_, rfl, _, _, rfl, rfl, ?_⟩
      rw [if_neg c] at k
      refine to_v (congrArg V.int ?_) k
      rw [← Int.natCast_ediv]
      omega
end

abbrev s_first_shorter : Stmt := topS 24
theorem sc_first_shorter : FnScope ["one", "other", "number"] ["one", "other"] (defScope s_first_shorter) := ⟨rfl, rfl, rfl, by decide +kernel, rfl, by decide +kernel, by decide +kernel⟩
def sp_first_shorter (K : PySem.W.Frag) : Sp := fun vs H Q _ => ∃ a b : Nat, vs = [.int (a : Nat), .int (b : Nat)] ∧ 1 ≤ a ∧ 1 ≤ b ∧ a ≤ 64 ∧ b ≤ 64 ∧
  (∀ n : Nat, lenN a n < lenN b n → (∀ k, k < n → ¬ lenN a k < lenN b k) → Q (.int (n : Nat)) H) ∧ ((∀ n, ¬ lenN a n < lenN b n) → a ≤ b → Q .non H)
section
variable {P : Program} {w : World} {K : PySem.W.Frag} {mg : Str → Option Value} {base : Heap}
theorem ok_first_shorter (A : At K mg "first_shorter" s_first_shorter ["one", "other"]) (B : Bn mg) (H_check_step : CalE P w K mg base "check_step" ["thing"] 2 (sp_check_step K)) (H_late_number : CalE P w K mg base "late_number" ["one", "other"] 3 (sp_late_number K)) (H_length_by : CalE P w K mg base "length_by" ["step", "number"] 3 (sp_length_by K)) : CalE P w K mg base "first_shorter" ["one", "other"] 4 (sp_first_shorter K) := by
  obtain ⟨f, fd, F, gF, bF⟩ := A
  obtain ⟨f_check_step, fd_check_step, G_check_step⟩ := H_check_step
  obtain ⟨f_late_number, fd_late_number, G_late_number⟩ := H_late_number
  obtain ⟨f_length_by, fd_length_by, G_length_by⟩ := H_length_by
  refine ⟨f, fd, F.ok sc_first_shorter (fun vs H Q E h => ?_) (fun cdv A outer s H vs Q E hr h => ?_), gF, F.kp, bF⟩
  · repeat (first | (obtain ⟨rfl, _⟩ := h; rfl) | (obtain ⟨_, h⟩ := h))
  · obtain ⟨a, b, rfl, ha, hb, ha', hb', k, kN⟩ := h
    refine ⟨_, (pss_cons (ps_expr (pe_call G_check_step.ok (hr.mono (by first | decide | exact Nat.le_refl _)) (by rfl) G_check_step.g G_check_step.kp G_check_step.b .nil pass0 (pa_cons (pv 0) pa_nil)))
      (pss_cons (ps_expr (pe_call G_check_step.ok (hr.mono (by first | decide | exact Nat.le_refl _)) (by rfl) G_check_step.g G_check_step.kp G_check_step.b .nil pass0 (pa_cons (pv 1) pa_nil)))
      (pss_cons (ps_if (pt_cmpR op_eq (pv 0) (pv 1) (nomark _))
      (pss_one (ps_ret pe_non))
      pss_nil)
      (pss_cons (ps_for PassesOwn.never rfl (pi_range1 (by rfl) B.range_ (pa_cons (pe_op op_add (pe_call G_late_number.ok (hr.mono (by first | decide | exact Nat.le_refl _)) (by rfl) G_late_number.g G_late_number.kp G_late_number.b .nil pass0 (pa_cons (pv 0) (pa_cons (pv 1) pa_nil))) pe_int) pa_nil)) (pg_name (i := 2) sc_first_shorter.nd rfl (.inl rfl))
      (pss_one (ps_if (pt_cmpR op_lt (pe_call G_length_by.ok (hr.mono (by first | decide | exact Nat.le_refl _)) (by rfl) G_length_by.g G_length_by.kp G_length_by.b .nil pass0 (pa_cons (pv 0) (pa_cons (pv 2) pa_nil))) (pe_call G_length_by.ok (hr.mono (by first | decide | exact Nat.le_refl _)) (by rfl) G_length_by.g G_length_by.kp G_length_by.b .nil pass0 (pa_cons (pv 1) (pa_cons (pv 2) pa_nil))) (nomark _))
      (pss_one (ps_ret (pv 2)))
      pss_nil)))
      (pss_one (ps_ret pe_non)))))), ?_⟩
    refine ⟨_, rfl, a, rfl, ha, ha', _, rfl, b, rfl, hb, hb', ?_⟩
    refine ⟨_, rfl, _, rfl, rfl, _, rfl, ?_⟩
    by_cases e : a = b
    · subst e
      exact iteDT rfl (kN (fun n => Nat.lt_irrefl _) (Nat.le_refl _))
    refine iteDF (fun z => e (by have := V.int.inj z; omega)) ?_
    have hlb := late_bound ha hb ha' hb'
    refine ⟨_, rfl, _, rfl, a, b, rfl, ha, hb, ha', hb', e, _, _, rfl, rfl, _, rfl, by omega, by omega, ?_⟩
    rw [show ((((lateN a b : Nat) : Int) + 1).toNat) = lateN a b + 1 by omega]
    refine for_range (lo := 0) (n := lateN a b + 1) (fun i σ H2 => ∃ v, σ = [some (.int (a : Nat)), some (.int (b : Nat)), v] ∧ H2 = H ∧ ∀ j, j < i → ¬ lenN a j < lenN b j) ⟨_, rfl, rfl, fun j h => by omega⟩ ?_ ?_
    · rintro i σ H2 hi ⟨v, rfl, rfl, hv⟩
      refine ⟨_, rfl, _, rfl, a, i, ?_, ha, ha', _, rfl, _, rfl, b, i, ?_, hb, hb', _, _, rfl, rfl, _, rfl, ?_⟩
      · show [V.int (a : Int), V.int (0 + (i : Int))] = _
        rw [Int.zero_add]
      · show [V.int (b : Int), V.int (0 + (i : Int))] = _
        rw [Int.zero_add]
      by_cases c : lenN a i < lenN b i
      · refine iteDT (by omega) ⟨_, rfl, ?_⟩
        refine to_v (v' := V.int (i : Nat)) (congrArg V.int (Int.zero_add _)) (k i c hv)
      · refine iteDF (by omega) ⟨_, rfl, rfl, fun j hj => ?_⟩
        by_cases ej : j = i
        · exact ej ▸ c
        · exact hv j (by omega)
    · rintro σ H2 ⟨v, rfl, rfl, hv⟩
      have no : ∀ n, ¬ lenN a n < lenN b n := fun n => by
        by_cases c : n < lateN a b + 1
        · exact hv n c
        intro z
        rcases Nat.lt_or_gt_of_ne e with h | h
        · have := late_longer ha h (show lateN a b ≤ n by omega)
          omega
        · have h1 := late_longer hb h (show lateN b a ≤ lateN a b by rw [lateN_comm]; exact Nat.le_refl _)
          exact hv _ (by omega) h1
      refine kN no ?_
      refine Nat.not_lt.mp fun h => ?_
      exact no _ (late_longer hb h (Nat.le_refl _))
end

abbrev s_longer_from : Stmt := topS 25
theorem sc_longer_from : FnScope ["one", "other", "found"] ["one", "other"] (defScope s_longer_from) := ⟨rfl, rfl, rfl, by decide +kernel, rfl, by decide +kernel, by decide +kernel⟩
def sp_longer_from (K : PySem.W.Frag) : Sp := fun vs H Q _ => ∃ a b : Nat, vs = [.int (a : Nat), .int (b : Nat)] ∧ 1 ≤ a ∧ 1 ≤ b ∧ a ≤ 64 ∧ b ≤ 64 ∧
  (a < b → ∀ N : Nat, (∀ n, N ≤ n → lenN b n < lenN a n) → (0 < N → ¬ lenN b (N - 1) < lenN a (N - 1)) → Q (.int (N : Nat)) H) ∧ (b ≤ a → Q .non H)
section
variable {P : Program} {w : World} {K : PySem.W.Frag} {mg : Str → Option Value} {base : Heap}
theorem ok_longer_from (A : At K mg "longer_from" s_longer_from ["one", "other"]) (B : Bn mg) (H_check_step : CalE P w K mg base "check_step" ["thing"] 2 (sp_check_step K)) (H_late_number : CalE P w K mg base "late_number" ["one", "other"] 3 (sp_late_number K)) (H_length_by : CalE P w K mg base "length_by" ["step", "number"] 3 (sp_length_by K)) : CalE P w K mg base "longer_from" ["one", "other"] 4 (sp_longer_from K) := by
  obtain ⟨f, fd, F, gF, bF⟩ := A
  obtain ⟨f_check_step, fd_check_step, G_check_step⟩ := H_check_step
  obtain ⟨f_late_number, fd_late_number, G_late_number⟩ := H_late_number
  obtain ⟨f_length_by, fd_length_by, G_length_by⟩ := H_length_by
  refine ⟨f, fd, F.ok sc_longer_from (fun vs H Q E h => ?_) (fun cdv A outer s H vs Q E hr h => ?_), gF, F.kp, bF⟩
  · repeat (first | (obtain ⟨rfl, _⟩ := h; rfl) | (obtain ⟨_, h⟩ := h))
  · obtain ⟨a, b, rfl, ha, hb, ha', hb', k, kN⟩ := h
    refine ⟨_, (pss_cons (ps_expr (pe_call G_check_step.ok (hr.mono (by first | decide | exact Nat.le_refl _)) (by rfl) G_check_step.g G_check_step.kp G_check_step.b .nil pass0 (pa_cons (pv 0) pa_nil)))
      (pss_cons (ps_expr (pe_call G_check_step.ok (hr.mono (by first | decide | exact Nat.le_refl _)) (by rfl) G_check_step.g G_check_step.kp G_check_step.b .nil pass0 (pa_cons (pv 1) pa_nil)))
      (pss_cons (ps_if (pt_cmpR op_ge (pv 0) (pv 1) (nomark _))
      (pss_one (ps_ret pe_non))
      pss_nil)
      (pss_cons (ps_set (i := 2) sc_longer_from.nd rfl (.inl rfl) (pe_call G_late_number.ok (hr.mono (by first | decide | exact Nat.le_refl _)) (by rfl) G_late_number.g G_late_number.kp G_late_number.b .nil pass0 (pa_cons (pv 0) (pa_cons (pv 1) pa_nil))))
      (pss_cons (ps_while PassesOwn.never (PW.pt (pw_and (pt_cmpR op_gt (pv 2) pe_int (nomark _)) (pw_and1 (pt_cmpR op_gt (pe_call G_length_by.ok (hr.mono (by first | decide | exact Nat.le_refl _)) (by rfl) G_length_by.g G_length_by.kp G_length_by.b .nil pass0 (pa_cons (pv 0) (pa_cons (pe_op op_sub (pv 2) pe_int) pa_nil))) (pe_call G_length_by.ok (hr.mono (by first | decide | exact Nat.le_refl _)) (by rfl) G_length_by.g G_length_by.kp G_length_by.b .nil pass0 (pa_cons (pv 1) (pa_cons (pe_op op_sub (pv 2) pe_int) pa_nil))) (nomark _)))))
      (pss_one (ps_aug (i := 2) sc_longer_from.nd rfl (.inl rfl) pe_int ip_sub)))
      (pss_one (ps_ret (pv 2)))))))), ?_⟩
    refine ⟨_, rfl, a, rfl, ha, ha', _, rfl, b, rfl, hb, hb', ?_⟩
    refine ⟨_, rfl, _, rfl, _, _, rfl, rfl, _, rfl, ?_⟩
    by_cases e : b ≤ a
    · exact iteDT (by omega) (kN e)
    refine iteDF (by omega) ?_
    refine ⟨_, rfl, _, rfl, a, b, rfl, ha, hb, ha', hb', by omega, ?_⟩
    refine ⟨fun n σ H2 => ∃ N : Nat, n = N ∧ σ = [some (.int (a : Nat)), some (.int (b : Nat)), some (.int (N : Nat))] ∧ H2 = H ∧ ∀ n, N ≤ n → lenN b n < lenN a n, ⟨_, _, rfl, rfl, rfl, fun n hn => late_longer ha (by omega) hn⟩, ?_⟩
    rintro N σ H2 ⟨_, rfl, rfl, rfl, hN⟩
    refine ⟨_, rfl, _, _, rfl, rfl, _, rfl, ?_⟩
    by_cases c : 0 < N
    · refine iteDT (by omega) ?_
      have eN : (N : Int) - 1 = ((N - 1 : Nat) : Int) := by omega
      refine ⟨_, rfl, _, rfl, _, _, rfl, rfl, a, N - 1, ?_, ha, ha', _, rfl, _, rfl, _, _, rfl, rfl, b, N - 1, ?_, hb, hb', _, _, rfl, rfl, _, rfl, ?_⟩
      · show [V.int (a : Int), V.int ((N : Int) - 1)] = _
        rw [eN]
      · show [V.int (b : Int), V.int ((N : Int) - 1)] = _
        rw [eN]
      by_cases d : lenN b (N - 1) < lenN a (N - 1)
      · refine iteDT (by omega) ?_
        refine ⟨fun σ' H' => σ' = [some (.int (a : Nat)), some (.int (b : Nat)), some (.int ((N - 1 : Nat) : Int))] ∧ H' = H2, fun σ' H' ⟨e1, e2⟩ => ⟨N - 1, by omega, N - 1, rfl, e1, e2, fun n hn => ?_⟩, ?_⟩
        · by_cases en : n = N - 1
          · exact en ▸ d
          · exact hN n (by omega)
        · refine ⟨_, rfl, _, _, rfl, rfl, ?_, rfl⟩
          rw [← eN]
          rfl
      · refine iteDF (by omega) ⟨_, rfl, k (by omega) N hN fun _ => d⟩
    · exact iteDF (by omega) ⟨_, rfl, k (by omega) N hN fun z => absurd z c⟩
end

abbrev s__law_alike : Stmt := topS 30
theorem sc__law_alike : FnScope ["_law_found", "_law_due", "_law_k"] ["_law_found", "_law_due"] (defScope s__law_alike) := ⟨rfl, rfl, rfl, by decide +kernel, rfl, by decide +kernel, by decide +kernel⟩
def tnD : PyData → String
  | .none => "NoneType" | .bool _ => "bool" | .int _ => "int" | .str _ => "str" | .list _ => "list" | .tuple _ => "tuple" | .dict _ => "dict"
theorem Dp.ty {K : PySem.W.Frag} {H : Hp} {v : V} {d : PyData} (h : Dp K H v d) : TyX K H v (.type (tnD d)) := by
  cases h with
  | non => exact .base .non
  | bl b => exact .base (.bl b)
  | int i => exact .base (.int i)
  | str x => exact .base (.str x)
  | lst h _ => exact tyL h
  | tup h _ => exact tyT h
def isLD : PyData → Bool
  | .list _ => true | _ => false
theorem kaTL {K : PySem.W.Frag} (d : PyData) : PySem.W.kitAny K (.type (tnD d)) [.type "tuple", .type "list"] = some (isTL d) := by
  have no : ∀ T : String, kitB T "tuple" = some false → kitB T "list" = some false → PySem.W.kitAny K (.type T) [.type "tuple", .type "list"] = some false := fun T h1 h2 =>
    kitAny_cons (b := false) (kit_ty h1) (fun _ => kitAny_cons (b := false) (kit_ty h2) (fun _ => rfl) (fun z => nomatch z)) (fun z => nomatch z)
  have c1 : kitB "tuple" "tuple" = some true := by decide +kernel
  have c2 : kitB "list" "tuple" = some false := by decide +kernel
  have c3 : kitB "list" "list" = some true := by decide +kernel
  cases d with
  | none => exact no "NoneType" (by decide +kernel) (by decide +kernel)
  | bool b => exact no "bool" (by decide +kernel) (by decide +kernel)
  | int b => exact no "int" (by decide +kernel) (by decide +kernel)
  | str b => exact no "str" (by decide +kernel) (by decide +kernel)
  | dict b => exact no "dict" (by decide +kernel) (by decide +kernel)
  | tuple b => exact kitAny_cons (b := true) (kit_ty c1) (fun z => nomatch z) (fun _ => rfl)
  | list b => exact kitAny_cons (b := false) (kit_ty c2) (fun _ => kitAny_cons (b := true) (kit_ty c3) (fun z => nomatch z) (fun _ => rfl)) (fun z => nomatch z)
theorem kaL {K : PySem.W.Frag} (d : PyData) : PySem.W.kitOne K (.type (tnD d)) (.type "list") = some (isLD d) := by
  have c1 : kitB "NoneType" "list" = some false := by decide +kernel
  have c2 : kitB "bool" "list" = some false := by decide +kernel
  have c3 : kitB "int" "list" = some false := by decide +kernel
  have c4 : kitB "str" "list" = some false := by decide +kernel
  have c5 : kitB "list" "list" = some true := by decide +kernel
  have c6 : kitB "tuple" "list" = some false := by decide +kernel
  have c7 : kitB "dict" "list" = some false := by decide +kernel
  cases d <;> first | exact kit_ty c1 | exact kit_ty c2 | exact kit_ty c3 | exact kit_ty c4 | exact kit_ty c5 | exact kit_ty c6 | exact kit_ty c7
theorem kit_of_names {K : PySem.W.Frag} (c : String) (g : PyData → Bool) (h : ∀ d, kitB (tnD d) c = some (g d)) (d : PyData) : PySem.W.kitOne K (.type (tnD d)) (.type c) = some (g d) := kit_ty (h d)
def isSD : PyData → Bool
  | .str _ => true | _ => false
def isID : PyData → Bool
  | .int _ => true | .bool _ => true | _ => false
def isBD : PyData → Bool
  | .bool _ => true | _ => false
theorem tab {c : String} {b1 b2 b3 b4 b5 b6 b7 : Bool} (h : kitB "NoneType" c = some b1 ∧ kitB "bool" c = some b2 ∧ kitB "int" c = some b3 ∧ kitB "str" c = some b4 ∧ kitB "list" c = some b5 ∧ kitB "tuple" c = some b6 ∧ kitB "dict" c = some b7) (d : PyData) :
    kitB (tnD d) c = some (match d with | .none => b1 | .bool _ => b2 | .int _ => b3 | .str _ => b4 | .list _ => b5 | .tuple _ => b6 | .dict _ => b7) := by
  obtain ⟨h1, h2, h3, h4, h5, h6, h7⟩ := h
  cases d <;> assumption
theorem kS {K : PySem.W.Frag} (d : PyData) : PySem.W.kitOne K (.type (tnD d)) (.type "str") = some (isSD d) := by
  have := kit_ty (K := K) (tab (c := "str") (by decide +kernel : kitB "NoneType" "str" = some false ∧ kitB "bool" "str" = some false ∧ kitB "int" "str" = some false ∧ kitB "str" "str" = some true ∧ kitB "list" "str" = some false ∧ kitB "tuple" "str" = some false ∧ kitB "dict" "str" = some false) d)
  cases d <;> exact this
theorem kI {K : PySem.W.Frag} (d : PyData) : PySem.W.kitOne K (.type (tnD d)) (.type "int") = some (isID d) := by
  have := kit_ty (K := K) (tab (c := "int") (by decide +kernel : kitB "NoneType" "int" = some false ∧ kitB "bool" "int" = some true ∧ kitB "int" "int" = some true ∧ kitB "str" "int" = some false ∧ kitB "list" "int" = some false ∧ kitB "tuple" "int" = some false ∧ kitB "dict" "int" = some false) d)
  cases d <;> exact this
theorem kB {K : PySem.W.Frag} (d : PyData) : PySem.W.kitOne K (.type (tnD d)) (.type "bool") = some (isBD d) := by
  have := kit_ty (K := K) (tab (c := "bool") (by decide +kernel : kitB "NoneType" "bool" = some false ∧ kitB "bool" "bool" = some true ∧ kitB "int" "bool" = some false ∧ kitB "str" "bool" = some false ∧ kitB "list" "bool" = some false ∧ kitB "tuple" "bool" = some false ∧ kitB "dict" "bool" = some false) d)
  cases d <;> exact this
def spA (K : PySem.W.Frag) (n : Nat) : Sp := fun vs H Q _ => ∃ (x y : V) (d : PyData) (m : Nat), vs = [x, y] ∧ n = m + 1 ∧ Dp K H x d ∧ Dp K H y d ∧ OkD m d ∧ ∀ H', Same H H' → Q (.bl true) H'
def sp__law_alike (K : PySem.W.Frag) : Sp := spA K 5
section
variable {P : Program} {w : World} {K : PySem.W.Frag} {mg : Str → Option Value} {base : Heap}
theorem ok__law_alike (A : At K mg "_law_alike" s__law_alike ["_law_found", "_law_due"]) (B : Bn mg) : CalE P w K mg base "_law_alike" ["_law_found", "_law_due"] 5 (sp__law_alike K) := by
  obtain ⟨f, fd, F, gF, bF⟩ := A
  have key : ∀ n, FnOk P w K mg base CX0 n f fd ["_law_found", "_law_due"] (spA K n) := by
    intro n
    induction n with
    | zero =>
      have no : ∀ vs H Q E, ¬ spA K 0 vs H Q E := fun vs H Q E h => by
        obtain ⟨x, y, d, m, _, h1, _⟩ := h
        omega
      exact ⟨fun vs H Q E h => absurd h (no vs H Q E), fun A outer s H args us vs Q E _ _ _ _ h => absurd h (no vs H Q E)⟩
    | succ n ih =>
      have G__law_alike : Cal P w K mg base "_law_alike" ["_law_found", "_law_due"] n (spA K n) f fd := ⟨ih, gF, F.kp, bF⟩
      refine F.ok sc__law_alike (fun vs H Q E h => ?_) (fun cdv A outer s H vs Q E hr h => ?_)
      · obtain ⟨x, y, d, m, rfl, _⟩ := h
        rfl
      obtain ⟨x, y, d, m, rfl, em, hx, hy, hd, q⟩ := h
      have em' : n = m := Nat.succ.inj em
      subst em'
      refine ⟨_, (pss_cons (ps_if (pt_val (pe_callB (call_isiT_ K) (by rfl) B.isinstance_ (by decide +kernel) (pa_cons (pv 1) (pa_cons (pe_tup (pa_cons (pe_bltn (v := .ty "tuple") (by rfl) B.tuple_ (by decide +kernel) rfl) (pa_cons (pe_bltn (v := .ty "list") (by rfl) B.list_ (by decide +kernel) rfl) pa_nil))) pa_nil))))
      (pss_cons (ps_if (PW.pt (pw_or (pt_not (pt_val (pe_callB (call_isiT_ K) (by rfl) B.isinstance_ (by decide +kernel) (pa_cons (pv 0) (pa_cons (pe_tup (pa_cons (pe_bltn (v := .ty "tuple") (by rfl) B.tuple_ (by decide +kernel) rfl) (pa_cons (pe_bltn (v := .ty "list") (by rfl) B.list_ (by decide +kernel) rfl) pa_nil))) pa_nil))))) (pw_or1 (pt_cmpR op_ne (pe_callB (call_isi_ K) (by rfl) B.isinstance_ (by decide +kernel) (pa_cons (pv 0) (pa_cons (pe_bltn (v := .ty "list") (by rfl) B.list_ (by decide +kernel) rfl) pa_nil))) (pe_callB (call_isi_ K) (by rfl) B.isinstance_ (by decide +kernel) (pa_cons (pv 1) (pa_cons (pe_bltn (v := .ty "list") (by rfl) B.list_ (by decide +kernel) rfl) pa_nil))) (nomark _)))))
      (pss_one (ps_ret pe_bl))
      pss_nil)
      (pss_cons (ps_if (pt_cmpR op_ne (pe_callB (call_len_ K) (by rfl) B.len_ (by decide +kernel) (pa_cons (pv 0) pa_nil)) (pe_callB (call_len_ K) (by rfl) B.len_ (by decide +kernel) (pa_cons (pv 1) pa_nil)) (nomark _))
      (pss_one (ps_ret pe_bl))
      pss_nil)
      (pss_one (ps_ret (pe_cmpR (op_eqD_ K hr.units) (pe_lc (own := [("_law_k", 2)]) (g := gName 2) (tt := _) rfl sc__law_alike.nd (pi_range1 (by rfl) B.range_ (pa_cons (pe_callB (call_len_ K) (by rfl) B.len_ (by decide +kernel) (pa_cons (pv 1) pa_nil)) pa_nil)) (blkOk_by (own := [("_law_k", 2)]) (N := ["_law_found", "_law_due", "_law_k"]) (sc := defScope s__law_alike) (by decide +kernel)) (fun _ _ _ _ _ => (pg_name (i := 2) sc__law_alike.nd rfl (.inl rfl))) (fun _ _ _ _ _ => (pts_one (pt_not (pt_val (pe_call G__law_alike.ok (hr.mono (by first | decide | exact Nat.le_refl _)) (by rfl) G__law_alike.g G__law_alike.kp G__law_alike.b .nil pass0 (pa_cons (pe_ix (ix_seq_ K) (pv 0) (pv 2) (fun _ _ => rfl)) (pa_cons (pe_ix (ix_seq_ K) (pv 1) (pv 2) (fun _ _ => rfl)) pa_nil))))))) (fun _ _ _ _ _ => (pv 2))) (pe_lst pa_nil) (nomark _))))))
      pss_nil)
      (pss_cons (ps_if (PW.pt (pw_or (pt_cmp (pc_isN (pv 1))) (pw_or1 (pt_val (pe_callB (call_isi_ K) (by rfl) B.isinstance_ (by decide +kernel) (pa_cons (pv 1) (pa_cons (pe_bltn (v := .ty "str") (by rfl) B.str_ (by decide +kernel) rfl) pa_nil)))))))
      (pss_one (ps_ret (pe_and (pe_cmpR op_eq (pv 0) (pv 1) (nomark _)) (pe_one (pe_cmpR op_eq (pe_callB (call_isi_ K) (by rfl) B.isinstance_ (by decide +kernel) (pa_cons (pv 0) (pa_cons (pe_bltn (v := .ty "str") (by rfl) B.str_ (by decide +kernel) rfl) pa_nil))) (pe_callB (call_isi_ K) (by rfl) B.isinstance_ (by decide +kernel) (pa_cons (pv 1) (pa_cons (pe_bltn (v := .ty "str") (by rfl) B.str_ (by decide +kernel) rfl) pa_nil))) (nomark _))))))
      pss_nil)
      (pss_one (ps_ret (pe_and (pe_callB (call_isi_ K) (by rfl) B.isinstance_ (by decide +kernel) (pa_cons (pv 0) (pa_cons (pe_bltn (v := .ty "int") (by rfl) B.int_ (by decide +kernel) rfl) pa_nil))) (pe_and (pe_cmpR op_eq (pe_callB (call_isi_ K) (by rfl) B.isinstance_ (by decide +kernel) (pa_cons (pv 0) (pa_cons (pe_bltn (v := .ty "bool") (by rfl) B.bool_ (by decide +kernel) rfl) pa_nil))) (pe_callB (call_isi_ K) (by rfl) B.isinstance_ (by decide +kernel) (pa_cons (pv 1) (pa_cons (pe_bltn (v := .ty "bool") (by rfl) B.bool_ (by decide +kernel) rfl) pa_nil))) (nomark _)) (pe_one (pe_cmpR op_eq (pv 0) (pv 1) (nomark _))))))))), ?_⟩
      -- isinstance(due, (tuple, list))
      refine ⟨_, rfl, (by show 2 ≤ sizeLine; decide), fun p np => ?_⟩
      have s1 := same_new np (.tup [.ty "tuple", .ty "list"])
      have x1 := Dp.same s1 hx
      have y1 := Dp.same s1 hy
      have two : ([V.ty "tuple", V.ty "list"] : List V).length ≤ sizeLine := by show 2 ≤ sizeLine; decide
      refine ⟨_, p, _, _, _, _, rfl, upd_same, .cons (.ty _) (.cons (.ty _) .nil), Dp.ty y1, kaTL d, _, rfl, ?_⟩
      have flat : isTL d = false → (d = .none ∨ (∃ b, d = .bool b) ∨ (∃ i, d = .int i) ∨ ∃ z, d = .str z) := by
        intro h
        cases d with
        | none => exact .inl rfl
        | bool b => exact .inr (.inl ⟨b, rfl⟩)
        | int i => exact .inr (.inr (.inl ⟨i, rfl⟩))
        | str z => exact .inr (.inr (.inr ⟨z, rfl⟩))
        | list _ => cases h
        | tuple _ => cases h
        | dict _ => cases hy
      cases hd0 : isTL d with
      | true =>
        refine iteT ?_
        -- not isinstance(found, (tuple, list)) or isinstance(found, list) != isinstance(due, list)
        refine ⟨_, rfl, two, fun p2 np2 => ?_⟩
        have s2 := same_new np2 (.tup [.ty "tuple", .ty "list"])
        refine ⟨_, p2, _, _, _, _, rfl, upd_same, .cons (.ty _) (.cons (.ty _) .nil), Dp.ty (Dp.same s2 x1), kaTL d, _, rfl, ?_⟩
        have x2 := Dp.same s2 x1
        have y2 := Dp.same s2 y1
        have s3 := s1.trans s2
        generalize upd (upd H p (.tup [.ty "tuple", .ty "list"])) p2 (.tup [.ty "tuple", .ty "list"]) = H2 at *
        rw [hd0]
        refine iteF ?_
        refine ⟨_, rfl, _, _, _, _, _, rfl, .ty _, Dp.ty x2, kaL d, _, rfl, _, _, _, _, _, rfl, .ty _, Dp.ty y2, kaL d, rfl, _, rfl, ?_⟩
        refine iteNS rfl ?_
        obtain ⟨a, xs, ds, rfl, ha, da⟩ := Dp.seq x2 hd0
        obtain ⟨b, ys, es, rfl, hb, db⟩ := Dp.seq y2 hd0
        have ee : es = ds := by
          rcases ha with ⟨e1, _⟩ | ⟨e1, _⟩ <;> rcases hb with ⟨e2, _⟩ | ⟨e2, _⟩
          · exact PyData.list.inj (e2.symm.trans e1)
          · cases e2.symm.trans e1
          · cases e2.symm.trans e1
          · exact PyData.tuple.inj (e2.symm.trans e1)
        subst ee
        have qa : SqL K H2 a xs ∨ SqT K H2 a xs := ha.elim (fun z => .inl z.2) (fun z => .inr z.2)
        have qb : SqL K H2 b ys ∨ SqT K H2 b ys := hb.elim (fun z => .inl z.2) (fun z => .inr z.2)
        have lx : xs.length = es.length := DpAll.length da
        have ly : ys.length = es.length := DpAll.length db
        obtain ⟨n', rfl, hsz, hok⟩ : ∃ n', n = n' + 1 ∧ es.length ≤ 1000000 ∧ ∀ d ∈ es, OkD n' d := by
          cases n with
          | zero => rcases ha with ⟨rfl, _⟩ | ⟨rfl, _⟩ <;> exact absurd hd id
          | succ n' => rcases ha with ⟨rfl, _⟩ | ⟨rfl, _⟩ <;> exact ⟨n', rfl, hd.1, hd.2⟩
        have La : ∀ H3, Same H2 H3 → LenV K (.ref a) H3 es.length := fun H3 s => qa.elim (fun z => .inl ⟨_, s.seq z, lx.symm⟩) (fun z => .inr ⟨_, Same.seqT s z, lx.symm⟩)
        have Lb : ∀ H3, Same H2 H3 → LenV K (.ref b) H3 es.length := fun H3 s => qb.elim (fun z => .inl ⟨_, s.seq z, ly.symm⟩) (fun z => .inr ⟨_, Same.seqT s z, ly.symm⟩)
        -- len(found) != len(due)
        refine ⟨_, rfl, _, es.length, rfl, La _ (Same.refl _), _, rfl, _, es.length, rfl, Lb _ (Same.refl _), rfl, _, rfl, iteNS rfl ?_⟩
        -- the comprehension
        refine ⟨_, rfl, _, es.length, rfl, Lb _ (Same.refl _), (es.length : Int), rfl, by omega, by omega, fun D nD => ?_⟩
        refine lc_range (lo := 0) (n := es.length) (fun i H' => Same H2 H' ∧ H' D = some (.lst [])) ⟨same_new nD _, upd_same⟩ ?_ ?_
        · rintro i H3 hi ⟨s4, eD⟩
          have hdi : es[i]? = some es[i] := List.getElem?_eq_getElem hi
          obtain ⟨u, hu, du⟩ := DpAll.get da hdi
          obtain ⟨v, hv, dv⟩ := DpAll.get db hdi
          have ei : (0 : Int) + (i : Int) = ((i : Nat) : Int) := Int.zero_add _
          refine ⟨rfl, _, rfl, _, rfl, ?_⟩
          have g1 : rIx K (.ref a) (.int (0 + (i : Int))) H3 = fun Q => rIx K (.ref a) (.int (0 + (i : Int))) H3 Q := rfl
          have ra : ∀ Q : VK, Q u H3 → rIx K (.ref a) (.int (0 + (i : Int))) H3 Q := fun Q q => qa.elim (fun z => .inl ⟨a, xs, _, u, rfl, rfl, s4.seq z, at_of ei hu, q⟩) (fun z => .inr (.inl ⟨a, xs, _, u, rfl, rfl, Same.seqT s4 z, at_of ei hu, q⟩))
          have rb : ∀ Q : VK, Q v H3 → rIx K (.ref b) (.int (0 + (i : Int))) H3 Q := fun Q q => qb.elim (fun z => .inl ⟨b, ys, _, v, rfl, rfl, s4.seq z, at_of ei hv, q⟩) (fun z => .inr (.inl ⟨b, ys, _, v, rfl, rfl, Same.seqT s4 z, at_of ei hv, q⟩))
          refine ra _ ?_
          refine ⟨_, rfl, _, rfl, rb _ ?_⟩
          refine ⟨u, v, es[i], n', rfl, rfl, Dp.same s4 du, Dp.same s4 dv, hok _ (List.getElem_mem hi), fun H4 s5 => ?_⟩
          refine ⟨_, rfl, iteF ?_⟩
          exact ⟨s4.trans s5, s5 _ _ eD⟩
        · rintro H3 ⟨s4, eD⟩
          refine ⟨(by show 0 ≤ sizeLine; decide), fun l nl => ?_⟩
          have s5 := same_new nl (.lst [])
          refine ⟨.list [], .list [], .lst (.inl (.inl (s5 _ _ eD))) .nil, .lst (.inl (.inl upd_same)) .nil, by decide +kernel, by decide +kernel, ?_⟩
          have e : PyData.eqv (.list []) (.list []) = true := by decide +kernel
          rw [e]
          exact q _ (s3.trans (s4.trans s5))
      | false =>
        refine iteF ?_
        have cS : ∀ H3 (Q : VK), Same H H3 → Q (.bl true) H3 → (tOp rEq (tCB (rIsi K) (tCons (tVar 0) (tCons (tC (V.ty "str")) tNil))) (tCB (rIsi K) (tCons (tVar 1) (tCons (tC (V.ty "str")) tNil)))) [some x, some y, none] H3 Q := fun H3 Q s q => by
          refine ⟨_, rfl, _, _, _, _, _, rfl, .ty _, Dp.ty (Dp.same s hx), kS d, _, rfl, _, _, _, _, _, rfl, .ty _, Dp.ty (Dp.same s hy), kS d, rfl, ?_⟩
          rw [decide_eq_true rfl]
          exact q
        have cB : ∀ H3 (Q : VK), Same H H3 → Q (.bl true) H3 → (tOp rEq (tCB (rIsi K) (tCons (tVar 0) (tCons (tC (V.ty "bool")) tNil))) (tCB (rIsi K) (tCons (tVar 1) (tCons (tC (V.ty "bool")) tNil)))) [some x, some y, none] H3 Q := fun H3 Q s q => by
          refine ⟨_, rfl, _, _, _, _, _, rfl, .ty _, Dp.ty (Dp.same s hx), kB d, _, rfl, _, _, _, _, _, rfl, .ty _, Dp.ty (Dp.same s hy), kB d, rfl, ?_⟩
          rw [decide_eq_true rfl]
          exact q
        have exy : x = y ∧ scal x y = true := by
          rcases flat hd0 with rfl | ⟨b, rfl⟩ | ⟨i, rfl⟩ | ⟨z, rfl⟩ <;> cases hx <;> cases hy <;> exact ⟨rfl, rfl⟩
        obtain ⟨rfl, hsc⟩ := exy
        -- due is None or isinstance(due, str)
        refine ⟨_, rfl, _, rfl, ?_⟩
        have fin : ∀ b : Bool, (b = true → isSD d = true ∨ x = .non) → (b = false → isID d = true) → (fun b H1 => if b = true then tRet (tAndV (tOp rEq (tVar 0) (tVar 1)) (tOp rEq (tCB (rIsi K) (tCons (tVar 0) (tCons (tC (V.ty "str")) tNil))) (tCB (rIsi K) (tCons (tVar 1) (tCons (tC (V.ty "str")) tNil)))))
            { nx := fun _ _ => False, rt := Q } [some x, some x, none] H1 else tRet (tAndV (tCB (rIsi K) (tCons (tVar 0) (tCons (tC (V.ty "int")) tNil))) (tAndV (tOp rEq (tCB (rIsi K) (tCons (tVar 0) (tCons (tC (V.ty "bool")) tNil))) (tCB (rIsi K) (tCons (tVar 1) (tCons (tC (V.ty "bool")) tNil)))) (tOp rEq (tVar 0) (tVar 1)))) { nx := fun _ _ => False, rt := Q } [some x, some x, none] H1) b (upd H p (.tup [.ty "tuple", .ty "list"])) := by
          intro b h1 h2
          cases b with
          | true =>
            refine iteT ?_
            refine ⟨_, rfl, _, rfl, hsc, _, rfl, iteDT rfl ?_⟩
            exact cS _ _ s1 (q _ s1)
          | false =>
            refine iteF ?_
            refine ⟨_, rfl, _, _, _, _, _, rfl, .ty _, Dp.ty x1, kI d, _, rfl, ?_⟩
            rw [h2 rfl]
            refine iteT (cB _ _ s1 ⟨_, rfl, iteT ⟨_, rfl, _, rfl, hsc, ?_⟩⟩)
            rw [decide_eq_true rfl]
            exact q _ s1
        by_cases c : x = .non
        · exact iteDT c (fin true (fun _ => .inr c) (fun z => nomatch z))
        · refine iteDF c ?_
          refine ⟨_, rfl, _, _, _, _, _, rfl, .ty _, Dp.ty y1, kS d, _, rfl, fin _ (fun z => .inl z) (fun z => ?_)⟩
          rcases flat hd0 with rfl | ⟨b, rfl⟩ | ⟨i, rfl⟩ | ⟨w, rfl⟩
          · cases hx
            exact absurd rfl c
          · rfl
          · rfl
          · cases z
  exact ⟨f, fd, key 5, gF, F.kp, bF⟩
end

abbrev s__law_length : Stmt := topS 33
theorem sc__law_length : FnScope ["_law_rests_here", "_law_number"] ["_law_rests_here", "_law_number"] (defScope s__law_length) := ⟨rfl, rfl, rfl, by decide +kernel, rfl, by decide +kernel, by decide +kernel⟩
def sp__law_length (K : PySem.W.Frag) : Sp := fun vs H Q _ => ∃ (D : Addr) (m n : Nat), vs = [.ref D, .int (n : Nat)] ∧ H D = some (.lst (restsV m)) ∧ 1 ≤ m ∧ m ≤ 64 ∧ Q (.int (lenN m n : Nat)) H
section
variable {P : Program} {w : World} {K : PySem.W.Frag} {mg : Str → Option Value} {base : Heap}
theorem ok__law_length (A : At K mg "_law_length" s__law_length ["_law_rests_here", "_law_number"]) (B : Bn mg) : CalE P w K mg base "_law_length" ["_law_rests_here", "_law_number"] 1 (sp__law_length K) := by
  obtain ⟨f, fd, F, gF, bF⟩ := A
  refine ⟨f, fd, F.ok sc__law_length (fun vs H Q E h => ?_) (fun cdv A outer s H vs Q E hr h => ?_), gF, F.kp, bF⟩
  · repeat (first | (obtain ⟨rfl, _⟩ := h; rfl) | (obtain ⟨_, h⟩ := h))
  · obtain ⟨D, m, n, rfl, eD, hm, h64, k⟩ := h
    have hsz := sizeLine_eq
    have h6 := wide_64 h64
    have lr : (restsV m).length = m := by unfold restsV; rw [List.length_map, List.length_range]
    have hm0 : (0 : Int) < (((restsV m).length : Nat) : Int) := by omega
    have hmb : ((((restsV m).length : Nat) : Int)).natAbs < 2 ^ 8 := by omega
    refine ⟨_, (pss_one (ps_ret (pe_op op_add (pe_op op_add (pe_op op_fdivW (pv 1) (pe_callB (call_len_seq_ K) (by rfl) B.len_ (by decide +kernel) (pa_cons (pv 0) pa_nil))) pe_int) (pe_callB call_len_str_ (by rfl) B.len_ (by decide +kernel) (pa_cons (pe_ix (ix_list_ K) (pv 0) (pe_op op_mod (pe_callTy call_int1 (by rfl) B.int_ (by decide +kernel) (pa_cons (pv 1) pa_nil)) (pe_callB (call_len_seq_ K) (by rfl) B.len_ (by decide +kernel) (pa_cons (pv 0) pa_nil))) (fun _ _ => rfl)) pa_nil))))), ?_⟩
    refine ⟨_, rfl, _, rfl, D, _, rfl, .inl (.inl (.inl eD)), _, _, rfl, rfl, wide_div hm0 hmb (by decide) (by decide), _, _, rfl, rfl, ?_⟩
    have hr : n % m < m := Nat.mod_lt _ (by omega)
    have at1 : (restsV m)[n % m]? = some (V.str (tx (restB m (n % m)))) := by unfold restsV; rw [List.getElem?_map, List.getElem?_range hr]; rfl
    have hat : atI (restsV m) ((n : Int) % (((restsV m).length : Nat) : Int)) = some (V.str (tx (restB m (n % m)))) := by
      rw [lr]
      exact atI_nat at1
    have tl : (tx (restB m (n % m))).length ≤ sizeLine := by
      rw [tx_len]
      have := rest_len_le m (n % m)
      omega
    refine ⟨_, rfl, _, rfl, .inl ⟨_, rfl, _, rfl, D, _, rfl, .inl (.inl (.inl eD)), _, _, rfl, rfl, hm0, D, _, _, _, rfl, rfl, .inl (.inl eD), hat, _, rfl, tl, _, _, rfl, rfl, ?_⟩⟩
    refine to_v (congrArg V.int ?_) k
    unfold lenN
    rw [lr, tx_len, ← Int.natCast_ediv]
    omega
end

abbrev s_shortest_step : Stmt := topS 26
theorem sc_shortest_step : FnScope ["numbers", "index", "number", "some", "step"] ["numbers"] (defScope s_shortest_step) := ⟨rfl, rfl, rfl, by decide +kernel, rfl, by decide +kernel, by decide +kernel⟩
def sp_shortest_step (K : PySem.W.Frag) : Sp := fun vs H Q _ => ∃ (a : Addr) (ns : List Nat), vs = [.ref a] ∧ SqT K H a (ns.map fun n => V.int (n : Nat)) ∧ ns.length ≤ 40 ∧ (∀ n ∈ ns, n ≤ 1000000) ∧
  ∀ (T : Addr) (s : Nat) (H' : Hp), 1 ≤ s → s ≤ 64 → (∀ t, 1 ≤ t → t ≤ 64 → sumsN ns s < sumsN ns t ∨ (sumsN ns s = sumsN ns t ∧ s ≤ t)) → Same H H' → H' T = some (.tup [.int (s : Nat), .int (sumsN ns s : Nat)]) → Q (.ref T) H'
section
variable {P : Program} {w : World} {K : PySem.W.Frag} {mg : Str → Option Value} {base : Heap}
theorem ok_shortest_step (A : At K mg "shortest_step" s_shortest_step ["numbers"]) (B : Bn mg) (H_is_integer : CalE P w K mg base "is_integer" ["thing", "low", "high"] 1 (sp_is_integer K)) (H_length_by : CalE P w K mg base "length_by" ["step", "number"] 3 (sp_length_by K)) (K_MOST_ROW : ∃ v, mg "MOST_ROW" = some v ∧ RelV (.int 40) v) (K_MOST_NUMBER : ∃ v, mg "MOST_NUMBER" = some v ∧ RelV (.int 1000000) v) (K_MOST_STEP : ∃ v, mg "MOST_STEP" = some v ∧ RelV (.int 64) v) : CalE P w K mg base "shortest_step" ["numbers"] 4 (sp_shortest_step K) := by
  obtain ⟨f, fd, F, gF, bF⟩ := A
  obtain ⟨f_is_integer, fd_is_integer, G_is_integer⟩ := H_is_integer
  obtain ⟨f_length_by, fd_length_by, G_length_by⟩ := H_length_by
  obtain ⟨v_MOST_ROW, C_MOST_ROW⟩ := K_MOST_ROW
  obtain ⟨v_MOST_NUMBER, C_MOST_NUMBER⟩ := K_MOST_NUMBER
  obtain ⟨v_MOST_STEP, C_MOST_STEP⟩ := K_MOST_STEP
  refine ⟨f, fd, F.ok sc_shortest_step (fun vs H Q E h => ?_) (fun cdv A outer s H vs Q E hr h => ?_), gF, F.kp, bF⟩
  · repeat (first | (obtain ⟨rfl, _⟩ := h; rfl) | (obtain ⟨_, h⟩ := h))
  · obtain ⟨a, ns, rfl, hS, hl, hn, k⟩ := h
    obtain ⟨_, rfl⟩ := C_MOST_ROW.2
    obtain ⟨_, rfl⟩ := C_MOST_NUMBER.2
    obtain ⟨_, rfl⟩ := C_MOST_STEP.2
    have hsz := sizeLine_eq
    have lm : (ns.map fun n => V.int (n : Nat)).length = ns.length := List.length_map _
    refine ⟨_, (pss_cons (ps_if (PW.pt (pw_or (pt_not (pt_val (pe_callB (call_isi_ K) (by rfl) B.isinstance_ (by decide +kernel) (pa_cons (pv 0) (pa_cons (pe_bltn (v := .ty "tuple") (by rfl) B.tuple_ (by decide +kernel) rfl) pa_nil))))) (pw_or1 (pt_cmpR op_gt (pe_callB (call_len_seq_ K) (by rfl) B.len_ (by decide +kernel) (pa_cons (pv 0) pa_nil)) (pe_glob (by rfl) C_MOST_ROW.1 C_MOST_ROW.2) (nomark _)))))
      (pss_one ps_never)
      pss_nil)
      (pss_cons (ps_for PassesOwn.never rfl (pi_enumT (by rfl) B.enumerate_ (pa_cons (pv 0) pa_nil)) (pg_tup (by rfl) (pgs_cons (pg_name (i := 1) sc_shortest_step.nd rfl (.inl rfl)) (pgs_cons (pg_name (i := 2) sc_shortest_step.nd rfl (.inl rfl)) pgs_nil)))
      (pss_one (ps_if (pt_not (pt_val (pe_call G_is_integer.ok (hr.mono (by first | decide | exact Nat.le_refl _)) (by rfl) G_is_integer.g G_is_integer.kp G_is_integer.b .nil pass0 (pa_cons (pv 2) (pa_cons pe_int (pa_cons (pe_glob (by rfl) C_MOST_NUMBER.1 C_MOST_NUMBER.2) pa_nil))))))
      (pss_one ps_never)
      pss_nil)))
      (pss_cons (ps_setLc (i := 3) (own := [("step", 4)]) (g := gName 4) (tt := tYes) rfl sc_shortest_step.nd rfl rfl (sw_true rfl rfl rfl (by decide +kernel)) (pi_range2 (by rfl) B.range_ (pa_cons pe_int (pa_cons (pe_op op_add (pe_glob (by rfl) C_MOST_STEP.1 C_MOST_STEP.2) pe_int) pa_nil))) (blkOk_by (own := [("step", 4)]) (N := ["numbers", "index", "number", "some", "step"]) (sc := defScope s_shortest_step) (by decide +kernel)) (fun _ _ _ _ _ => (pg_name (i := 4) sc_shortest_step.nd rfl (.inr rfl))) (fun _ _ _ _ _ => pts_nil) (fun _ _ _ _ _ => (pe_tup (pa_cons (pe_callB (cr_sum_ K rfl) (by rfl) B.sum_ (by decide +kernel) (pa_cons (pe_lc (own := [("number", 2)]) (g := gName 2) (tt := tYes) rfl sc_shortest_step.nd (pi_tup_ K (pv 0)) (blkOk_by (own := [("number", 2)]) (N := ["numbers", "index", "number", "some", "step"]) (sc := _) (by rfl)) (fun _ _ _ _ _ => (pg_name (i := 2) sc_shortest_step.nd rfl (.inl rfl))) (fun _ _ _ _ _ => pts_nil) (fun _ _ _ _ _ => (pe_call G_length_by.ok (hr.mono (by first | decide | exact Nat.le_refl _)) (by rfl) G_length_by.g G_length_by.kp G_length_by.b .nil pass0 (pa_cons (pv 4) (pa_cons (pv 2) pa_nil))))) pa_nil)) (pa_cons (pv 4) pa_nil)))))
      (pss_one (ps_ret (pe_tup (pa_cons (pe_ix (ix_tup_ K) (pe_callB (cr_minD_ K rfl hr.units) (by rfl) B.min_ (by decide +kernel) (pa_cons (pv 3) pa_nil)) pe_int (fun _ _ => rfl)) (pa_cons (pe_ix (ix_tup_ K) (pe_callB (cr_minD_ K rfl hr.units) (by rfl) B.min_ (by decide +kernel) (pa_cons (pv 3) pa_nil)) pe_int (fun _ _ => rfl)) pa_nil)))))))), ?_⟩
    refine ⟨_, rfl, _, _, _, _, true, rfl, .ty _, tyT hS, kit_ty (by decide +kernel), _, rfl, iteF ?_⟩
    refine ⟨_, rfl, a, _, rfl, .inr hS, _, _, rfl, rfl, _, rfl, iteDF (by rw [lm]; omega) ?_⟩
    refine ⟨_, rfl, a, _, rfl, hS, for_enumT (K := K) (a := a) (xs := ns.map fun n => V.int (n : Nat)) (fun i σ H2 => ∃ v1 v2, σ = [some (.ref a), v1, v2, none, none] ∧ Same H H2) ⟨_, _, rfl, Same.refl _⟩ (fun i σ H2 _ ⟨_, _, _, s⟩ => Same.seqT s hS) ?_ ?_⟩
    · rintro i x σ H2 T hx ⟨v1, v2, rfl, s2⟩ nT
      obtain ⟨z, hz, rfl⟩ : ∃ z, ns[i]? = some z ∧ x = V.int (z : Nat) := by
        rw [List.getElem?_map] at hx
        cases e : ns[i]? with
        | none => rw [e] at hx; cases hx
        | some z => rw [e] at hx; exact ⟨z, rfl, (Option.some.inj hx).symm⟩
      have hzb := hn z (List.mem_of_getElem? hz)
      refine ⟨T, _, rfl, .inl (.inl upd_same), rfl, _, _, rfl, _, _, rfl, rfl, ?_⟩
      refine ⟨_, rfl, _, _, _, rfl, .int _, ?_⟩
      rw [isI_yes (by omega) (by omega)]
      exact ⟨_, rfl, iteF ⟨_, _, rfl, s2.trans (same_new nT _)⟩⟩
    · rintro σ H2 ⟨v1, v2, rfl, s2⟩
      refine ⟨_, _, rfl, rfl, _, _, rfl, ⟨by decide, by decide, by decide, by decide⟩, fun D nD => ?_⟩
      refine lc_range (lo := 1) (n := 64) (fun j H3 => ∃ ts : List Addr, ts.length = j ∧ Same H2 H3 ∧ H3 D = some (.lst (ts.map V.ref)) ∧ ∀ (i : Nat) (t : Addr), ts[i]? = some t → H3 t = some (.tup [.int (sumsN ns (i + 1) : Nat), .int ((i + 1 : Nat) : Int)])) ⟨[], rfl, same_new nD _, upd_same, fun i t h => by cases h⟩ ?_ ?_
      · rintro j H3 hj ⟨ts, hts, s3, eD, he⟩
        refine ⟨rfl, _, rfl, a, rfl, ⟨_, Same.seqT (s2.trans s3) hS⟩, fun L nL => ?_⟩
        refine lc_tup (K := K) (a := a) (xs := ns.map fun n => V.int (n : Nat)) (fun i H4 => Same H3 H4 ∧ H4 L = some (.lst (((ns.take i).map fun n => ((lenN (j + 1) n : Nat) : Int)).map V.int))) ⟨same_new nL _, upd_same⟩ (fun i H4 _ h4 => Same.seqT ((s2.trans s3).trans h4.1) hS) ?_ ?_
        · rintro i x H4 hx ⟨s4, eL⟩
          obtain ⟨z, hz, rfl⟩ : ∃ z, ns[i]? = some z ∧ x = V.int (z : Nat) := by
            rw [List.getElem?_map] at hx
            cases e : ns[i]? with
            | none => rw [e] at hx; cases hx
            | some z => rw [e] at hx; exact ⟨z, rfl, (Option.some.inj hx).symm⟩
          have hi : i < ns.length := (List.getElem?_eq_some_iff.mp hz).1
          refine ⟨rfl, _, rfl, _, rfl, j + 1, z, ?_, by omega, by omega, ?_⟩
          · show [V.int (1 + (j : Int)), V.int (z : Int)] = _
            rw [show (1 + (j : Int)) = ((j + 1 : Nat) : Int) by omega]
          refine ⟨_, eL, by rw [List.length_map, List.length_map, List.length_take]; omega, fun b o ho => ?_, ?_⟩
          · rw [upd_ne (ne_of_none ho nL)]
            exact s4 b o ho
          · rw [upd_same, take_more hz, List.map_append, List.map_append]
            rfl
        rintro H4 ⟨s4, eL⟩
        rw [lm, List.take_length] at eL
        refine ⟨L, _, rfl, .inl (.inl eL), _, rfl, (by show 2 ≤ sizeLine; omega), fun U nU => ?_⟩
        have esum : (ns.map fun n => ((lenN (j + 1) n : Nat) : Int)).sum = ((sumsN ns (j + 1) : Nat) : Int) := sum_natI (lenN (j + 1)) ns
        rw [esum, show (1 + (j : Int)) = ((j + 1 : Nat) : Int) by omega]
        have s5 := s4.trans (same_new nU (.tup [.int (sumsN ns (j + 1) : Nat), .int ((j + 1 : Nat) : Int)]))
        have eU : (upd H4 U (.tup [.int (sumsN ns (j + 1) : Nat), .int ((j + 1 : Nat) : Int)])) U = some (.tup [.int (sumsN ns (j + 1) : Nat), .int ((j + 1 : Nat) : Int)]) := upd_same
        generalize upd H4 U (.tup [.int (sumsN ns (j + 1) : Nat), .int ((j + 1 : Nat) : Int)]) = H5 at *
        have eD5 := s5 _ _ eD
        have keep : ∀ {t : Addr} {l : List V}, H5 t = some (.tup l) → (upd H5 D (.lst (ts.map V.ref ++ [V.ref U]))) t = some (.tup l) := fun h => by
          rw [upd_ne (fun y => by rw [y, eD5] at h; cases h)]
          exact h
        refine ⟨_, eD5, by rw [List.length_map]; omega, ts ++ [U], by rw [List.length_append, hts]; rfl, fun b o ho => ?_, ?_, fun i t ht => ?_⟩
        · rw [upd_ne (ne_of_none ho nD)]
          exact s5 _ _ (s3 _ _ ho)
        · rw [upd_same, List.map_append]
          rfl
        · by_cases hi : i < ts.length
          · rw [List.getElem?_append_left hi] at ht
            exact keep (s5 _ _ (he i t ht))
          · have hi2 := (List.getElem?_eq_some_iff.mp ht).1
            rw [List.length_append, List.length_singleton] at hi2
            have : i = ts.length := by omega
            subst this
            rw [List.getElem?_append_right (Nat.le_refl _), Nat.sub_self] at ht
            cases Option.some.inj ht
            rw [hts]
            exact keep eU
      rintro H3 ⟨ts, hts, s3, eD, he⟩
      obtain ⟨ps, hps⟩ : ∃ ps : List (Int × Int), ps = (List.range 64).map fun i => (((sumsN ns (i + 1) : Nat) : Int), ((i + 1 : Nat) : Int)) := ⟨_, rfl⟩
      have hpl : ps.length = 64 := by rw [hps, List.length_map, List.length_range]
      have hpg : ∀ i, i < 64 → ps[i]? = some (((sumsN ns (i + 1) : Nat) : Int), ((i + 1 : Nat) : Int)) := fun i hi => by
        rw [hps, List.getElem?_map, List.getElem?_range hi]
        rfl
      have hdp : ∀ {H4 : Hp}, Same H3 H4 → DpAll K H4 (ts.map V.ref) (ps.map encP) := fun {H4} s => DpAll.of (by rw [List.length_map, List.length_map, hts, hpl]) fun i x d hx hd => by
        rw [List.getElem?_map] at hx hd
        cases e : ts[i]? with
        | none => rw [e] at hx; cases hx
        | some t =>
          rw [e] at hx
          cases Option.some.inj hx
          have hi : i < 64 := hts ▸ (List.getElem?_eq_some_iff.mp e).1
          rw [hpg i hi] at hd
          cases Option.some.inj hd
          exact .tup (.inl (.inl (s _ _ (he i t e)))) (.cons (.int _) (.cons (.int _) .nil))
      cases hpe : ps with
      | nil => rw [hpe] at hpl; cases hpl
      | cons p0 pr =>
        obtain ⟨m, hm1, hm2, hm3⟩ := minD_ii p0 pr
        have hal := alikeAll_encP (p0 :: pr)
        have hde := depth_encP (p0 :: pr)
        rw [hpe] at hdp hpg
        have pick : ∀ {i : Nat} {x : V}, (ts.map V.ref)[i]? = some x → (encP p0 :: pr.map encP)[i]? = some (PySem.W.minD (encP p0) (pr.map encP)) → ∃ t, x = .ref t ∧ i < 64 ∧ m = (((sumsN ns (i + 1) : Nat) : Int), ((i + 1 : Nat) : Int)) ∧ H3 t = some (.tup [.int (sumsN ns (i + 1) : Nat), .int ((i + 1 : Nat) : Int)]) := fun {i x} hx hd => by
          rw [List.getElem?_map] at hx
          cases e : ts[i]? with
          | none => rw [e] at hx; cases hx
          | some t =>
            rw [e] at hx
            have hi : i < 64 := hts ▸ (List.getElem?_eq_some_iff.mp e).1
            rw [hm2, show (encP p0 :: pr.map encP) = (p0 :: pr).map encP from rfl, List.getElem?_map, hpg i hi] at hd
            exact ⟨t, (Option.some.inj hx).symm, hi, (encP_inj (Option.some.inj hd)).symm, he i t e⟩
        refine ⟨_, rfl, D, _, encP p0, pr.map encP, rfl, .inl (.inl eD), hdp (Same.refl _), hal, Nat.le_trans hde (by decide), fun i x hx hd => ?_⟩
        obtain ⟨t, rfl, hi, em, et⟩ := pick hx hd
        refine ⟨t, _, _, _, rfl, rfl, .inl (.inl et), rfl, ?_⟩
        refine ⟨_, rfl, D, _, encP p0, pr.map encP, rfl, .inl (.inl eD), hdp (Same.refl _), hal, Nat.le_trans hde (by decide), fun i' x hx hd => ?_⟩
        obtain ⟨t', rfl, hi', em', et'⟩ := pick hx hd
        refine ⟨t', _, _, _, rfl, rfl, .inl (.inl et'), rfl, (by show 2 ≤ sizeLine; omega), fun T nT => ?_⟩
        have ei : i' = i := by
          have := congrArg Prod.snd (em.symm.trans em')
          dsimp only at this
          omega
        subst ei
        refine k T (i' + 1) _ (by omega) (by omega) (fun u u1 u64 => ?_) (s2.trans (s3.trans (same_new nT _))) upd_same
        have hu : (p0 :: pr)[u - 1]? = _ := hpg (u - 1) (by omega)
        rw [show u - 1 + 1 = u by omega] at hu
        have := hm3 _ (List.mem_of_getElem? hu)
        rw [em] at this
        unfold lexI at this
        dsimp only at this
        omega
end

abbrev s_check_number : Stmt := topS 19
theorem sc_check_number : FnScope ["step", "thing"] ["step", "thing"] (defScope s_check_number) := ⟨rfl, rfl, rfl, by decide +kernel, rfl, by decide +kernel, by decide +kernel⟩
def sp_check_number (K : PySem.W.Frag) : Sp := fun vs H Q _ => ∃ m n : Nat, vs = [.int (m : Nat), .int (n : Nat)] ∧ 1 ≤ m ∧ m ≤ 64 ∧ n ≤ 1000000 ∧ n / m ≤ 1000 ∧ Q .non H
section
variable {P : Program} {w : World} {K : PySem.W.Frag} {mg : Str → Option Value} {base : Heap}
theorem ok_check_number (A : At K mg "check_number" s_check_number ["step", "thing"]) (B : Bn mg) (H_is_integer : CalE P w K mg base "is_integer" ["thing", "low", "high"] 1 (sp_is_integer K)) (K_MOST_NUMBER : ∃ v, mg "MOST_NUMBER" = some v ∧ RelV (.int 1000000) v) (K_MOST_ONES : ∃ v, mg "MOST_ONES" = some v ∧ RelV (.int 1000) v) : CalE P w K mg base "check_number" ["step", "thing"] 2 (sp_check_number K) := by
  obtain ⟨f, fd, F, gF, bF⟩ := A
  obtain ⟨f_is_integer, fd_is_integer, G_is_integer⟩ := H_is_integer
  obtain ⟨v_MOST_NUMBER, C_MOST_NUMBER⟩ := K_MOST_NUMBER
  obtain ⟨v_MOST_ONES, C_MOST_ONES⟩ := K_MOST_ONES
  refine ⟨f, fd, F.ok sc_check_number (fun vs H Q E h => ?_) (fun cdv A outer s H vs Q E hr h => ?_), gF, F.kp, bF⟩
  · repeat (first | (obtain ⟨rfl, _⟩ := h; rfl) | (obtain ⟨_, h⟩ := h))
  · obtain ⟨m, n, rfl, hm, h64, hn, hd, k⟩ := h
    have hm0 : (0 : Int) < (m : Int) := by omega
    have hmb : ((m : Int)).natAbs < 2 ^ 7 := by omega
    have ed : (n : Int) / (m : Int) = ((n / m : Nat) : Int) := (Int.natCast_ediv n m).symm
    obtain ⟨_, rfl⟩ := C_MOST_NUMBER.2
    obtain ⟨_, rfl⟩ := C_MOST_ONES.2
    refine ⟨_, (pss_cons (ps_if (pt_not (pt_val (pe_call G_is_integer.ok (hr.mono (by first | decide | exact Nat.le_refl _)) (by rfl) G_is_integer.g G_is_integer.kp G_is_integer.b .nil pass0 (pa_cons (pv 1) (pa_cons pe_int (pa_cons (pe_glob (by rfl) C_MOST_NUMBER.1 C_MOST_NUMBER.2) pa_nil))))))
      (pss_one ps_never)
      pss_nil)
      (pss_one (ps_if (pt_cmpR op_gt (pe_op op_fdivW (pv 1) (pv 0)) (pe_glob (by rfl) C_MOST_ONES.1 C_MOST_ONES.2) (nomark _))
      (pss_one ps_never)
      pss_nil))), ?_⟩
    refine ⟨_, rfl, _, _, _, rfl, .int _, ?_⟩
    rw [isI_yes (by omega) (by omega)]
    refine ⟨_, rfl, iteF ?_⟩
    refine ⟨_, rfl, _, rfl, _, _, rfl, rfl, wide_div hm0 hmb (by decide) (by decide), _, _, rfl, rfl, _, rfl, iteDF ?_ k⟩
    rw [ed]
    omega
end

abbrev s_figures : Stmt := topS 16
theorem sc_figures : FnScope ["number", "many", "found", "place"] ["number", "many"] (defScope s_figures) := ⟨rfl, rfl, rfl, by decide +kernel, rfl, by decide +kernel, by decide +kernel⟩
def sp_figures (K : PySem.W.Frag) : Sp := fun vs H Q _ => ∃ n c : Nat, vs = [.int (n : Nat), .int (c : Nat)] ∧ c ≤ 1000 ∧ Q (.str (tx (fig n c))) H
section
variable {P : Program} {w : World} {K : PySem.W.Frag} {mg : Str → Option Value} {base : Heap}
theorem ok_figures (A : At K mg "figures" s_figures ["number", "many"]) (B : Bn mg) : CalE P w K mg base "figures" ["number", "many"] 1 (sp_figures K) := by
  obtain ⟨f, fd, F, gF, bF⟩ := A
  refine ⟨f, fd, F.ok sc_figures (fun vs H Q E h => ?_) (fun cdv A outer s H vs Q E hr h => ?_), gF, F.kp, bF⟩
  · repeat (first | (obtain ⟨rfl, _⟩ := h; rfl) | (obtain ⟨_, h⟩ := h))
  · obtain ⟨n, c, rfl, hc, k⟩ := h
    have hsz := sizeLine_eq
    refine ⟨_, (pss_cons (ps_set (i := 2) sc_figures.nd rfl (.inl rfl) pe_str)
      (pss_cons (ps_for PassesOwn.never rfl (pi_range3 (by rfl) B.range_ (pa_cons (pe_op op_sub (pv 1) pe_int) (pa_cons (pe_un un_neg pe_int) (pa_cons (pe_un un_neg pe_int) pa_nil)))) (pg_name (i := 3) sc_figures.nd rfl (.inl rfl))
      (pss_one (ps_aug (i := 2) sc_figures.nd rfl (.inl rfl) (pe_ifExp (pt_cmpR op_eq (pe_op op_mod (pe_op op_shr (pv 0) (pv 3)) pe_int) pe_int (nomark _)) pe_str pe_str) ip_add_str)))
      (pss_one (ps_ret (pv 2))))), ?_⟩
    refine ⟨_, rfl, _, _, rfl, rfl, _, rfl, _, rfl, (c : Int) - 1, -1, -1, c, rfl, ?_, ?_⟩
    · have := RgC.neg (i := (c : Int) - 1) (j := -1) (by omega) (by omega) (by omega) (by omega)
      rw [show ((c : Int) - 1 - -1).toNat = c by omega] at this
      exact this
    refine for_rangeC (lo := (c : Int) - 1) (c := -1) (n := c) (fun i σ H2 => ∃ v, σ = [some (.int (n : Nat)), some (.int (c : Nat)), some (.str (tx ((fig n c).take i))), v] ∧ H2 = H) ⟨_, by rw [tx_nil]; rfl, rfl⟩ ?_ ?_
    · rintro i σ H2 hi ⟨v, rfl, rfl⟩
      have ft := fig_take n c i hi
      have ei : (c : Int) - 1 + (i : Int) * -1 = ((c - 1 - i : Nat) : Int) := by omega
      have ll : ((fig n c).take i).length ≤ c := by rw [List.length_take, fig_len]; omega
      refine ⟨_, rfl, _, rfl, _, rfl, _, _, rfl, rfl, by omega, _, _, rfl, rfl, (by decide : (0 : Int) < 2), rfl, _, rfl, ?_⟩
      have bi : ((n : Int) / 2 ^ ((c : Int) - 1 + (i : Int) * -1).toNat % 2 = 1) ↔ (n / 2 ^ (c - 1 - i) % 2 == 1) = true := by
        rw [ei, Int.toNat_natCast]
        have := bit_int n (c - 1 - i)
        rw [Int.natCast_pow] at this
        exact this
      have go : ∀ b : Bool, b = (n / 2 ^ (c - 1 - i) % 2 == 1) → tx ((fig n c).take i) ++ tx [b] = tx ((fig n c).take (i + 1)) := by
        rintro b rfl
        rw [tx_app, ft]
      refine ite2 (fun z => ?_) (fun z => ?_)
      · have z' := bi.mp (V.int.inj (of_decide_eq_true z))
        refine ⟨_, _, rfl, rfl, by rw [tx_one, tx_len, tx_len]; show _ + 1 ≤ sizeLine; omega, some (.int ((c : Int) - 1 + (i : Int) * -1)), ?_, rfl⟩
        show [some (V.int (n : Int)), some (V.int (c : Int)), some (V.str (tx ((fig n c).take i) ++ ("1" : Str))), some (.int ((c : Int) - 1 + (i : Int) * -1))] = _
        rw [tx_one, go true z'.symm]
      · have z' : (n / 2 ^ (c - 1 - i) % 2 == 1) = false := Bool.eq_false_iff.mpr fun y => z (decide_eq_true (congrArg V.int (bi.mpr y)))
        refine ⟨_, _, rfl, rfl, by rw [tx_zero, tx_len, tx_len]; show _ + 1 ≤ sizeLine; omega, some (.int ((c : Int) - 1 + (i : Int) * -1)), ?_, rfl⟩
        show [some (V.int (n : Int)), some (V.int (c : Int)), some (V.str (tx ((fig n c).take i) ++ ("0" : Str))), some (.int ((c : Int) - 1 + (i : Int) * -1))] = _
        rw [tx_zero, go false z'.symm]
    · rintro σ H2 ⟨v, rfl, rfl⟩
      refine ⟨_, rfl, ?_⟩
      rw [List.take_of_length_le (by rw [fig_len]; exact Nat.le_refl _)]
      exact k
end

abbrev s_rest_word : Stmt := topS 17
theorem sc_rest_word : FnScope ["step", "rest", "many", "short"] ["step", "rest"] (defScope s_rest_word) := ⟨rfl, rfl, rfl, by decide +kernel, rfl, by decide +kernel, by decide +kernel⟩
def sp_rest_word (K : PySem.W.Frag) : Sp := fun vs H Q _ => ∃ m r : Nat, vs = [.int (m : Nat), .int (r : Nat)] ∧ 1 ≤ m ∧ m ≤ 64 ∧ Q (.str (tx (restB m r))) H
section
variable {P : Program} {w : World} {K : PySem.W.Frag} {mg : Str → Option Value} {base : Heap}
theorem ok_rest_word (A : At K mg "rest_word" s_rest_word ["step", "rest"]) (B : Bn mg) (H_wide : CalE P w K mg base "wide" ["step"] 2 (sp_wide K)) (H_power_of_two : CalE P w K mg base "power_of_two" ["times"] 1 (sp_power_of_two K)) (H_figures : CalE P w K mg base "figures" ["number", "many"] 1 (sp_figures K)) : CalE P w K mg base "rest_word" ["step", "rest"] 3 (sp_rest_word K) := by
  obtain ⟨f, fd, F, gF, bF⟩ := A
  obtain ⟨f_wide, fd_wide, G_wide⟩ := H_wide
  obtain ⟨f_power_of_two, fd_power_of_two, G_power_of_two⟩ := H_power_of_two
  obtain ⟨f_figures, fd_figures, G_figures⟩ := H_figures
  refine ⟨f, fd, F.ok sc_rest_word (fun vs H Q E h => ?_) (fun cdv A outer s H vs Q E hr h => ?_), gF, F.kp, bF⟩
  · repeat (first | (obtain ⟨rfl, _⟩ := h; rfl) | (obtain ⟨_, h⟩ := h))
  · obtain ⟨m, r, rfl, hm, h64, k⟩ := h
    have h6 := wide_64 h64
    have es : ((2 ^ wideN m : Nat) : Int) - (m : Int) = ((shortN m : Nat) : Int) := by
      unfold shortN
      have := wide_le m
      omega
    refine ⟨_, (pss_cons (ps_set (i := 2) sc_rest_word.nd rfl (.inl rfl) (pe_call G_wide.ok (hr.mono (by first | decide | exact Nat.le_refl _)) (by rfl) G_wide.g G_wide.kp G_wide.b .nil pass0 (pa_cons (pv 0) pa_nil)))
      (pss_cons (ps_set (i := 3) sc_rest_word.nd rfl (.inl rfl) (pe_op op_sub (pe_call G_power_of_two.ok (hr.mono (by first | decide | exact Nat.le_refl _)) (by rfl) G_power_of_two.g G_power_of_two.kp G_power_of_two.b .nil pass0 (pa_cons (pv 2) pa_nil)) (pv 0)))
      (pss_one (ps_ret (pe_ifExp (pt_cmpR op_lt (pv 1) (pv 3) (nomark _)) (pe_call G_figures.ok (hr.mono (by first | decide | exact Nat.le_refl _)) (by rfl) G_figures.g G_figures.kp G_figures.b .nil pass0 (pa_cons (pv 1) (pa_cons (pe_op op_sub (pv 2) pe_int) pa_nil))) (pe_call G_figures.ok (hr.mono (by first | decide | exact Nat.le_refl _)) (by rfl) G_figures.g G_figures.kp G_figures.b .nil pass0 (pa_cons (pe_op op_add (pv 1) (pv 3)) (pa_cons (pv 2) pa_nil)))))))), ?_⟩
    refine ⟨_, rfl, m, rfl, h64, ?_⟩
    refine ⟨_, rfl, wideN m, rfl, by omega, _, rfl, _, _, rfl, rfl, ?_⟩
    unfold restB at k
    refine ⟨_, rfl, _, rfl, _, _, rfl, rfl, _, rfl, ite2 (fun c => ?_) (fun c => ?_)⟩
    · have c' : r < shortN m := by
        have := of_decide_eq_true c
        rw [es] at this
        omega
      have w1 : 1 ≤ wideN m := by
        refine Nat.not_lt.mp fun z => ?_
        have e := short_zero (show wideN m = 0 by omega) hm
        subst e
        have : shortN 1 = 0 := by decide
        omega
      rw [if_pos c'] at k
      refine ⟨_, rfl, _, rfl, _, _, rfl, rfl, r, wideN m - 1, ?_, by omega, k⟩
      show [V.int (r : Int), V.int (((wideN m : Nat) : Int) - 1)] = _
      rw [show (((wideN m : Nat) : Int) - 1) = ((wideN m - 1 : Nat) : Int) by omega]
    · have c' : ¬ r < shortN m := fun z => c (decide_eq_true (by show (r : Int) < _ ; rw [es]; omega))
      rw [if_neg c'] at k
      refine ⟨_, rfl, _, rfl, _, _, rfl, rfl, _, rfl, r + shortN m, wideN m, ?_, by omega, k⟩
      show [V.int ((r : Int) + (((2 ^ wideN m : Nat) : Int) - (m : Int))), V.int ((wideN m : Nat) : Int)] = _
      rw [es, ← Int.natCast_add]
end

abbrev s_written : Stmt := topS 18
theorem sc_written : FnScope ["step", "number"] ["step", "number"] (defScope s_written) := ⟨rfl, rfl, rfl, by decide +kernel, rfl, by decide +kernel, by decide +kernel⟩
def sp_written (K : PySem.W.Frag) : Sp := fun vs H Q _ => ∃ m n : Nat, vs = [.int (m : Nat), .int (n : Nat)] ∧ 1 ≤ m ∧ m ≤ 64 ∧ n / m ≤ 900000 ∧ Q (.str (tx (wordB m n))) H
section
variable {P : Program} {w : World} {K : PySem.W.Frag} {mg : Str → Option Value} {base : Heap}
theorem ok_written (A : At K mg "written" s_written ["step", "number"]) (B : Bn mg) (H_rest_word : CalE P w K mg base "rest_word" ["step", "rest"] 3 (sp_rest_word K)) : CalE P w K mg base "written" ["step", "number"] 4 (sp_written K) := by
  obtain ⟨f, fd, F, gF, bF⟩ := A
  obtain ⟨f_rest_word, fd_rest_word, G_rest_word⟩ := H_rest_word
  refine ⟨f, fd, F.ok sc_written (fun vs H Q E h => ?_) (fun cdv A outer s H vs Q E hr h => ?_), gF, F.kp, bF⟩
  · repeat (first | (obtain ⟨rfl, _⟩ := h; rfl) | (obtain ⟨_, h⟩ := h))
  · obtain ⟨m, n, rfl, hm, h64, hn, k⟩ := h
    have hm0 : (0 : Int) < (m : Int) := by omega
    have hmb : ((m : Int)).natAbs < 2 ^ 7 := by omega
    have ed : (n : Int) / (m : Int) = ((n / m : Nat) : Int) := (Int.natCast_ediv n m).symm
    have em : (n : Int) % (m : Int) = ((n % m : Nat) : Int) := (Int.natCast_emod n m).symm
    have ht : ((n : Int) / (m : Int)).toNat = n / m := by rw [ed, Int.toNat_natCast]
    have e1 : repS ("1" : Str) ((n : Int) / (m : Int)).toNat ++ ("0" : Str) = tx (List.replicate (n / m) true ++ [false]) := by rw [ht, tx_one, tx_zero, tx_rep, tx_app]
    have l1 : ("1" : Str).length = 1 := by decide +kernel
    have hsz := sizeLine_eq
    refine ⟨_, (pss_one (ps_ret (pe_op op_add_str (pe_op op_add_str (pe_op op_mul_str pe_str (pe_op op_fdivW (pv 1) (pv 0))) pe_str) (pe_call G_rest_word.ok (hr.mono (by first | decide | exact Nat.le_refl _)) (by rfl) G_rest_word.g G_rest_word.kp G_rest_word.b .nil pass0 (pa_cons (pv 0) (pa_cons (pe_op op_mod (pv 1) (pv 0)) pa_nil)))))), ?_⟩
    refine ⟨_, rfl, _, rfl, _, _, rfl, rfl, wide_div hm0 hmb (by decide) (by decide), _, _, rfl, rfl, by omega, by omega, by rw [l1, ht]; omega, _, _, rfl, rfl, ?_, ?_⟩
    · rw [ht, tx_one, tx_rep, tx_zero, tx_len, tx_len, List.length_replicate]
      show n / m + 1 ≤ sizeLine
      omega
    rw [e1]
    refine ⟨_, rfl, _, rfl, _, rfl, _, _, rfl, rfl, hm0, m, n % m, ?_, hm, h64, ?_⟩
    · show [V.int (m : Int), V.int ((n : Int) % (m : Int))] = _
      rw [em]
    refine ⟨_, _, rfl, rfl, ?_, ?_⟩
    · rw [tx_len, tx_len, List.length_append, List.length_replicate, List.length_singleton]
      have := rest_len_le m (n % m)
      have := wide_64 h64
      omega
    · rw [tx_app, List.append_assoc]
      exact k
end

abbrev s_word : Stmt := topS 20
theorem sc_word : FnScope ["step", "number"] ["step", "number"] (defScope s_word) := ⟨rfl, rfl, rfl, by decide +kernel, rfl, by decide +kernel, by decide +kernel⟩
def sp_word (K : PySem.W.Frag) : Sp := fun vs H Q _ => ∃ m n : Nat, vs = [.int (m : Nat), .int (n : Nat)] ∧ 1 ≤ m ∧ m ≤ 64 ∧ n ≤ 1000000 ∧ n / m ≤ 1000 ∧ Q (.str (tx (wordB m n))) H
section
variable {P : Program} {w : World} {K : PySem.W.Frag} {mg : Str → Option Value} {base : Heap}
theorem ok_word (A : At K mg "word" s_word ["step", "number"]) (B : Bn mg) (H_check_step : CalE P w K mg base "check_step" ["thing"] 2 (sp_check_step K)) (H_check_number : CalE P w K mg base "check_number" ["step", "thing"] 2 (sp_check_number K)) (H_written : CalE P w K mg base "written" ["step", "number"] 4 (sp_written K)) : CalE P w K mg base "word" ["step", "number"] 5 (sp_word K) := by
  obtain ⟨f, fd, F, gF, bF⟩ := A
  obtain ⟨f_check_step, fd_check_step, G_check_step⟩ := H_check_step
  obtain ⟨f_check_number, fd_check_number, G_check_number⟩ := H_check_number
  obtain ⟨f_written, fd_written, G_written⟩ := H_written
  refine ⟨f, fd, F.ok sc_word (fun vs H Q E h => ?_) (fun cdv A outer s H vs Q E hr h => ?_), gF, F.kp, bF⟩
  · repeat (first | (obtain ⟨rfl, _⟩ := h; rfl) | (obtain ⟨_, h⟩ := h))
  · obtain ⟨m, n, rfl, hm, h64, hn, hd, k⟩ := h
    refine ⟨_, (pss_cons (ps_expr (pe_call G_check_step.ok (hr.mono (by first | decide | exact Nat.le_refl _)) (by rfl) G_check_step.g G_check_step.kp G_check_step.b .nil pass0 (pa_cons (pv 0) pa_nil)))
      (pss_cons (ps_expr (pe_call G_check_number.ok (hr.mono (by first | decide | exact Nat.le_refl _)) (by rfl) G_check_number.g G_check_number.kp G_check_number.b .nil pass0 (pa_cons (pv 0) (pa_cons (pv 1) pa_nil))))
      (pss_one (ps_ret (pe_call G_written.ok (hr.mono (by first | decide | exact Nat.le_refl _)) (by rfl) G_written.g G_written.kp G_written.b .nil pass0 (pa_cons (pv 0) (pa_cons (pv 1) pa_nil))))))), ?_⟩
    exact ⟨_, rfl, m, rfl, hm, h64, _, rfl, _, rfl, m, n, rfl, hm, h64, hn, hd, _, rfl, _, rfl, m, n, rfl, hm, h64, by omega, k⟩
end

abbrev s_law : Stmt := topS 34
theorem sc_law : FnScope ["_law_script", "_law_h", "_law_turn", "_law_one", "_law_other", "_law_mine", "_law_yours", "_law_gaps", "_law_less", "_law_first", "_law_later", "_law_number", "_law_cap", "_law_numbers", "_law_sums", "_law_step", "_law_rests_here", "_law_k"] ["_law_script"] (defScope s_law) := ⟨rfl, rfl, rfl, by decide +kernel, rfl, by decide +kernel, by decide +kernel⟩
def sp_law (K : PySem.W.Frag) : Sp := fun vs H Q _ => ∃ (a : Addr) (ns : List Int), vs = [.ref a] ∧ SqL K H a (ns.map V.int) ∧ ns.length ≤ 63 ∧ ∀ H', Q (.bl true) H'
def gapsL (a b : Nat) : List V := (List.range 3000).map fun n => V.int (((lenN a n : Nat) : Int) - ((lenN b n : Nat) : Int))
def lessN (a b j : Nat) : List Nat := (List.range j).filter fun n => decide (lenN a n < lenN b n)
theorem less_succ (a b j : Nat) : lessN a b (j + 1) = lessN a b j ++ (if lenN a j < lenN b j then [j] else []) := by
  unfold lessN
  rw [List.range_succ, List.filter_append]
  congr 1
  by_cases c : lenN a j < lenN b j
  · rw [if_pos c]
    simp [c]
  · rw [if_neg c]
    simp [c]
theorem less_len (a b j : Nat) : (lessN a b j).length ≤ j := by
  unfold lessN
  have := List.length_filter_le (fun n => decide (lenN a n < lenN b n)) (List.range j)
  rw [List.length_range] at this
  exact this
theorem less_none {a b : Nat} : ∀ j, (∀ n, n < j → ¬ lenN a n < lenN b n) → lessN a b j = []
  | 0, _ => rfl
  | j + 1, h => by rw [less_succ, less_none j fun n hn => h n (by omega), if_neg (h j (by omega))]; rfl
theorem less_first {a b n : Nat} (h : lenN a n < lenN b n) (hn : ∀ k, k < n → ¬ lenN a k < lenN b k) : ∀ d, ∃ r, lessN a b (n + 1 + d) = n :: r
  | 0 => ⟨[], by rw [less_succ, less_none n hn, if_pos h]; rfl⟩
  | d + 1 => by
    obtain ⟨r, hr⟩ := less_first h hn d
    exact ⟨r ++ (if lenN a (n + 1 + d) < lenN b (n + 1 + d) then [n + 1 + d] else []), by rw [← Nat.add_assoc, less_succ, hr]; rfl⟩
theorem dp_ints {K : PySem.W.Frag} {H : Hp} : ∀ (ws : List Int), DpAll K H (ws.map V.int) (ws.map PyData.int)
  | [] => .nil
  | w :: ws => .cons (.int w) (dp_ints ws)
theorem dp_nats {K : PySem.W.Frag} {H : Hp} (ws : List Nat) : DpAll K H (ws.map fun n => V.int (n : Nat)) (ws.map fun n => PyData.int (n : Nat)) := by
  have := dp_ints (K := K) (H := H) (ws.map fun n => ((n : Nat) : Int))
  rw [List.map_map, List.map_map] at this
  exact this
theorem sh_nats (ws : List Nat) : SeqAt.shaped (.list (ws.map fun n => PyData.int (n : Nat))) = true := ok_shaped (n := 1) (fun d hd => by
  obtain ⟨x, _, rfl⟩ := List.mem_map.mp hd
  trivial) (by decide)
theorem sh_natsT (ws : List Nat) : SeqAt.shaped (.tuple (ws.map fun n => PyData.int (n : Nat))) = true := ok_shaped (n := 1) (fun d hd => by
  obtain ⟨x, _, rfl⟩ := List.mem_map.mp hd
  trivial) (by decide)
section
variable {P : Program} {w : World} {K : PySem.W.Frag} {mg : Str → Option Value} {base : Heap}
theorem ok_law {f : Addr} {fd : FuncData} (F : Fun K "law" "law" s_law f fd) (B : Bn mg) (H__law_mix : CalE P w K mg base "_law_mix" ["_law_script", "_law_seed"] 1 (sp__law_mix K)) (H__law_next : CalE P w K mg base "_law_next" ["_law_h", "_law_cap"] 1 (sp__law_next K)) (H__law_pick : CalE P w K mg base "_law_pick" ["_law_h", "_law_things"] 2 (sp__law_pick K)) (H__law_rests : CalE P w K mg base "_law_rests" ["_law_step"] 1 (sp__law_rests K)) (H__law_length : CalE P w K mg base "_law_length" ["_law_rests_here", "_law_number"] 1 (sp__law_length K)) (H_first_shorter : CalE P w K mg base "first_shorter" ["one", "other"] 4 (sp_first_shorter K)) (H_longer_from : CalE P w K mg base "longer_from" ["one", "other"] 4 (sp_longer_from K)) (H__law_alike : CalE P w K mg base "_law_alike" ["_law_found", "_law_due"] 5 (sp__law_alike K)) (H_shortest_step : CalE P w K mg base "shortest_step" ["numbers"] 4 (sp_shortest_step K)) (H_word : CalE P w K mg base "word" ["step", "number"] 5 (sp_word K)) : FnOk P w K mg base CX0 6 f fd ["_law_script"] (sp_law K) := by
  obtain ⟨f__law_mix, fd__law_mix, G__law_mix⟩ := H__law_mix
  obtain ⟨f__law_next, fd__law_next, G__law_next⟩ := H__law_next
  obtain ⟨f__law_pick, fd__law_pick, G__law_pick⟩ := H__law_pick
  obtain ⟨f__law_rests, fd__law_rests, G__law_rests⟩ := H__law_rests
  obtain ⟨f__law_length, fd__law_length, G__law_length⟩ := H__law_length
  obtain ⟨f_first_shorter, fd_first_shorter, G_first_shorter⟩ := H_first_shorter
  obtain ⟨f_longer_from, fd_longer_from, G_longer_from⟩ := H_longer_from
  obtain ⟨f__law_alike, fd__law_alike, G__law_alike⟩ := H__law_alike
  obtain ⟨f_shortest_step, fd_shortest_step, G_shortest_step⟩ := H_shortest_step
  obtain ⟨f_word, fd_word, G_word⟩ := H_word
  refine F.ok sc_law (fun vs H Q E h => ?_) (fun cdv A outer s H vs Q E hr h => ?_)
  · obtain ⟨a, ns, rfl, _⟩ := h
    rfl
  obtain ⟨a, ns, rfl, hS, hlen, k⟩ := h
  have hsz := sizeLine_eq
  refine ⟨_, (pss_cons (ps_set (i := 1) sc_law.nd rfl (.inr rfl) (pe_call G__law_mix.ok (hr.mono (by first | decide | exact Nat.le_refl _)) (by rfl) G__law_mix.g G__law_mix.kp G__law_mix.b .nil pass0 (pa_cons (pv 0) (pa_cons pe_int pa_nil))))
      (pss_cons (ps_for PassesOwn.never rfl (pi_range1 (by rfl) B.range_ (pa_cons pe_int pa_nil)) (pg_name (i := 2) sc_law.nd rfl (.inl rfl))
      (pss_cons (ps_par (i := 3) (j := 4) (by rfl) sc_law.nd rfl rfl (by decide) rfl rfl (pa_cons (pe_op op_add pe_int (pe_call G__law_next.ok (hr.mono (by first | decide | exact Nat.le_refl _)) (by rfl) G__law_next.g G__law_next.kp G__law_next.b .nil pass0 (pa_cons (pv 1) (pa_cons pe_int pa_nil)))) (pa_cons (pe_op op_add pe_int (pe_call G__law_next.ok (hr.mono (by first | decide | exact Nat.le_refl _)) (by rfl) G__law_next.g G__law_next.kp G__law_next.b .nil pass0 (pa_cons (pv 1) (pa_cons (pe_call G__law_pick.ok (hr.mono (by first | decide | exact Nat.le_refl _)) (by rfl) G__law_pick.g G__law_pick.kp G__law_pick.b .nil pass0 (pa_cons (pv 1) (pa_cons (pe_lst (pa_cons pe_int (pa_cons pe_int pa_nil))) pa_nil))) pa_nil)))) pa_nil)) (by rfl))
      (pss_cons (ps_asg (pe_tup (pa_cons (pe_call G__law_rests.ok (hr.mono (by first | decide | exact Nat.le_refl _)) (by rfl) G__law_rests.g G__law_rests.kp G__law_rests.b .nil pass0 (pa_cons (pv 3) pa_nil)) (pa_cons (pe_call G__law_rests.ok (hr.mono (by first | decide | exact Nat.le_refl _)) (by rfl) G__law_rests.g G__law_rests.kp G__law_rests.b .nil pass0 (pa_cons (pv 4) pa_nil)) pa_nil))) (pg_tup (by rfl) (pgs_cons (pg_name (i := 5) sc_law.nd rfl (.inr rfl)) (pgs_cons (pg_name (i := 6) sc_law.nd rfl (.inr rfl)) pgs_nil))))
      (pss_cons (ps_set (i := 7) sc_law.nd rfl (.inr rfl) (pe_lc (own := [("_law_number", 11)]) (g := gName 11) (tt := tYes) rfl sc_law.nd (pi_range1 (by rfl) B.range_ (pa_cons pe_int pa_nil)) (blkOk_by (own := [("_law_number", 11)]) (N := ["_law_script", "_law_h", "_law_turn", "_law_one", "_law_other", "_law_mine", "_law_yours", "_law_gaps", "_law_less", "_law_first", "_law_later", "_law_number", "_law_cap", "_law_numbers", "_law_sums", "_law_step", "_law_rests_here", "_law_k"]) (sc := defScope s_law) (by decide +kernel)) (fun _ _ _ _ _ => (pg_name (i := 11) sc_law.nd rfl (.inl rfl))) (fun _ _ _ _ _ => pts_nil) (fun _ _ _ _ _ => (pe_op op_sub (pe_call G__law_length.ok (hr.mono (by first | decide | exact Nat.le_refl _)) (by rfl) G__law_length.g G__law_length.kp G__law_length.b .nil pass0 (pa_cons (pv 5) (pa_cons (pv 11) pa_nil))) (pe_call G__law_length.ok (hr.mono (by first | decide | exact Nat.le_refl _)) (by rfl) G__law_length.g G__law_length.kp G__law_length.b .nil pass0 (pa_cons (pv 6) (pa_cons (pv 11) pa_nil)))))))
      (pss_cons (ps_setLc (i := 8) (own := [("_law_number", 11)]) (g := gName 11) (tt := _) rfl sc_law.nd rfl rfl (sw_true rfl rfl rfl (by decide +kernel)) (pi_range1 (by rfl) B.range_ (pa_cons pe_int pa_nil)) (blkOk_by (own := [("_law_number", 11)]) (N := ["_law_script", "_law_h", "_law_turn", "_law_one", "_law_other", "_law_mine", "_law_yours", "_law_gaps", "_law_less", "_law_first", "_law_later", "_law_number", "_law_cap", "_law_numbers", "_law_sums", "_law_step", "_law_rests_here", "_law_k"]) (sc := defScope s_law) (by decide +kernel)) (fun _ _ _ _ _ => (pg_name (i := 11) sc_law.nd rfl (.inl rfl))) (fun _ _ _ _ _ => (pts_one (pt_cmpR op_lt (pe_ix (ix_list_ K) (pv 7) (pv 11) (fun _ _ => rfl)) pe_int (nomark _)))) (fun _ _ _ _ _ => (pv 11)))
      (pss_cons (ps_par (i := 9) (j := 10) (by rfl) sc_law.nd rfl rfl (by decide) rfl rfl (pa_cons (pe_call G_first_shorter.ok (hr.mono (by first | decide | exact Nat.le_refl _)) (by rfl) G_first_shorter.g G_first_shorter.kp G_first_shorter.b .nil pass0 (pa_cons (pv 3) (pa_cons (pv 4) pa_nil))) (pa_cons (pe_call G_longer_from.ok (hr.mono (by first | decide | exact Nat.le_refl _)) (by rfl) G_longer_from.g G_longer_from.kp G_longer_from.b .nil pass0 (pa_cons (pv 3) (pa_cons (pv 4) pa_nil))) pa_nil)) (by rfl))
      (pss_cons (ps_if (PW.pt (pw_or (PW.pt (pw_and (pt_cmp (pc_notN (pv 9))) (pw_and1 (pt_cmpR op_lt (pv 9) pe_int (nomark _))))) (pw_or1 (pt_cmpR (op_neD_ K hr.units) (pv 8) (pe_lst pa_nil) (nomark _)))))
      (pss_one (ps_if (pt_not (pt_val (pe_call G__law_alike.ok (hr.mono (by first | decide | exact Nat.le_refl _)) (by rfl) G__law_alike.g G__law_alike.kp G__law_alike.b .nil pass0 (pa_cons (pv 9) (pa_cons (pe_ifExp (pt_cmpR (op_neD_ K hr.units) (pv 8) (pe_lst pa_nil) (nomark _)) (pe_ix (ix_list_ K) (pv 8) pe_int (fun _ _ => rfl)) pe_non) pa_nil)))))
      (pss_one (ps_ret pe_bl))
      pss_nil))
      pss_nil)
      (pss_cons (ps_if (PW.pt (pw_or (PW.pt (pw_and (pt_cmp (pc_isN (pv 9))) (pw_and1 (pt_cmpR op_gt (pv 3) (pv 4) (nomark _))))) (pw_or1 (pt_cmpR op_ne (pe_cmp (pc_isN (pv 10)) rfl) (pe_cmpR op_ge (pv 3) (pv 4) (nomark _)) (nomark _)))))
      (pss_one (ps_ret pe_bl))
      pss_nil)
      (pss_cons (ps_if (pt_cmp (pc_notN (pv 10)))
      (pss_cons (ps_for PassesOwn.never rfl (pi_list (pe_lst (pa_cons (pv 10) (pa_cons (pe_op op_add (pv 10) (pe_call G__law_next.ok (hr.mono (by first | decide | exact Nat.le_refl _)) (by rfl) G__law_next.g G__law_next.kp G__law_next.b .nil pass0 (pa_cons (pv 1) (pa_cons (pe_op op_pow pe_int pe_int) pa_nil)))) (pa_cons (pe_op op_add (pv 10) (pe_call G__law_next.ok (hr.mono (by first | decide | exact Nat.le_refl _)) (by rfl) G__law_next.g G__law_next.kp G__law_next.b .nil pass0 (pa_cons (pv 1) (pa_cons (pe_op op_pow pe_int pe_int) pa_nil)))) pa_nil))))) (pg_name (i := 11) sc_law.nd rfl (.inl rfl))
      (pss_one (ps_if (pt_cmpR op_le (pe_call G__law_length.ok (hr.mono (by first | decide | exact Nat.le_refl _)) (by rfl) G__law_length.g G__law_length.kp G__law_length.b .nil pass0 (pa_cons (pv 5) (pa_cons (pv 11) pa_nil))) (pe_call G__law_length.ok (hr.mono (by first | decide | exact Nat.le_refl _)) (by rfl) G__law_length.g G__law_length.kp G__law_length.b .nil pass0 (pa_cons (pv 6) (pa_cons (pv 11) pa_nil))) (nomark _))
      (pss_one (ps_ret pe_bl))
      pss_nil)))
      (pss_one (ps_if (PW.pt (pw_and (pt_cmpR op_gt (pv 10) pe_int (nomark _)) (pw_and1 (pt_cmpR op_gt (pe_call G__law_length.ok (hr.mono (by first | decide | exact Nat.le_refl _)) (by rfl) G__law_length.g G__law_length.kp G__law_length.b .nil pass0 (pa_cons (pv 5) (pa_cons (pe_op op_sub (pv 10) pe_int) pa_nil))) (pe_call G__law_length.ok (hr.mono (by first | decide | exact Nat.le_refl _)) (by rfl) G__law_length.g G__law_length.kp G__law_length.b .nil pass0 (pa_cons (pv 6) (pa_cons (pe_op op_sub (pv 10) pe_int) pa_nil))) (nomark _)))))
      (pss_one (ps_ret pe_bl))
      pss_nil)))
      pss_nil)
      (pss_cons (ps_set (i := 12) sc_law.nd rfl (.inr rfl) (pe_call G__law_pick.ok (hr.mono (by first | decide | exact Nat.le_refl _)) (by rfl) G__law_pick.g G__law_pick.kp G__law_pick.b .nil pass0 (pa_cons (pv 1) (pa_cons (pe_lst (pa_cons pe_int (pa_cons pe_int (pa_cons (pe_op op_pow pe_int pe_int) pa_nil)))) pa_nil))))
      (pss_cons (ps_set (i := 13) sc_law.nd rfl (.inl rfl) (pe_callTy (call_tuple_of_ K) (by rfl) B.tuple_ (by decide +kernel) (pa_cons (pe_lc (own := [("_law_k", 17)]) (g := gName 17) (tt := tYes) rfl sc_law.nd (pi_range1 (by rfl) B.range_ (pa_cons (pe_call G__law_next.ok (hr.mono (by first | decide | exact Nat.le_refl _)) (by rfl) G__law_next.g G__law_next.kp G__law_next.b .nil pass0 (pa_cons (pv 1) (pa_cons pe_int pa_nil))) pa_nil)) (blkOk_by (own := [("_law_k", 17)]) (N := ["_law_script", "_law_h", "_law_turn", "_law_one", "_law_other", "_law_mine", "_law_yours", "_law_gaps", "_law_less", "_law_first", "_law_later", "_law_number", "_law_cap", "_law_numbers", "_law_sums", "_law_step", "_law_rests_here", "_law_k"]) (sc := defScope s_law) (by decide +kernel)) (fun _ _ _ _ _ => (pg_name (i := 17) sc_law.nd rfl (.inl rfl))) (fun _ _ _ _ _ => pts_nil) (fun _ _ _ _ _ => (pe_call G__law_next.ok (hr.mono (by first | decide | exact Nat.le_refl _)) (by rfl) G__law_next.g G__law_next.kp G__law_next.b .nil pass0 (pa_cons (pv 1) (pa_cons (pe_op op_add (pv 12) pe_int) pa_nil))))) pa_nil)))
      (pss_cons (ps_set (i := 14) sc_law.nd rfl (.inl rfl) (pe_lst pa_nil))
      (pss_cons (ps_for PassesOwn.never rfl (pi_range2 (by rfl) B.range_ (pa_cons pe_int (pa_cons pe_int pa_nil))) (pg_name (i := 15) sc_law.nd rfl (.inl rfl))
      (pss_cons (ps_set (i := 16) sc_law.nd rfl (.inr rfl) (pe_call G__law_rests.ok (hr.mono (by first | decide | exact Nat.le_refl _)) (by rfl) G__law_rests.g G__law_rests.kp G__law_rests.b .nil pass0 (pa_cons (pv 15) pa_nil)))
      (pss_one (ps_expr (pe_bm PySem.F.plainAttrs_list PySem.F.slot_list_append PySem.F.type_list_append mt_append (pv 14) (pa_cons (pe_tup (pa_cons (pe_callB (cr_sum_ K rfl) (by rfl) B.sum_ (by decide +kernel) (pa_cons (pe_lc (own := [("_law_number", 11)]) (g := gName 11) (tt := tYes) rfl sc_law.nd (pi_tup (pv 13)) (blkOk_by (own := [("_law_number", 11)]) (N := ["_law_script", "_law_h", "_law_turn", "_law_one", "_law_other", "_law_mine", "_law_yours", "_law_gaps", "_law_less", "_law_first", "_law_later", "_law_number", "_law_cap", "_law_numbers", "_law_sums", "_law_step", "_law_rests_here", "_law_k"]) (sc := defScope s_law) (by decide +kernel)) (fun _ _ _ _ _ => (pg_name (i := 11) sc_law.nd rfl (.inl rfl))) (fun _ _ _ _ _ => pts_nil) (fun _ _ _ _ _ => (pe_call G__law_length.ok (hr.mono (by first | decide | exact Nat.le_refl _)) (by rfl) G__law_length.g G__law_length.kp G__law_length.b .nil pass0 (pa_cons (pv 16) (pa_cons (pv 11) pa_nil))))) pa_nil)) (pa_cons (pv 15) pa_nil))) pa_nil))))))
      (pss_cons (ps_if (pt_not (pt_val (pe_call G__law_alike.ok (hr.mono (by first | decide | exact Nat.le_refl _)) (by rfl) G__law_alike.g G__law_alike.kp G__law_alike.b .nil pass0 (pa_cons (pe_call G_shortest_step.ok (hr.mono (by first | decide | exact Nat.le_refl _)) (by rfl) G_shortest_step.g G_shortest_step.kp G_shortest_step.b .nil pass0 (pa_cons (pv 13) pa_nil)) (pa_cons (pe_tup (pa_cons (pe_ix (ix_tup_ K) (pe_callB (cr_minD_ K rfl hr.units) (by rfl) B.min_ (by decide +kernel) (pa_cons (pv 14) pa_nil)) pe_int (fun _ _ => rfl)) (pa_cons (pe_ix (ix_tup_ K) (pe_callB (cr_minD_ K rfl hr.units) (by rfl) B.min_ (by decide +kernel) (pa_cons (pv 14) pa_nil)) pe_int (fun _ _ => rfl)) pa_nil))) pa_nil)))))
      (pss_one (ps_ret pe_bl))
      pss_nil)
      (pss_one (ps_if (PW.pt (pw_and (pt_cmpR (op_neD_ K hr.units) (pv 13) (pe_tup pa_nil) (nomark _)) (pw_and1 (pt_cmpR op_ne (pe_callB call_len_str_ (by rfl) B.len_ (by decide +kernel) (pa_cons (pe_call G_word.ok (hr.mono (by first | decide | exact Nat.le_refl _)) (by rfl) G_word.g G_word.kp G_word.b .nil pass0 (pa_cons pe_int (pa_cons (pe_op op_fdiv (pe_ix (ix_tup_ K) (pv 13) pe_int (fun _ _ => rfl)) pe_int) pa_nil))) pa_nil)) (pe_call G__law_length.ok (hr.mono (by first | decide | exact Nat.le_refl _)) (by rfl) G__law_length.g G__law_length.kp G__law_length.b .nil pass0 (pa_cons (pe_call G__law_rests.ok (hr.mono (by first | decide | exact Nat.le_refl _)) (by rfl) G__law_rests.g G__law_rests.kp G__law_rests.b .nil pass0 (pa_cons pe_int pa_nil)) (pa_cons (pe_op op_fdiv (pe_ix (ix_tup_ K) (pv 13) pe_int (fun _ _ => rfl)) pe_int) pa_nil))) (nomark _)))))
      (pss_one (ps_ret pe_bl))
      pss_nil))))))))))))))))
      (pss_one (ps_ret pe_bl)))), ?_⟩
  refine ⟨_, rfl, a, ns, 23, rfl, hS, hlen, fun h q H1 s1 n1 n2 L1 => ?_⟩
  refine ⟨3, rfl, by decide, by decide, for_range (lo := 0) (n := 3) (fun i σ H2 => ∃ v2 v3 v4 v5 v6 v7 v8 v9 v10 v11 v12 v13 v14 v15 v16 v17, σ = [some (.ref a), some (.ref h), v2, v3, v4, v5, v6, v7, v8, v9, v10, v11, v12, v13, v14, v15, v16, v17] ∧ LawH H2 h q) ⟨_, _, _, _, _, _, _, _, _, _, _, _, _, _, _, _, rfl, L1⟩ ?_ ?_⟩
  rotate_left
  · rintro σ H2 ⟨v2, v3, v4, v5, v6, v7, v8, v9, v10, v11, v12, v13, v14, v15, v16, v17, rfl, L2⟩
    exact k H2
  rintro i σ H2 hi ⟨v2, v3, v4, v5, v6, v7, v8, v9, v10, v11, v12, v13, v14, v15, v16, v17, rfl, L2⟩
  -- one, other
  refine ⟨_, rfl, h, q, 64, rfl, L2, by decide, by decide, fun z H3 z0 z1 L3 S3 => ?_⟩
  refine ⟨_, _, rfl, rfl, _, rfl, _, rfl, (by show 2 ≤ sizeLine; omega), fun t nt => pickI L3 nt (fun z => by cases z) (by show 2 ≤ 1000; decide) fun x hx H4 L4 S4 => ?_⟩
  obtain ⟨c, rfl, c0, c1⟩ : ∃ c : Nat, x = .int (c : Int) ∧ 1 ≤ c ∧ c ≤ 64 := by
    simp only [List.mem_cons, List.not_mem_nil, or_false] at hx
    rcases hx with rfl | rfl <;> exact ⟨_, rfl, by decide, by decide⟩
  refine ⟨h, q, c, rfl, L4, by omega, by omega, fun z' H5 y0 y1 L5 S5 => ?_⟩
  obtain ⟨m, em⟩ : ∃ m : Nat, (1 : Int) + z = (m : Int) := ⟨1 + z.toNat, by omega⟩
  obtain ⟨m', em'⟩ : ∃ m : Nat, (1 : Int) + z' = (m : Int) := ⟨1 + z'.toNat, by omega⟩
  refine ⟨_, _, rfl, rfl, _, _, rfl, ?_⟩
  refine to_next (σ' := [some (.ref a), some (.ref h), some (.int (0 + (i : Int))), some (.int (m : Nat)), some (.int (m' : Nat)), v5, v6, v7, v8, v9, v10, v11, v12, v13, v14, v15, v16, v17]) (by rw [← em, ← em']; rfl) ?_
  have m1 : 1 ≤ m := by omega
  have m64 : m ≤ 64 := by omega
  have p1 : 1 ≤ m' := by omega
  have p64 : m' ≤ 64 := by omega
  clear em em' z0 z1 y0 y1
  -- the words of the rests
  refine ⟨_, rfl, m, rfl, m1, m64, fun D1 H6 s6 nD1 eD1 => ?_⟩
  refine ⟨_, rfl, m', rfl, p1, p64, fun D2 H7 s7 nD2 eD2 => ?_⟩
  have d1 : D1 ≠ h ∧ D1 ≠ q := ⟨fun z => L5.nn.1 (z ▸ nD1), fun z => L5.nn.2 (z ▸ nD1)⟩
  have d2 : D2 ≠ h ∧ D2 ≠ q := ⟨fun z => (L5.same s6).nn.1 (z ▸ nD2), fun z => (L5.same s6).nn.2 (z ▸ nD2)⟩
  refine ⟨(by show 2 ≤ sizeLine; omega), fun T nT => ?_⟩
  refine ⟨T, _, rfl, .inl (.inl upd_same), rfl, _, _, rfl, _, _, rfl, rfl, ?_⟩
  have s8 := same_new nT (.tup [.ref D1, .ref D2])
  have eD1 := s8 _ _ (s7 _ _ eD1)
  have eD2 := s8 _ _ eD2
  have L8 := ((L5.same s6).same s7).same s8
  generalize upd H7 T (.tup [.ref D1, .ref D2]) = H8 at *
  clear s8 nT nD1 nD2 s6 s7 S3 S4 S5 nt
  -- the gaps
  refine ⟨3000, rfl, by decide, by decide, fun G nG => ?_⟩
  refine lc_range (lo := 0) (n := 3000) (fun j H9 => Same H8 H9 ∧ H9 G = some (.lst ((gapsL m m').take j))) ⟨same_new nG _, by rw [List.take_zero]; exact upd_same⟩ ?_ ?_
  · rintro j H9 hj ⟨s9, eG⟩
    refine ⟨rfl, _, rfl, _, rfl, D1, m, j, ?_, s9 _ _ eD1, m1, m64, _, rfl, _, rfl, D2, m', j, ?_, s9 _ _ eD2, p1, p64, _, _, rfl, rfl, _, eG, ?_, fun b o ho => ?_, ?_⟩
    · show [V.ref D1, V.int (0 + (j : Int))] = _
      rw [Int.zero_add]
    · show [V.ref D2, V.int (0 + (j : Int))] = _
      rw [Int.zero_add]
    · rw [List.length_take]
      omega
    · rw [upd_ne (ne_of_none ho nG)]
      exact s9 _ _ ho
    · rw [upd_same, take_more (l := gapsL m m') (i := j) (by unfold gapsL; rw [List.getElem?_map, List.getElem?_range hj]; rfl)]
  rintro H9 ⟨s9, eG⟩
  have gl : (gapsL m m').length = 3000 := by unfold gapsL; rw [List.length_map, List.length_range]
  rw [List.take_of_length_le (by omega)] at eG
  -- where the words are shorter
  refine ⟨3000, rfl, by decide, by decide, fun L nL => ?_⟩
  refine lc_range (lo := 0) (n := 3000) (fun j H10 => Same H9 H10 ∧ H10 L = some (.lst ((lessN m m' j).map fun n => V.int (n : Nat)))) ⟨same_new nL _, upd_same⟩ ?_ ?_
  · rintro j H10 hj ⟨s10, eL⟩
    have at1 : (gapsL m m')[j]? = some (V.int (((lenN m j : Nat) : Int) - ((lenN m' j : Nat) : Int))) := by unfold gapsL; rw [List.getElem?_map, List.getElem?_range hj]; rfl
    refine ⟨rfl, _, rfl, _, rfl, G, _, _, _, rfl, rfl, .inl (.inl (s10 _ _ eG)), at_of (Int.zero_add _) at1, _, _, rfl, rfl, _, rfl, ?_⟩
    by_cases cl : lenN m j < lenN m' j
    · refine iteDT (by omega) ⟨_, rfl, _, eL, ?_, fun b o ho => ?_, ?_⟩
      · rw [List.length_map]
        have := less_len m m' j
        omega
      · rw [upd_ne (ne_of_none ho nL)]
        exact s10 _ _ ho
      · rw [upd_same, less_succ, if_pos cl, List.map_append, Int.zero_add]
        rfl
    · refine iteDF (by omega) ⟨s10, ?_⟩
      rw [less_succ, if_neg cl, List.append_nil]
      exact eL
  rintro H10 ⟨s10, eL⟩
  have S10 := s9.trans s10
  have eD1 := S10 _ _ eD1
  have eD2 := S10 _ _ eD2
  have L10 := L8.same S10
  clear eG nG nL s9 s10 S10 gl
  -- first, later
  refine' joinG1 (fun fv : V => (fv = .non ∧ (∀ n, ¬ lenN m n < lenN m' n) ∧ m ≤ m') ∨ ∃ n : Nat, fv = .int (n : Nat) ∧ lenN m n < lenN m' n ∧ ∀ k, k < n → ¬ lenN m k < lenN m' k) ?mainA ?restA
  case mainA =>
    intro key
    refine ⟨_, rfl, _, rfl, m, m', rfl, m1, p1, m64, p64, fun n h1 h2 => ?_, fun h1 h2 => ?_⟩
    · have hh : ∃ n' : Nat, V.int (n : Nat) = .int (n' : Nat) ∧ lenN m n' < lenN m' n' ∧ ∀ k, k < n' → ¬ lenN m k < lenN m' k := ⟨n, rfl, h1, h2⟩
      generalize V.int (n : Nat) = fv at *
      exact key fv (.inr hh)
    · exact key .non (.inl ⟨rfl, h1, h2⟩)
  case restA =>
  rintro fv hfv
  refine' joinG1 (fun lv : V => (lv = .non ∧ m' ≤ m) ∨ ∃ N : Nat, lv = .int (N : Nat) ∧ m < m' ∧ (∀ n, N ≤ n → lenN m' n < lenN m n) ∧ (0 < N → ¬ lenN m' (N - 1) < lenN m (N - 1))) ?mainB ?restB
  case mainB =>
    intro key
    refine ⟨_, rfl, _, rfl, m, m', rfl, m1, p1, m64, p64, fun hl N h1 h2 => ?_, fun h1 => ?_⟩
    · have hh : ∃ N' : Nat, V.int (N : Nat) = .int (N' : Nat) ∧ m < m' ∧ (∀ n, N' ≤ n → lenN m' n < lenN m n) ∧ (0 < N' → ¬ lenN m' (N' - 1) < lenN m (N' - 1)) := ⟨N, rfl, hl, h1, h2⟩
      generalize V.int (N : Nat) = lv at *
      exact key lv (.inr hh)
    · exact key .non (.inl ⟨rfl, h1⟩)
  case restB =>
  rintro lv hlv
  refine ⟨_, _, rfl, ?_⟩
  have hdl : ∀ {H : Hp}, H L = some (.lst ((lessN m m' 3000).map fun n => V.int (n : Nat))) → Dp K H (.ref L) (.list ((lessN m m' 3000).map fun n => .int (n : Nat))) := fun e => .lst (.inl (.inl e)) (dp_nats _)
  have hsl := sh_nats (lessN m m' 3000)
  have hs0 : SeqAt.shaped (.list []) = true := by decide +kernel
  refine' joinG1 (fun (H11 : Hp) => Same H10 H11) ?mainC ?restC
  case mainC =>
    intro key
    rcases id hfv with ⟨ef, hno, hle⟩ | ⟨n, ef, hlt, hleast⟩
    · have e0 : lessN m m' 3000 = [] := less_none 3000 fun n _ => hno n
      refine ⟨_, rfl, _, rfl, iteNF ef (iteF ⟨_, rfl, (by show 0 ≤ sizeLine; omega), fun E nE => ?_⟩)⟩
      have s11 := same_new nE (.lst [])
      refine ⟨_, _, hdl (s11 _ _ eL), .lst (.inl (.inl upd_same)) .nil, hsl, hs0, _, rfl, ?_⟩
      have eb : (!PyData.eqv (.list ((lessN m m' 3000).map fun n => .int (n : Nat))) (.list [])) = false := by rw [eqv_nil, e0]; rfl
      rw [eb]
      refine iteF ?_
      generalize upd H10 E (.lst []) = H11 at *
      exact key H11 s11
    · have nf : ¬ fv = V.non := fun z => by rw [ef] at z; cases z
      by_cases c3 : n < 3000
      · obtain ⟨r, hr⟩ := less_first hlt hleast (3000 - (n + 1))
        rw [show n + 1 + (3000 - (n + 1)) = 3000 by omega] at hr
        refine ⟨_, rfl, _, rfl, iteND nf ⟨_, rfl, _, _, ef, rfl, _, rfl, iteDT (by omega) (iteT ?_)⟩⟩
        refine ⟨_, rfl, _, rfl, (by show 0 ≤ sizeLine; omega), fun E nE => ?_⟩
        have s11 := same_new nE (.lst [])
        refine ⟨_, _, hdl (s11 _ _ eL), .lst (.inl (.inl upd_same)) .nil, hsl, hs0, _, rfl, ?_⟩
        have eb : (!PyData.eqv (.list ((lessN m m' 3000).map fun n => .int (n : Nat))) (.list [])) = true := by rw [eqv_nil, hr]; rfl
        rw [eb]
        have eL11 := s11 _ _ eL
        rw [hr] at eL11
        refine iteT ⟨_, rfl, L, _, _, _, rfl, rfl, .inl (.inl eL11), at_of (j := 0) rfl rfl, ?_⟩
        generalize upd H10 E (.lst []) = H11 at *
        refine ⟨_, _, .int (n : Nat), 4, rfl, rfl, ef ▸ .int _, .int _, trivial, fun H12 s12 => ⟨_, rfl, iteF ?_⟩⟩
        exact key H12 (s11.trans s12)
      · have e0 : lessN m m' 3000 = [] := less_none 3000 fun k hk => hleast k (by omega)
        refine ⟨_, rfl, _, rfl, iteND nf ⟨_, rfl, _, _, ef, rfl, _, rfl, iteDF (show ¬ (n : Int) < 3000 by omega) ?_⟩⟩
        refine ⟨_, rfl, (by show 0 ≤ sizeLine; omega), fun E nE => ?_⟩
        have s11 := same_new nE (.lst [])
        refine ⟨_, _, hdl (s11 _ _ eL), .lst (.inl (.inl upd_same)) .nil, hsl, hs0, _, rfl, ?_⟩
        have eb : (!PyData.eqv (.list ((lessN m m' 3000).map fun n => .int (n : Nat))) (.list [])) = false := by rw [eqv_nil, e0]; rfl
        rw [eb]
        refine iteF ?_
        generalize upd H10 E (.lst []) = H11 at *
        exact key H11 s11
  case restC =>
  intro H11 s11
  have L11 := L10.same s11
  have eD1 := s11 _ _ eD1
  have eD2 := s11 _ _ eD2
  clear hdl hsl eL s11 L10
  have hle0 : fv = .non → ¬ ((m' : Int) < (m : Int)) := fun e => by
    rcases hfv with ⟨_, hno, hle⟩ | ⟨n, e', _⟩
    · omega
    · rw [e] at e'
      cases e'
  refine' joinT ?mainD ?restD
  case mainD =>
    intro key
    by_cases ef : fv = V.non
    · refine ⟨_, rfl, _, rfl, iteDT ef ⟨_, rfl, _, rfl, _, _, rfl, rfl, _, rfl, iteDF (hle0 ef) ?_⟩⟩
      exact key
    · refine ⟨_, rfl, _, rfl, iteDF ef (iteF ?_)⟩
      exact key
  case restD =>
  have hb : V.bl (decide (lv = V.non)) = V.bl (decide ((m : Int) ≥ (m' : Int))) := by
    rcases hlv with ⟨rfl, hle⟩ | ⟨N, rfl, hlt, _⟩
    · rw [decide_eq_true rfl, decide_eq_true (show (m : Int) ≥ (m' : Int) by omega)]
    · rw [decide_eq_false (fun z => by cases z), decide_eq_false (show ¬ (m : Int) ≥ (m' : Int) by omega)]
  refine ⟨_, rfl, _, rfl, _, rfl, _, _, rfl, rfl, rfl, _, rfl, iteNF hb ?_⟩
  clear hb
  -- from there on longer
  refine' joinG2 (fun (v11' : Option V) (H12 : Hp) => LawH H12 h q) ?mainE ?restE
  case mainE =>
    intro key
    rcases id hlv with ⟨el, hle⟩ | ⟨N, el, hlt, hN, hN1⟩
    · refine ⟨_, rfl, _, rfl, iteNF el ?_⟩
      obtain ⟨w11, K11, ew, eK, LK⟩ : ∃ w K, w = v11 ∧ K = H11 ∧ LawH K h q := ⟨_, _, rfl, rfl, L11⟩
      rw [← ew, ← eK]
      exact key w11 K11 LK
    · refine ⟨_, rfl, _, rfl, iteND (fun z => by rw [el] at z; cases z) ?_⟩
      refine ⟨_, rfl, _, rfl, _, rfl, _, _, rfl, rfl, ⟨by decide, by decide, by decide⟩, h, q, _, rfl, L11, by decide, by decide, fun z1 H12 a0 a1 L12 S12 => ?_⟩
      refine ⟨_, _, el, rfl, _, rfl, _, rfl, _, _, rfl, rfl, ⟨by decide, by decide, by decide⟩, h, q, _, rfl, L12, by decide, by decide, fun z2 H13 b0 b1 L13 S13 => ?_⟩
      refine ⟨_, _, el, rfl, (by show 3 ≤ sizeLine; omega), fun F nF => ?_⟩
      have S14 := (S12.trans S13).trans (Sm.of (same_new nF (.lst [lv, .int ((N : Int) + z1), .int ((N : Int) + z2)])))
      have L14 := L13.same (same_new nF (.lst [lv, .int ((N : Int) + z1), .int ((N : Int) + z2)]))
      have eF : (upd H13 F (.lst [lv, .int ((N : Int) + z1), .int ((N : Int) + z2)])) F = some (.lst [lv, .int ((N : Int) + z1), .int ((N : Int) + z2)]) := upd_same
      have eD1 := S14 _ _ eD1 d1.1 d1.2
      have eD2 := S14 _ _ eD2 d2.1 d2.2
      have hall : ∀ x ∈ [lv, .int ((N : Int) + z1), .int ((N : Int) + z2)], ∃ n : Nat, x = .int (n : Nat) ∧ N ≤ n := by
        intro x hx
        simp only [List.mem_cons, List.not_mem_nil, or_false] at hx
        rcases hx with rfl | rfl | rfl
        · exact ⟨N, el, Nat.le_refl _⟩
        · exact ⟨N + z1.toNat, congrArg V.int (by omega), by omega⟩
        · exact ⟨N + z2.toNat, congrArg V.int (by omega), by omega⟩
      refine ⟨F, rfl, ⟨_, .inl (.inl eF)⟩, for_list (K := K) (a := F) (xs := [lv, .int ((N : Int) + z1), .int ((N : Int) + z2)]) (fun j σ H' => ∃ v11 : Option V, σ = [some (.ref a), some (.ref h), some (.int (0 + (i : Int))), some (.int (m : Nat)), some (.int (m' : Nat)), some (.ref D1), some (.ref D2), some (.ref G), some (.ref L), some fv, some lv, v11, v12, v13, v14, v15, v16, v17] ∧ H' = upd H13 F (.lst [lv, .int ((N : Int) + z1), .int ((N : Int) + z2)])) ⟨_, rfl, rfl⟩ (fun j σ H' _ ⟨_, _, e⟩ => .inl (.inl (e ▸ eF))) ?_ ?_⟩
      · rintro j x σ H' hx ⟨v11, rfl, rfl⟩
        obtain ⟨n, rfl, hn⟩ := hall x (List.mem_of_getElem? hx)
        have := hN n hn
        exact ⟨_, rfl, _, rfl, D1, m, n, rfl, eD1, m1, m64, _, rfl, _, rfl, D2, m', n, rfl, eD2, p1, p64, _, _, rfl, rfl, _, rfl, iteDF (by omega) ⟨_, rfl, rfl⟩⟩
      · rintro σ H' ⟨v11, rfl, eH'⟩
        have eD1 : H' D1 = _ := eH' ▸ eD1
        have eD2 : H' D2 = _ := eH' ▸ eD2
        have L14 : LawH H' h q := eH' ▸ L14
        clear eH'
        have eN : 0 < N → (N : Int) - 1 = ((N - 1 : Nat) : Int) := fun _ => by omega
        have g1 : 0 < N → (N : Int) > 0 := fun _ => by omega
        have g2 : ¬ 0 < N → ¬ (N : Int) > 0 := fun _ => by omega
        have g3 : 0 < N → ¬ (((lenN m (N - 1) : Nat) : Int) > ((lenN m' (N - 1) : Nat) : Int)) := fun hn => by
          have := hN1 hn
          omega
        by_cases g : 0 < N
        · refine ⟨_, rfl, _, _, el, rfl, _, rfl, iteDT (g1 g) ?_⟩
          refine ⟨_, rfl, _, rfl, _, _, el, rfl, D1, m, N - 1, (by show [V.ref D1, V.int ((N : Int) - 1)] = _; rw [eN g]), eD1, m1, m64, _, rfl, _, rfl, _, _, el, rfl, D2, m', N - 1, (by show [V.ref D2, V.int ((N : Int) - 1)] = _; rw [eN g]), eD2, p1, p64, _, _, rfl, rfl, _, rfl, iteDF (g3 g) ?_⟩
          exact key v11 H' L14
        · refine ⟨_, rfl, _, _, el, rfl, _, rfl, iteDF (g2 g) (iteF ?_)⟩
          exact key v11 H' L14
  case restE =>
  intro v11 H12 L12
  clear hlv hfv eD1 eD2 L11 d1 d2 L8 L5 L4 L3 hle0
  refine ⟨_, rfl, _, _, rfl, rfl, ⟨by decide, by decide, by decide⟩, (by show 3 ≤ sizeLine; omega), fun t nt => pickI L12 nt (fun z => by cases z) (by show 3 ≤ 1000; decide) fun x hx H13 L13 S13 => ?_⟩
  obtain ⟨cap, rfl, k1⟩ : ∃ cap : Nat, x = .int (cap : Int) ∧ cap ≤ 1000000 := by
    simp only [List.mem_cons, List.not_mem_nil, or_false] at hx
    rcases hx with rfl | rfl | rfl
    · exact ⟨5, rfl, by decide⟩
    · exact ⟨100, rfl, by decide⟩
    · exact ⟨1000000, congrArg V.int (by decide), by decide⟩
  -- the numbers
  refine ⟨_, rfl, h, q, 6, rfl, L13, by decide, by decide, fun y H14 y0 y1 L14 S14 => ?_⟩
  obtain ⟨n6, rfl⟩ : ∃ y' : Nat, y = (y' : Int) := ⟨y.toNat, by omega⟩
  refine ⟨_, rfl, by omega, by omega, fun F nF => ?_⟩
  have f1 : F ≠ h := fun z => L14.nn.1 (z ▸ nF)
  have f2 : F ≠ q := fun z => L14.nn.2 (z ▸ nF)
  rw [Int.toNat_natCast]
  refine lc_range (lo := 0) (n := n6) (fun j H' => ∃ us : List Nat, us.length = j ∧ (∀ n ∈ us, n ≤ 1000000) ∧ LawH H' h q ∧ H' F = some (.lst (us.map fun n => V.int (n : Nat)))) ⟨[], rfl, (fun n hn => by cases hn), L14.same (same_new nF _), upd_same⟩ ?_ ?_
  · rintro j H' hj ⟨us, hul, hub, LL, eF⟩
    refine ⟨rfl, _, rfl, _, rfl, _, _, rfl, rfl, h, q, _, rfl, LL, by omega, by omega, fun z H'' z0 z1 L'' S'' => ?_⟩
    obtain ⟨u, rfl⟩ : ∃ y' : Nat, z = (y' : Int) := ⟨z.toNat, by omega⟩
    refine ⟨_, S'' _ _ eF f1 f2, by rw [List.length_map]; omega, us ++ [u], by rw [List.length_append, hul]; rfl, fun n hn => ?_, L''.updL f1 f2, by rw [upd_same, List.map_append]; rfl⟩
    rcases List.mem_append.mp hn with hn | hn
    · exact hub n hn
    · rw [List.mem_singleton.mp hn]
      omega
  rintro H15 ⟨us, hul, hub, L15, eF⟩
  refine ⟨F, _, rfl, .inl ⟨.inl (.inl eF), fun T nT => ?_⟩⟩
  have L16 := L15.same (same_new nT (.tup (us.map fun n => V.int (n : Nat))))
  have eT : (upd H15 T (.tup (us.map fun n => V.int (n : Nat)))) T = some (.tup (us.map fun n => V.int (n : Nat))) := upd_same
  generalize upd H15 T (.tup (us.map fun n => V.int (n : Nat))) = H16 at *
  have hST : ∀ {H' : Hp}, Same H16 H' → SqT K H' T (us.map fun n => V.int (n : Nat)) := fun s => .inl (.inl (s _ _ eT))
  have lm : (us.map fun n => V.int (n : Nat)).length = us.length := List.length_map _
  clear eF L15 L14 L13 L12 S13 S14 nF f1 f2 nT nt
  -- the sums
  refine ⟨(by show 0 ≤ sizeLine; omega), fun U nU => ?_⟩
  refine ⟨_, _, rfl, ⟨by decide, by decide, by decide, by decide⟩, for_range (lo := 1) (n := 64) (fun j σ H' => ∃ (ts : List Addr) (v15 v16 : Option V), σ = [some (.ref a), some (.ref h), some (.int (0 + (i : Int))), some (.int (m : Nat)), some (.int (m' : Nat)), some (.ref D1), some (.ref D2), some (.ref G), some (.ref L), some fv, some lv, v11, some (.int (cap : Nat)), some (.ref T), some (.ref U), v15, v16, v17] ∧ ts.length = j ∧ Same H16 H' ∧ H' U = some (.lst (ts.map V.ref)) ∧ ∀ (i : Nat) (t : Addr), ts[i]? = some t → H' t = some (.tup [.int (sumsN us (i + 1) : Nat), .int ((i + 1 : Nat) : Int)])) ⟨[], _, _, rfl, rfl, same_new nU _, upd_same, fun i t h => by cases h⟩ ?_ ?_⟩
  · rintro j σ H17 hj ⟨ts, v15, v16, rfl, hts, s17, eU, he⟩
    have ej : (1 : Int) + (j : Int) = ((j + 1 : Nat) : Int) := by omega
    refine ⟨_, rfl, j + 1, (by show [V.int (1 + (j : Int))] = _; rw [ej]), by omega, by omega, fun R H18 s18 nR eR => ?_⟩
    refine ⟨_, rfl, .inl ⟨rfl, _, .inl (.inl (s18 _ _ eU))⟩, _, rfl, T, rfl, ⟨_, hST (s17.trans s18)⟩, fun W nW => ?_⟩
    refine lc_tup (K := K) (a := T) (xs := us.map fun n => V.int (n : Nat)) (fun i H4 => Same H18 H4 ∧ H4 W = some (.lst (((us.take i).map fun n => ((lenN (j + 1) n : Nat) : Int)).map V.int))) ⟨same_new nW _, upd_same⟩ (fun i H4 _ h4 => hST ((s17.trans s18).trans h4.1)) ?_ ?_
    · rintro i x H4 hx ⟨s4, eW⟩
      obtain ⟨z, hz, rfl⟩ : ∃ z, us[i]? = some z ∧ x = V.int (z : Nat) := by
        rw [List.getElem?_map] at hx
        cases e : us[i]? with
        | none => rw [e] at hx; cases hx
        | some z => rw [e] at hx; exact ⟨z, rfl, (Option.some.inj hx).symm⟩
      have hi : i < us.length := (List.getElem?_eq_some_iff.mp hz).1
      refine ⟨rfl, _, rfl, _, rfl, R, j + 1, z, rfl, s4 _ _ eR, by omega, by omega, _, eW, by rw [List.length_map, List.length_map, List.length_take]; omega, fun b o ho => ?_, ?_⟩
      · rw [upd_ne (ne_of_none ho nW)]
        exact s4 b o ho
      · rw [upd_same, take_more hz, List.map_append, List.map_append]
        rfl
    rintro H4 ⟨s4, eW⟩
    rw [lm, List.take_length] at eW
    refine ⟨W, _, rfl, .inl (.inl eW), _, rfl, (by show 2 ≤ sizeLine; omega), fun X nX => ?_⟩
    have esum : (us.map fun n => ((lenN (j + 1) n : Nat) : Int)).sum = ((sumsN us (j + 1) : Nat) : Int) := sum_natI (lenN (j + 1)) us
    rw [esum, ej]
    have s5 := (s18.trans s4).trans (same_new nX (.tup [.int (sumsN us (j + 1) : Nat), .int ((j + 1 : Nat) : Int)]))
    have eX : (upd H4 X (.tup [.int (sumsN us (j + 1) : Nat), .int ((j + 1 : Nat) : Int)])) X = some (.tup [.int (sumsN us (j + 1) : Nat), .int ((j + 1 : Nat) : Int)]) := upd_same
    generalize upd H4 X (.tup [.int (sumsN us (j + 1) : Nat), .int ((j + 1 : Nat) : Int)]) = H5 at *
    have eU5 := s5 _ _ eU
    have keep : ∀ {t : Addr} {l : List V}, H5 t = some (.tup l) → (upd H5 U (.lst (ts.map V.ref ++ [V.ref X]))) t = some (.tup l) := fun h => by
      rw [upd_ne (fun y => by rw [y, eU5] at h; cases h)]
      exact h
    refine ⟨U, _, _, rfl, rfl, eU5, by rw [List.length_map]; omega, ts ++ [X], _, _, rfl, by rw [List.length_append, hts]; rfl, fun b o ho => ?_, ?_, fun i t ht => ?_⟩
    · rw [upd_ne (ne_of_none ho nU)]
      exact s5 _ _ (s17 _ _ ho)
    · rw [upd_same, List.map_append]
      rfl
    · by_cases hi : i < ts.length
      · rw [List.getElem?_append_left hi] at ht
        exact keep (s5 _ _ (he i t ht))
      · have hi2 := (List.getElem?_eq_some_iff.mp ht).1
        rw [List.length_append, List.length_singleton] at hi2
        have : i = ts.length := by omega
        subst this
        rw [List.getElem?_append_right (Nat.le_refl _), Nat.sub_self] at ht
        cases Option.some.inj ht
        rw [hts]
        exact keep eX
  rintro σ H17 ⟨ts, v15, v16, rfl, hts, s17, eU, he⟩
  obtain ⟨d, ds, s, hdp, hal, hde, hbest, pick⟩ := minS (K := K) hts he
  refine ⟨_, rfl, T, us, rfl, hST s17, by omega, hub, fun T1 sb H18 b1 b2 b3 s18 eT1 => ?_⟩
  rw [BestS.one ⟨b1, b2, b3⟩ hbest] at eT1
  refine ⟨_, rfl, U, _, d, ds, rfl, .inl (.inl (s18 _ _ eU)), hdp _ s18, hal, hde, fun i1 x hx hd => ?_⟩
  obtain ⟨t1, rfl, et1⟩ := pick _ _ hx hd
  refine ⟨t1, _, _, _, rfl, rfl, .inl (.inl (s18 _ _ et1)), at_of (j := 1) rfl rfl, ?_⟩
  refine ⟨_, rfl, U, _, d, ds, rfl, .inl (.inl (s18 _ _ eU)), hdp _ s18, hal, hde, fun i2 x hx hd => ?_⟩
  obtain ⟨t2, rfl, et2⟩ := pick _ _ hx hd
  refine ⟨t2, _, _, _, rfl, rfl, .inl (.inl (s18 _ _ et2)), at_of (j := 0) rfl rfl, (by show 2 ≤ sizeLine; omega), fun T2 nT2 => ?_⟩
  have s19 := same_new nT2 (.tup [.int (s : Nat), .int (sumsN us s : Nat)])
  refine ⟨_, _, .tuple [.int (s : Nat), .int (sumsN us s : Nat)], 4, rfl, rfl, .tup (.inl (.inl (s19 _ _ eT1))) (.cons (.int _) (.cons (.int _) .nil)), .tup (.inl (.inl upd_same)) (.cons (.int _) (.cons (.int _) .nil)), okd_tuple (by show 2 ≤ 1000000; decide) (okA_cons trivial (okA_cons trivial okA_nil)), fun H20 s20 => ⟨_, rfl, iteF ?_⟩⟩
  have S20 := s17.trans (s18.trans (s19.trans s20))
  clear pick hdp hal eU he s17 s18 s19 s20 eT1 et1 et2
  -- a word of the step 64
  refine ⟨_, rfl, (by show 0 ≤ sizeLine; omega), fun E nE => ?_⟩
  have S21 := S20.trans (same_new nE (.tup []))
  refine ⟨.tuple (us.map fun n => .int (n : Nat)), .tuple [], .tup (hST S21) (dp_nats us), .tup (.inl (.inl upd_same)) .nil, sh_natsT us, by decide +kernel, _, rfl, ?_⟩
  generalize upd H20 E (.tup []) = H21 at *
  have L21 := L16.same S21
  cases us with
  | nil =>
    have e : (!PyData.eqv (.tuple (([] : List Nat).map fun n => PyData.int (n : Nat))) (.tuple [])) = false := by decide +kernel
    rw [e]
    exact iteF (iteF ⟨_, _, _, _, _, _, _, _, _, _, _, _, _, _, _, _, rfl, L21⟩)
  | cons n0 r =>
    have e : (!PyData.eqv (.tuple ((n0 :: r).map fun n => PyData.int (n : Nat))) (.tuple [])) = true := rfl
    rw [e]
    have hn0 := hub n0 List.mem_cons_self
    have e20 : (n0 : Int) / 20 = ((n0 / 20 : Nat) : Int) := (Int.natCast_ediv n0 20).symm
    refine iteT ⟨_, rfl, T, _, _, _, rfl, rfl, hST S21, at_of (j := 0) rfl rfl, _, _, rfl, rfl, ⟨by decide, by decide⟩, 64, n0 / 20, (by show [V.int 64, V.int ((n0 : Int) / 20)] = _; rw [e20]; rfl), by decide, by decide, by omega, by omega, _, rfl, ?_, 64, rfl, by decide, by decide, fun R H22 s22 nR eR => ?_⟩
    · rw [tx_len, lenN_word]
      have := lenN_hi 64 (n0 / 20)
      have := wide_64 (m := 64) (by decide)
      omega
    refine ⟨_, rfl, T, _, _, _, rfl, rfl, hST (S21.trans s22), at_of (j := 0) rfl rfl, _, _, rfl, rfl, ⟨by decide, by decide⟩, R, 64, n0 / 20, (by show [V.ref R, V.int ((n0 : Int) / 20)] = _; rw [e20]), eR, by decide, by decide, rfl, _, rfl, iteNF ?_ ⟨_, _, _, _, _, _, _, _, _, _, _, _, _, _, _, _, rfl, L21.same s22⟩⟩
    rw [tx_len, lenN_word]
end
end St
namespace St
open PySem PySem.Spec PyProof.Rows L2
theorem all_mk {l : PySem.W.OpenLaw} {w : World} {K : PySem.W.Frag} {h : Heap} {mg : Str → Option Value} {fa : Addr} (X : K.In h) (G : h.Ns mainGlobals mg) (hfa : mg "law" = some (.ref fa))
    {f0 : Addr} {od0 an0 : Option Addr} {sl0 : Array (Option Value)} {oc0 kV0 dc0 pm0 cd0 ct0 : Value}
    (a0 : PySem.W.nsIn K mainGlobals "_law_mix" = some (some (.ref f0))) (l0 : K.lookup f0 = some ⟨oc0, od0, .func (PySem.W.fnOf "_law_mix" "_law_mix" (defArgs s__law_mix) (defBody s__law_mix) (defScope s__law_mix) .none kV0 dc0 pm0 an0 cd0 ct0), sl0⟩) (c0 : PySem.W.codeIn K cd0 "_law_mix" = true) (k0 : PySem.W.keepIn K (.ref f0) = true)
    {f1 : Addr} {od1 an1 : Option Addr} {sl1 : Array (Option Value)} {oc1 kV1 dc1 pm1 cd1 ct1 : Value}
    (a1 : PySem.W.nsIn K mainGlobals "_law_next" = some (some (.ref f1))) (l1 : K.lookup f1 = some ⟨oc1, od1, .func (PySem.W.fnOf "_law_next" "_law_next" (defArgs s__law_next) (defBody s__law_next) (defScope s__law_next) .none kV1 dc1 pm1 an1 cd1 ct1), sl1⟩) (c1 : PySem.W.codeIn K cd1 "_law_next" = true) (k1 : PySem.W.keepIn K (.ref f1) = true)
    {f2 : Addr} {od2 an2 : Option Addr} {sl2 : Array (Option Value)} {oc2 kV2 dc2 pm2 cd2 ct2 : Value}
    (a2 : PySem.W.nsIn K mainGlobals "_law_pick" = some (some (.ref f2))) (l2 : K.lookup f2 = some ⟨oc2, od2, .func (PySem.W.fnOf "_law_pick" "_law_pick" (defArgs s__law_pick) (defBody s__law_pick) (defScope s__law_pick) .none kV2 dc2 pm2 an2 cd2 ct2), sl2⟩) (c2 : PySem.W.codeIn K cd2 "_law_pick" = true) (k2 : PySem.W.keepIn K (.ref f2) = true)
    {f3 : Addr} {od3 an3 : Option Addr} {sl3 : Array (Option Value)} {oc3 kV3 dc3 pm3 cd3 ct3 : Value}
    (a3 : PySem.W.nsIn K mainGlobals "_law_rests" = some (some (.ref f3))) (l3 : K.lookup f3 = some ⟨oc3, od3, .func (PySem.W.fnOf "_law_rests" "_law_rests" (defArgs s__law_rests) (defBody s__law_rests) (defScope s__law_rests) .none kV3 dc3 pm3 an3 cd3 ct3), sl3⟩) (c3 : PySem.W.codeIn K cd3 "_law_rests" = true) (k3 : PySem.W.keepIn K (.ref f3) = true)
    {f4 : Addr} {od4 an4 : Option Addr} {sl4 : Array (Option Value)} {oc4 kV4 dc4 pm4 cd4 ct4 : Value}
    (a4 : PySem.W.nsIn K mainGlobals "is_integer" = some (some (.ref f4))) (l4 : K.lookup f4 = some ⟨oc4, od4, .func (PySem.W.fnOf "is_integer" "is_integer" (defArgs s_is_integer) (defBody s_is_integer) (defScope s_is_integer) .none kV4 dc4 pm4 an4 cd4 ct4), sl4⟩) (c4 : PySem.W.codeIn K cd4 "is_integer" = true) (k4 : PySem.W.keepIn K (.ref f4) = true)
    {f5 : Addr} {od5 an5 : Option Addr} {sl5 : Array (Option Value)} {oc5 kV5 dc5 pm5 cd5 ct5 : Value}
    (a5 : PySem.W.nsIn K mainGlobals "check_step" = some (some (.ref f5))) (l5 : K.lookup f5 = some ⟨oc5, od5, .func (PySem.W.fnOf "check_step" "check_step" (defArgs s_check_step) (defBody s_check_step) (defScope s_check_step) .none kV5 dc5 pm5 an5 cd5 ct5), sl5⟩) (c5 : PySem.W.codeIn K cd5 "check_step" = true) (k5 : PySem.W.keepIn K (.ref f5) = true)
    {f6 : Addr} {od6 an6 : Option Addr} {sl6 : Array (Option Value)} {oc6 kV6 dc6 pm6 cd6 ct6 : Value}
    (a6 : PySem.W.nsIn K mainGlobals "power_of_two" = some (some (.ref f6))) (l6 : K.lookup f6 = some ⟨oc6, od6, .func (PySem.W.fnOf "power_of_two" "power_of_two" (defArgs s_power_of_two) (defBody s_power_of_two) (defScope s_power_of_two) .none kV6 dc6 pm6 an6 cd6 ct6), sl6⟩) (c6 : PySem.W.codeIn K cd6 "power_of_two" = true) (k6 : PySem.W.keepIn K (.ref f6) = true)
    {f7 : Addr} {od7 an7 : Option Addr} {sl7 : Array (Option Value)} {oc7 kV7 dc7 pm7 cd7 ct7 : Value}
    (a7 : PySem.W.nsIn K mainGlobals "wide" = some (some (.ref f7))) (l7 : K.lookup f7 = some ⟨oc7, od7, .func (PySem.W.fnOf "wide" "wide" (defArgs s_wide) (defBody s_wide) (defScope s_wide) .none kV7 dc7 pm7 an7 cd7 ct7), sl7⟩) (c7 : PySem.W.codeIn K cd7 "wide" = true) (k7 : PySem.W.keepIn K (.ref f7) = true)
    {f8 : Addr} {od8 an8 : Option Addr} {sl8 : Array (Option Value)} {oc8 kV8 dc8 pm8 cd8 ct8 : Value}
    (a8 : PySem.W.nsIn K mainGlobals "late_number" = some (some (.ref f8))) (l8 : K.lookup f8 = some ⟨oc8, od8, .func (PySem.W.fnOf "late_number" "late_number" (defArgs s_late_number) (defBody s_late_number) (defScope s_late_number) .none kV8 dc8 pm8 an8 cd8 ct8), sl8⟩) (c8 : PySem.W.codeIn K cd8 "late_number" = true) (k8 : PySem.W.keepIn K (.ref f8) = true)
    {f9 : Addr} {od9 an9 : Option Addr} {sl9 : Array (Option Value)} {oc9 kV9 dc9 pm9 cd9 ct9 : Value}
    (a9 : PySem.W.nsIn K mainGlobals "length_by" = some (some (.ref f9))) (l9 : K.lookup f9 = some ⟨oc9, od9, .func (PySem.W.fnOf "length_by" "length_by" (defArgs s_length_by) (defBody s_length_by) (defScope s_length_by) .none kV9 dc9 pm9 an9 cd9 ct9), sl9⟩) (c9 : PySem.W.codeIn K cd9 "length_by" = true) (k9 : PySem.W.keepIn K (.ref f9) = true)
    {f10 : Addr} {od10 an10 : Option Addr} {sl10 : Array (Option Value)} {oc10 kV10 dc10 pm10 cd10 ct10 : Value}
    (a10 : PySem.W.nsIn K mainGlobals "first_shorter" = some (some (.ref f10))) (l10 : K.lookup f10 = some ⟨oc10, od10, .func (PySem.W.fnOf "first_shorter" "first_shorter" (defArgs s_first_shorter) (defBody s_first_shorter) (defScope s_first_shorter) .none kV10 dc10 pm10 an10 cd10 ct10), sl10⟩) (c10 : PySem.W.codeIn K cd10 "first_shorter" = true) (k10 : PySem.W.keepIn K (.ref f10) = true)
    {f11 : Addr} {od11 an11 : Option Addr} {sl11 : Array (Option Value)} {oc11 kV11 dc11 pm11 cd11 ct11 : Value}
    (a11 : PySem.W.nsIn K mainGlobals "longer_from" = some (some (.ref f11))) (l11 : K.lookup f11 = some ⟨oc11, od11, .func (PySem.W.fnOf "longer_from" "longer_from" (defArgs s_longer_from) (defBody s_longer_from) (defScope s_longer_from) .none kV11 dc11 pm11 an11 cd11 ct11), sl11⟩) (c11 : PySem.W.codeIn K cd11 "longer_from" = true) (k11 : PySem.W.keepIn K (.ref f11) = true)
    {f12 : Addr} {od12 an12 : Option Addr} {sl12 : Array (Option Value)} {oc12 kV12 dc12 pm12 cd12 ct12 : Value}
    (a12 : PySem.W.nsIn K mainGlobals "_law_alike" = some (some (.ref f12))) (l12 : K.lookup f12 = some ⟨oc12, od12, .func (PySem.W.fnOf "_law_alike" "_law_alike" (defArgs s__law_alike) (defBody s__law_alike) (defScope s__law_alike) .none kV12 dc12 pm12 an12 cd12 ct12), sl12⟩) (c12 : PySem.W.codeIn K cd12 "_law_alike" = true) (k12 : PySem.W.keepIn K (.ref f12) = true)
    {f13 : Addr} {od13 an13 : Option Addr} {sl13 : Array (Option Value)} {oc13 kV13 dc13 pm13 cd13 ct13 : Value}
    (a13 : PySem.W.nsIn K mainGlobals "_law_length" = some (some (.ref f13))) (l13 : K.lookup f13 = some ⟨oc13, od13, .func (PySem.W.fnOf "_law_length" "_law_length" (defArgs s__law_length) (defBody s__law_length) (defScope s__law_length) .none kV13 dc13 pm13 an13 cd13 ct13), sl13⟩) (c13 : PySem.W.codeIn K cd13 "_law_length" = true) (k13 : PySem.W.keepIn K (.ref f13) = true)
    {f14 : Addr} {od14 an14 : Option Addr} {sl14 : Array (Option Value)} {oc14 kV14 dc14 pm14 cd14 ct14 : Value}
    (a14 : PySem.W.nsIn K mainGlobals "shortest_step" = some (some (.ref f14))) (l14 : K.lookup f14 = some ⟨oc14, od14, .func (PySem.W.fnOf "shortest_step" "shortest_step" (defArgs s_shortest_step) (defBody s_shortest_step) (defScope s_shortest_step) .none kV14 dc14 pm14 an14 cd14 ct14), sl14⟩) (c14 : PySem.W.codeIn K cd14 "shortest_step" = true) (k14 : PySem.W.keepIn K (.ref f14) = true)
    {f15 : Addr} {od15 an15 : Option Addr} {sl15 : Array (Option Value)} {oc15 kV15 dc15 pm15 cd15 ct15 : Value}
    (a15 : PySem.W.nsIn K mainGlobals "check_number" = some (some (.ref f15))) (l15 : K.lookup f15 = some ⟨oc15, od15, .func (PySem.W.fnOf "check_number" "check_number" (defArgs s_check_number) (defBody s_check_number) (defScope s_check_number) .none kV15 dc15 pm15 an15 cd15 ct15), sl15⟩) (c15 : PySem.W.codeIn K cd15 "check_number" = true) (k15 : PySem.W.keepIn K (.ref f15) = true)
    {f16 : Addr} {od16 an16 : Option Addr} {sl16 : Array (Option Value)} {oc16 kV16 dc16 pm16 cd16 ct16 : Value}
    (a16 : PySem.W.nsIn K mainGlobals "figures" = some (some (.ref f16))) (l16 : K.lookup f16 = some ⟨oc16, od16, .func (PySem.W.fnOf "figures" "figures" (defArgs s_figures) (defBody s_figures) (defScope s_figures) .none kV16 dc16 pm16 an16 cd16 ct16), sl16⟩) (c16 : PySem.W.codeIn K cd16 "figures" = true) (k16 : PySem.W.keepIn K (.ref f16) = true)
    {f17 : Addr} {od17 an17 : Option Addr} {sl17 : Array (Option Value)} {oc17 kV17 dc17 pm17 cd17 ct17 : Value}
    (a17 : PySem.W.nsIn K mainGlobals "rest_word" = some (some (.ref f17))) (l17 : K.lookup f17 = some ⟨oc17, od17, .func (PySem.W.fnOf "rest_word" "rest_word" (defArgs s_rest_word) (defBody s_rest_word) (defScope s_rest_word) .none kV17 dc17 pm17 an17 cd17 ct17), sl17⟩) (c17 : PySem.W.codeIn K cd17 "rest_word" = true) (k17 : PySem.W.keepIn K (.ref f17) = true)
    {f18 : Addr} {od18 an18 : Option Addr} {sl18 : Array (Option Value)} {oc18 kV18 dc18 pm18 cd18 ct18 : Value}
    (a18 : PySem.W.nsIn K mainGlobals "written" = some (some (.ref f18))) (l18 : K.lookup f18 = some ⟨oc18, od18, .func (PySem.W.fnOf "written" "written" (defArgs s_written) (defBody s_written) (defScope s_written) .none kV18 dc18 pm18 an18 cd18 ct18), sl18⟩) (c18 : PySem.W.codeIn K cd18 "written" = true) (k18 : PySem.W.keepIn K (.ref f18) = true)
    {f19 : Addr} {od19 an19 : Option Addr} {sl19 : Array (Option Value)} {oc19 kV19 dc19 pm19 cd19 ct19 : Value}
    (a19 : PySem.W.nsIn K mainGlobals "word" = some (some (.ref f19))) (l19 : K.lookup f19 = some ⟨oc19, od19, .func (PySem.W.fnOf "word" "word" (defArgs s_word) (defBody s_word) (defScope s_word) .none kV19 dc19 pm19 an19 cd19 ct19), sl19⟩) (c19 : PySem.W.codeIn K cd19 "word" = true) (k19 : PySem.W.keepIn K (.ref f19) = true)
    {f20 : Addr} {od20 an20 : Option Addr} {sl20 : Array (Option Value)} {oc20 kV20 dc20 pm20 cd20 ct20 : Value}
    (a20 : PySem.W.nsIn K mainGlobals "law" = some (some (.ref f20))) (l20 : K.lookup f20 = some ⟨oc20, od20, .func (PySem.W.fnOf "law" "law" (defArgs s_law) (defBody s_law) (defScope s_law) .none kV20 dc20 pm20 an20 cd20 ct20), sl20⟩) (c20 : PySem.W.codeIn K cd20 "law" = true) (k20 : PySem.W.keepIn K (.ref f20) = true)
    {tk0 : Tok} (n0 : PySem.W.nsIn K mainGlobals "MOST_STEP" = some (some (.int 64 tk0)))
    {tk1 : Tok} (n1 : PySem.W.nsIn K mainGlobals "MOST_ROW" = some (some (.int 40 tk1)))
    {tk2 : Tok} (n2 : PySem.W.nsIn K mainGlobals "MOST_NUMBER" = some (some (.int 1000000 tk2)))
    {tk3 : Tok} (n3 : PySem.W.nsIn K mainGlobals "MOST_ONES" = some (some (.int 1000 tk3)))
    (z_isinstance : PySem.W.nsIn K mainGlobals "isinstance" = some none)
    (z_int : PySem.W.nsIn K mainGlobals "int" = some none)
    (z_bool : PySem.W.nsIn K mainGlobals "bool" = some none)
    (z_str : PySem.W.nsIn K mainGlobals "str" = some none)
    (z_tuple : PySem.W.nsIn K mainGlobals "tuple" = some none)
    (z_list : PySem.W.nsIn K mainGlobals "list" = some none)
    (z_len : PySem.W.nsIn K mainGlobals "len" = some none)
    (z_range : PySem.W.nsIn K mainGlobals "range" = some none)
    (z_abs : PySem.W.nsIn K mainGlobals "abs" = some none)
    (z_min : PySem.W.nsIn K mainGlobals "min" = some none)
    (z_max : PySem.W.nsIn K mainGlobals "max" = some none)
    (z_sum : PySem.W.nsIn K mainGlobals "sum" = some none)
    (z_sorted : PySem.W.nsIn K mainGlobals "sorted" = some none)
    (z_enumerate : PySem.W.nsIn K mainGlobals "enumerate" = some none)
    (z_zip : PySem.W.nsIn K mainGlobals "zip" = some none)
    (z_set : PySem.W.nsIn K mainGlobals "set" = some none)
    (z_any : PySem.W.nsIn K mainGlobals "any" = some none)
    (z_all : PySem.W.nsIn K mainGlobals "all" = some none)
    : ∃ fd : FuncData, (∀ (s : Shared) (v : Value), BindsTo s fd ⟨[v], []⟩ [("_law_script", v)]) ∧ ∀ base : Heap, K.In base → base.Ns mainGlobals mg → FnOk l.prog w K mg base CX0 6 fa fd ["_law_script"] (sp_law K) := by
  have e := hfa.symm.trans (PySem.W.mg_of X G a20)
  cases e
  have F0 := fun_mk (st := s__law_mix) l0 c0 k0
  have b0 := F0.binds (ps := ["_law_script", "_law_seed"]) fun _ _ _ _ _ _ us hl => match us, hl with | [_, _], _ => rfl
  have A0 : At K mg "_law_mix" s__law_mix ["_law_script", "_law_seed"] := ⟨_, _, F0, PySem.W.mg_of X G a0, b0⟩
  have F1 := fun_mk (st := s__law_next) l1 c1 k1
  have b1 := F1.binds (ps := ["_law_h", "_law_cap"]) fun _ _ _ _ _ _ us hl => match us, hl with | [_, _], _ => rfl
  have A1 : At K mg "_law_next" s__law_next ["_law_h", "_law_cap"] := ⟨_, _, F1, PySem.W.mg_of X G a1, b1⟩
  have F2 := fun_mk (st := s__law_pick) l2 c2 k2
  have b2 := F2.binds (ps := ["_law_h", "_law_things"]) fun _ _ _ _ _ _ us hl => match us, hl with | [_, _], _ => rfl
  have A2 : At K mg "_law_pick" s__law_pick ["_law_h", "_law_things"] := ⟨_, _, F2, PySem.W.mg_of X G a2, b2⟩
  have F3 := fun_mk (st := s__law_rests) l3 c3 k3
  have b3 := F3.binds (ps := ["_law_step"]) fun _ _ _ _ _ _ us hl => match us, hl with | [_], _ => rfl
  have A3 : At K mg "_law_rests" s__law_rests ["_law_step"] := ⟨_, _, F3, PySem.W.mg_of X G a3, b3⟩
  have F4 := fun_mk (st := s_is_integer) l4 c4 k4
  have b4 := F4.binds (ps := ["thing", "low", "high"]) fun _ _ _ _ _ _ us hl => match us, hl with | [_, _, _], _ => rfl
  have A4 : At K mg "is_integer" s_is_integer ["thing", "low", "high"] := ⟨_, _, F4, PySem.W.mg_of X G a4, b4⟩
  have F5 := fun_mk (st := s_check_step) l5 c5 k5
  have b5 := F5.binds (ps := ["thing"]) fun _ _ _ _ _ _ us hl => match us, hl with | [_], _ => rfl
  have A5 : At K mg "check_step" s_check_step ["thing"] := ⟨_, _, F5, PySem.W.mg_of X G a5, b5⟩
  have F6 := fun_mk (st := s_power_of_two) l6 c6 k6
  have b6 := F6.binds (ps := ["times"]) fun _ _ _ _ _ _ us hl => match us, hl with | [_], _ => rfl
  have A6 : At K mg "power_of_two" s_power_of_two ["times"] := ⟨_, _, F6, PySem.W.mg_of X G a6, b6⟩
  have F7 := fun_mk (st := s_wide) l7 c7 k7
  have b7 := F7.binds (ps := ["step"]) fun _ _ _ _ _ _ us hl => match us, hl with | [_], _ => rfl
  have A7 : At K mg "wide" s_wide ["step"] := ⟨_, _, F7, PySem.W.mg_of X G a7, b7⟩
  have F8 := fun_mk (st := s_late_number) l8 c8 k8
  have b8 := F8.binds (ps := ["one", "other"]) fun _ _ _ _ _ _ us hl => match us, hl with | [_, _], _ => rfl
  have A8 : At K mg "late_number" s_late_number ["one", "other"] := ⟨_, _, F8, PySem.W.mg_of X G a8, b8⟩
  have F9 := fun_mk (st := s_length_by) l9 c9 k9
  have b9 := F9.binds (ps := ["step", "number"]) fun _ _ _ _ _ _ us hl => match us, hl with | [_, _], _ => rfl
  have A9 : At K mg "length_by" s_length_by ["step", "number"] := ⟨_, _, F9, PySem.W.mg_of X G a9, b9⟩
  have F10 := fun_mk (st := s_first_shorter) l10 c10 k10
  have b10 := F10.binds (ps := ["one", "other"]) fun _ _ _ _ _ _ us hl => match us, hl with | [_, _], _ => rfl
  have A10 : At K mg "first_shorter" s_first_shorter ["one", "other"] := ⟨_, _, F10, PySem.W.mg_of X G a10, b10⟩
  have F11 := fun_mk (st := s_longer_from) l11 c11 k11
  have b11 := F11.binds (ps := ["one", "other"]) fun _ _ _ _ _ _ us hl => match us, hl with | [_, _], _ => rfl
  have A11 : At K mg "longer_from" s_longer_from ["one", "other"] := ⟨_, _, F11, PySem.W.mg_of X G a11, b11⟩
  have F12 := fun_mk (st := s__law_alike) l12 c12 k12
  have b12 := F12.binds (ps := ["_law_found", "_law_due"]) fun _ _ _ _ _ _ us hl => match us, hl with | [_, _], _ => rfl
  have A12 : At K mg "_law_alike" s__law_alike ["_law_found", "_law_due"] := ⟨_, _, F12, PySem.W.mg_of X G a12, b12⟩
  have F13 := fun_mk (st := s__law_length) l13 c13 k13
  have b13 := F13.binds (ps := ["_law_rests_here", "_law_number"]) fun _ _ _ _ _ _ us hl => match us, hl with | [_, _], _ => rfl
  have A13 : At K mg "_law_length" s__law_length ["_law_rests_here", "_law_number"] := ⟨_, _, F13, PySem.W.mg_of X G a13, b13⟩
  have F14 := fun_mk (st := s_shortest_step) l14 c14 k14
  have b14 := F14.binds (ps := ["numbers"]) fun _ _ _ _ _ _ us hl => match us, hl with | [_], _ => rfl
  have A14 : At K mg "shortest_step" s_shortest_step ["numbers"] := ⟨_, _, F14, PySem.W.mg_of X G a14, b14⟩
  have F15 := fun_mk (st := s_check_number) l15 c15 k15
  have b15 := F15.binds (ps := ["step", "thing"]) fun _ _ _ _ _ _ us hl => match us, hl with | [_, _], _ => rfl
  have A15 : At K mg "check_number" s_check_number ["step", "thing"] := ⟨_, _, F15, PySem.W.mg_of X G a15, b15⟩
  have F16 := fun_mk (st := s_figures) l16 c16 k16
  have b16 := F16.binds (ps := ["number", "many"]) fun _ _ _ _ _ _ us hl => match us, hl with | [_, _], _ => rfl
  have A16 : At K mg "figures" s_figures ["number", "many"] := ⟨_, _, F16, PySem.W.mg_of X G a16, b16⟩
  have F17 := fun_mk (st := s_rest_word) l17 c17 k17
  have b17 := F17.binds (ps := ["step", "rest"]) fun _ _ _ _ _ _ us hl => match us, hl with | [_, _], _ => rfl
  have A17 : At K mg "rest_word" s_rest_word ["step", "rest"] := ⟨_, _, F17, PySem.W.mg_of X G a17, b17⟩
  have F18 := fun_mk (st := s_written) l18 c18 k18
  have b18 := F18.binds (ps := ["step", "number"]) fun _ _ _ _ _ _ us hl => match us, hl with | [_, _], _ => rfl
  have A18 : At K mg "written" s_written ["step", "number"] := ⟨_, _, F18, PySem.W.mg_of X G a18, b18⟩
  have F19 := fun_mk (st := s_word) l19 c19 k19
  have b19 := F19.binds (ps := ["step", "number"]) fun _ _ _ _ _ _ us hl => match us, hl with | [_, _], _ => rfl
  have A19 : At K mg "word" s_word ["step", "number"] := ⟨_, _, F19, PySem.W.mg_of X G a19, b19⟩
  have F20 := fun_mk (st := s_law) l20 c20 k20
  have b20 := F20.binds (ps := ["_law_script"]) fun _ _ _ _ _ _ us hl => match us, hl with | [_], _ => rfl
  have A20 : At K mg "law" s_law ["_law_script"] := ⟨_, _, F20, PySem.W.mg_of X G a20, b20⟩
  have B : Bn mg := ⟨PySem.W.mg_none_of X G z_isinstance, PySem.W.mg_none_of X G z_int, PySem.W.mg_none_of X G z_bool, PySem.W.mg_none_of X G z_str, PySem.W.mg_none_of X G z_tuple, PySem.W.mg_none_of X G z_list, PySem.W.mg_none_of X G z_len, PySem.W.mg_none_of X G z_range, PySem.W.mg_none_of X G z_abs, PySem.W.mg_none_of X G z_min, PySem.W.mg_none_of X G z_max, PySem.W.mg_none_of X G z_sum, PySem.W.mg_none_of X G z_sorted, PySem.W.mg_none_of X G z_enumerate, PySem.W.mg_none_of X G z_zip, PySem.W.mg_none_of X G z_set, PySem.W.mg_none_of X G z_any, PySem.W.mg_none_of X G z_all⟩
  have N0 := PySem.W.mg_of X G n0
  have N1 := PySem.W.mg_of X G n1
  have N2 := PySem.W.mg_of X G n2
  have N3 := PySem.W.mg_of X G n3
  refine ⟨PySem.W.fnOf "law" "law" (defArgs s_law) (defBody s_law) (defScope s_law) .none kV20 dc20 pm20 an20 cd20 ct20, fun s v => .of_eq rfl, fun base _ _ => ?_⟩
  have C0 : CalE l.prog w K mg base "_law_mix" ["_law_script", "_law_seed"] 1 (sp__law_mix K) := ok__law_mix A0 B
  have C1 : CalE l.prog w K mg base "_law_next" ["_law_h", "_law_cap"] 1 (sp__law_next K) := ok__law_next A1 B
  have C2 : CalE l.prog w K mg base "_law_pick" ["_law_h", "_law_things"] 2 (sp__law_pick K) := ok__law_pick A2 B C1
  have C3 : CalE l.prog w K mg base "_law_rests" ["_law_step"] 1 (sp__law_rests K) := ok__law_rests A3 B
  have C4 : CalE l.prog w K mg base "is_integer" ["thing", "low", "high"] 1 (sp_is_integer K) := ok_is_integer A4 B
  have C5 : CalE l.prog w K mg base "check_step" ["thing"] 2 (sp_check_step K) := ok_check_step A5 B C4 ⟨_, N0, _, rfl⟩
  have C6 : CalE l.prog w K mg base "power_of_two" ["times"] 1 (sp_power_of_two K) := ok_power_of_two A6 B
  have C7 : CalE l.prog w K mg base "wide" ["step"] 2 (sp_wide K) := ok_wide A7 B C6
  have C8 : CalE l.prog w K mg base "late_number" ["one", "other"] 3 (sp_late_number K) := ok_late_number A8 B C7
  have C9 : CalE l.prog w K mg base "length_by" ["step", "number"] 3 (sp_length_by K) := ok_length_by A9 B C7 C6
  have C10 : CalE l.prog w K mg base "first_shorter" ["one", "other"] 4 (sp_first_shorter K) := ok_first_shorter A10 B C5 C8 C9
  have C11 : CalE l.prog w K mg base "longer_from" ["one", "other"] 4 (sp_longer_from K) := ok_longer_from A11 B C5 C8 C9
  have C12 : CalE l.prog w K mg base "_law_alike" ["_law_found", "_law_due"] 5 (sp__law_alike K) := ok__law_alike A12 B
  have C13 : CalE l.prog w K mg base "_law_length" ["_law_rests_here", "_law_number"] 1 (sp__law_length K) := ok__law_length A13 B
  have C14 : CalE l.prog w K mg base "shortest_step" ["numbers"] 4 (sp_shortest_step K) := ok_shortest_step A14 B C4 C9 ⟨_, N1, _, rfl⟩ ⟨_, N2, _, rfl⟩ ⟨_, N0, _, rfl⟩
  have C15 : CalE l.prog w K mg base "check_number" ["step", "thing"] 2 (sp_check_number K) := ok_check_number A15 B C4 ⟨_, N2, _, rfl⟩ ⟨_, N3, _, rfl⟩
  have C16 : CalE l.prog w K mg base "figures" ["number", "many"] 1 (sp_figures K) := ok_figures A16 B
  have C17 : CalE l.prog w K mg base "rest_word" ["step", "rest"] 3 (sp_rest_word K) := ok_rest_word A17 B C7 C6 C16
  have C18 : CalE l.prog w K mg base "written" ["step", "number"] 4 (sp_written K) := ok_written A18 B C17
  have C19 : CalE l.prog w K mg base "word" ["step", "number"] 5 (sp_word K) := ok_word A19 B C5 C15 C18
  exact ok_law F20 B C0 C1 C2 C3 C13 C10 C11 C12 C14 C19
end St
open PySem PySem.W PyProof.Rows
set_option maxRecDepth 100000 in
set_option maxHeartbeats 0 in
theorem PySem.Challenge.cw_stepruns_k23_whole_shorter_words_holds : PySem.Challenge.rw_stepruns_k23_whole_shorter_words.Holds := by
  w_on; o_law; k_head; (case hw => w_witness2)
  k_fill
  refine L2.walk_of (l := PySem.Challenge.rw_stepruns_k23_whole_shorter_words) (n := 63) (k := 6) (x := "_law_script") (CX := fun _ => L2.CX0) (sp := fun w => St.sp_law _) rfl (by decide) rfl ⟨rfl, by decide, by decide⟩ (fun w h Y => PySem.W.kIn_of Y) ?F (fun _ _ a ns hl _ hS => ⟨a, ns, rfl, hS, hl, fun _ => rfl⟩) (fun _ _ _ _ _ h => h)
  case F =>
    intro w mg fa h KX G hmg
    refine' St.all_mk KX G hmg ?a0 ?l0 ?c0 ?k0 ?a1 ?l1 ?c1 ?k1 ?a2 ?l2 ?c2 ?k2 ?a3 ?l3 ?c3 ?k3 ?a4 ?l4 ?c4 ?k4 ?a5 ?l5 ?c5 ?k5 ?a6 ?l6 ?c6 ?k6 ?a7 ?l7 ?c7 ?k7 ?a8 ?l8 ?c8 ?k8 ?a9 ?l9 ?c9 ?k9 ?a10 ?l10 ?c10 ?k10 ?a11 ?l11 ?c11 ?k11 ?a12 ?l12 ?c12 ?k12 ?a13 ?l13 ?c13 ?k13 ?a14 ?l14 ?c14 ?k14 ?a15 ?l15 ?c15 ?k15 ?a16 ?l16 ?c16 ?k16 ?a17 ?l17 ?c17 ?k17 ?a18 ?l18 ?c18 ?k18 ?a19 ?l19 ?c19 ?k19 ?a20 ?l20 ?c20 ?k20 ?n0 ?n1 ?n2 ?n3 ?z_isinstance ?z_int ?z_bool ?z_str ?z_tuple ?z_list ?z_len ?z_range ?z_abs ?z_min ?z_max ?z_sum ?z_sorted ?z_enumerate ?z_zip ?z_set ?z_any ?z_all
    (case a0 => k_is)
    (case l0 => k_is)
    (case c0 => k_is)
    (case k0 => k_is)
    (case a1 => k_is)
    (case l1 => k_is)
    (case c1 => k_is)
    (case k1 => k_is)
    (case a2 => k_is)
    (case l2 => k_is)
    (case c2 => k_is)
    (case k2 => k_is)
    (case a3 => k_is)
    (case l3 => k_is)
    (case c3 => k_is)
    (case k3 => k_is)
    (case a4 => k_is)
    (case l4 => k_is)
    (case c4 => k_is)
    (case k4 => k_is)
    (case a5 => k_is)
    (case l5 => k_is)
    (case c5 => k_is)
    (case k5 => k_is)
    (case a6 => k_is)
    (case l6 => k_is)
    (case c6 => k_is)
    (case k6 => k_is)
    (case a7 => k_is)
    (case l7 => k_is)
    (case c7 => k_is)
    (case k7 => k_is)
    (case a8 => k_is)
    (case l8 => k_is)
    (case c8 => k_is)
    (case k8 => k_is)
    (case a9 => k_is)
    (case l9 => k_is)
    (case c9 => k_is)
    (case k9 => k_is)
    (case a10 => k_is)
    (case l10 => k_is)
    (case c10 => k_is)
    (case k10 => k_is)
    (case a11 => k_is)
    (case l11 => k_is)
    (case c11 => k_is)
    (case k11 => k_is)
    (case a12 => k_is)
    (case l12 => k_is)
    (case c12 => k_is)
    (case k12 => k_is)
    (case a13 => k_is)
    (case l13 => k_is)
    (case c13 => k_is)
    (case k13 => k_is)
    (case a14 => k_is)
    (case l14 => k_is)
    (case c14 => k_is)
    (case k14 => k_is)
    (case a15 => k_is)
    (case l15 => k_is)
    (case c15 => k_is)
    (case k15 => k_is)
    (case a16 => k_is)
    (case l16 => k_is)
    (case c16 => k_is)
    (case k16 => k_is)
    (case a17 => k_is)
    (case l17 => k_is)
    (case c17 => k_is)
    (case k17 => k_is)
    (case a18 => k_is)
    (case l18 => k_is)
    (case c18 => k_is)
    (case k18 => k_is)
    (case a19 => k_is)
    (case l19 => k_is)
    (case c19 => k_is)
    (case k19 => k_is)
    (case a20 => k_is)
    (case l20 => k_is)
    (case c20 => k_is)
    (case k20 => k_is)
    (case n0 => k_is)
    (case n1 => k_is)
    (case n2 => k_is)
    (case n3 => k_is)
    (case z_isinstance => k_is)
    (case z_int => k_is)
    (case z_bool => k_is)
    (case z_str => k_is)
    (case z_tuple => k_is)
    (case z_list => k_is)
    (case z_len => k_is)
    (case z_range => k_is)
    (case z_abs => k_is)
    (case z_min => k_is)
    (case z_max => k_is)
    (case z_sum => k_is)
    (case z_sorted => k_is)
    (case z_enumerate => k_is)
    (case z_zip => k_is)
    (case z_set => k_is)
    (case z_any => k_is)
    (case z_all => k_is)
#print axioms PySem.Challenge.cw_stepruns_k23_whole_shorter_words_holds
