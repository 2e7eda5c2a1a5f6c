import PyProof.Rows.All
import Wide.All
import OpenK.AllK
import Wide.FinOn
import HandS.ForMost
import HandS.ForExc
import HandS.Wide
import HandS.WideBits
import HandS.IsInst
import HandS.Codes
import HandS.TupAny
import HandS.TupLen
import HandS.Style
import PySem.Challenge.RW_stepruns_k03_whole_best_steps
set_option Elab.async false
set_option linter.all false
set_option maxRecDepth 100000
set_option maxHeartbeats 4000000
namespace St
open PySem PySem.Spec PyProof.Rows L2
/-! ### names that are still the built-ins -/
structure Bn (mg : Str → Option Value) : Prop where
  isinstance_ : mg "isinstance" = none
  int_ : mg "int" = none
  bool_ : mg "bool" = none
  str_ : mg "str" = none
  tuple_ : mg "tuple" = none
  list_ : mg "list" = none
  len_ : mg "len" = none
  range_ : mg "range" = none
  abs_ : mg "abs" = none
  min_ : mg "min" = none
  max_ : mg "max" = none
  sum_ : mg "sum" = none
  sorted_ : mg "sorted" = none
  enumerate_ : mg "enumerate" = none
  zip_ : mg "zip" = none
  set_ : mg "set" = none
  any_ : mg "any" = none
  all_ : mg "all" = none
/-- the def st stands as x -/
def At (K : PySem.W.Frag) (mg : Str → Option Value) (x : Str) (st : Stmt) (ps : List Str) : Prop :=
  ∃ f fd, Fun K x x st f fd ∧ mg x = some (.ref f) ∧ Binds K fd ps []
/-- a def that keeps its promise, ready to be called by its name -/
structure Cal (P : Program) (w : World) (K : PySem.W.Frag) (mg : Str → Option Value) (base : Heap) (x : Str) (ps : List Str) (k : Nat) (sp : Sp) (f : Addr) (fd : FuncData) : Prop where
  ok : FnOk P w K mg base CX0 k f fd ps sp
  g : mg x = some (.ref f)
  kp : PySem.W.keepIn K (.ref f) = true
  b : Binds K fd ps []
def CalE (P : Program) (w : World) (K : PySem.W.Frag) (mg : Str → Option Value) (base : Heap) (x : Str) (ps : List Str) (k : Nat) (sp : Sp) : Prop := ∃ f fd, Cal P w K mg base x ps k sp f fd
/-! ### heaps -/
theorem same_new {H : Hp} {p : Addr} (h : H p = none) (o : HO) : Same H (upd H p o) := fun b u q => by rw [upd_ne (ne_of_none q h)]; exact q
theorem Same.seqT {K : PySem.W.Frag} {H H' : Hp} {a : Addr} {xs : List V} (e : Same H H') (h : SqT K H a xs) : SqT K H' a xs := by
  rcases h with (h | ⟨o, h⟩) | h
  · exact .inl (.inl (e _ _ h))
  · exact .inl (.inr ⟨o, e _ _ h⟩)
  · exact .inr h
theorem tyL {K : PySem.W.Frag} {H : Hp} {a : Addr} {xs : List V} (h : SqL K H a xs) : TyX K H (.ref a) (.type "list") := by
  rcases h with (h | ⟨o, h⟩) | ⟨o, its, n, h, c, _⟩
  · exact .base (.lst h)
  · exact .base (.frz h)
  · exact .kList h c
theorem tyT {K : PySem.W.Frag} {H : Hp} {a : Addr} {xs : List V} (h : SqT K H a xs) : TyX K H (.ref a) (.type "tuple") := by
  rcases h with (h | ⟨o, h⟩) | ⟨o, its, n, h, c, _⟩
  · exact .base (.tup h)
  · exact .fTuple h
  · exact .kTuple h c
theorem SqL.new {K : PySem.W.Frag} {H : Hp} {p : Addr} {xs : List V} : SqL K (upd H p (.lst xs)) p xs := .inl (.inl upd_same)
theorem SqT.new {K : PySem.W.Frag} {H : Hp} {p : Addr} {xs : List V} : SqT K (upd H p (.tup xs)) p xs := .inl (.inl upd_same)
theorem ne_new {H : Hp} {a p : Addr} {o : HO} (h : H a = some o) (hp : H p = none) : p ≠ a := fun e => by rw [e, h] at hp; cases hp
theorem iteDT {p : Prop} [Decidable p] {A B : Prop} (h : p) (a : A) : if decide p = true then A else B := by
  rw [decide_eq_true h]
  exact iteT a
theorem iteDF {p : Prop} [Decidable p] {A B : Prop} (h : ¬ p) (b : B) : if decide p = true then A else B := by
  rw [decide_eq_false h]
  exact iteF b
theorem iteND {p : Prop} [Decidable p] {A B : Prop} (h : ¬ p) (a : A) : if (!decide p) = true then A else B := by
  rw [decide_eq_false h]
  exact iteT a
/-! ### a text times a number -/
def repS (x : Str) (n : Nat) : Str := ⟨((List.replicate n x.cps.toList).flatten).toArray⟩
theorem repS_one (x : Str) : repS x 1 = x := by
  unfold repS
  simp
theorem fold_app (l : List (Array Nat)) (a : Array Nat) : (l.foldl (· ++ ·) a).toList = a.toList ++ (l.map Array.toList).flatten := by
  induction l generalizing a with
  | nil => simp
  | cons x r ih => simp [List.foldl_cons, ih, List.append_assoc]
section
variable {X : Cx}
theorem op_mul_str : OpR X (binaryOp .Mult) (fun x y H Q => ∃ z n, x = .str z ∧ y = .int n ∧ n < 2 ^ 62 ∧ -(2 ^ 62) < n ∧ z.length * n.toNat ≤ 1000000 ∧ Q (.str (repS z n.toNat)) H) := by
  intro pins s σ H x y v u Q I rx ry h
  obtain ⟨z, n, rfl, rfl, h1, h2, h3, q⟩ := h
  obtain ⟨t, rfl⟩ := rx
  obtain ⟨t', rfl⟩ := ry
  refine P.mul_str (by
    have a : ¬ n < -(2 ^ 63) := by omega
    have b : ¬ n ≥ 2 ^ 63 := by omega
    rw [decide_eq_false a, decide_eq_false b]; rfl) (fun hn _ hb => ?_) (fun hn _ => ?_) ?_
  · have hp : 0 < n := by omega
    have e1 : (z.length : Int) * n ≤ 1000000 := by
      have e0 : ((n.toNat : Nat) : Int) = n := Int.toNat_of_nonneg (by omega)
      have e4 : ((z.length * n.toNat : Nat) : Int) ≤ 1000000 := Int.ofNat_le.mpr h3
      rw [Int.natCast_mul, e0] at e4
      exact e4
    have e2 : (2 ^ 63 - 1) / n < (z.length : Int) := hb
    have e3 : (2 ^ 63 - 1 : Int) < z.length * n := (Int.ediv_lt_iff_lt_mul hp).mp e2
    generalize (z.length : Int) * n = w at e1 e3
    omega
  · refine decide_eq_false ?_
    have z : sizeLine = 16777216 := sizeLine_eq
    omega
  · by_cases hn : n < 1
    · rw [if_pos hn]
      refine ⟨by decide, ?_⟩
      have e : n.toNat = 0 := by omega
      rw [e] at q
      exact ⟨.str _, H, I.tok _, ⟨_, rfl⟩, q⟩
    · rw [if_neg hn]
      by_cases hm : (n == 1 || z.length == 0) = true
      · rw [if_pos hm]
        have e : repS z n.toNat = z := by
          rw [Bool.or_eq_true] at hm
          rcases hm with hm | hm
          · have : n = 1 := by simpa using hm
            subst this
            exact repS_one z
          · have hz : z.cps.size = 0 := by simpa [Str.length] using hm
            obtain ⟨c⟩ := z
            have : c = #[] := Array.eq_empty_of_size_eq_zero hz
            subst this
            unfold repS
            simp
        rw [e] at q
        exact ⟨.str _, H, I, ⟨_, rfl⟩, q⟩
      · rw [if_neg hm]
        have e : (⟨(List.replicate n.toNat z.cps).foldl (· ++ ·) #[]⟩ : Str) = repS z n.toNat := by
          unfold repS
          congr 1
          apply Array.toList_inj.mp
          rw [fold_app]
          simp [List.map_replicate]
        rw [e]
        refine ⟨?_, ⟨.str _, H, I.tok _, ⟨_, rfl⟩, q⟩⟩
        rw [← e]
        refine fits_reps (decide_eq_false ?_)
        have z : sizeLine = 16777216 := sizeLine_eq
        omega
theorem ip_add_str : PIp X .Add (fun x y H Q => ∃ i j, x = .str i ∧ y = .str j ∧ i.length + j.length ≤ sizeLine ∧ Q (.str (i ++ j)) H) := iop_add_str
end
/-! ### the rules with the written part K by name (within a comprehension X.K is not read off) -/
section
variable {X : Cx} (K : PySem.W.Frag)
theorem ix_list_ (h : X.K = K := by rfl) : IxR X (rIxL K) := h ▸ ix_list
theorem ix_tup_ (h : X.K = K := by rfl) : IxR X (rIxT K) := h ▸ ix_tup
theorem ix_seq_ (h : X.K = K := by rfl) : IxR X (rIx K) := h ▸ ix_seq
theorem sl_list_ (h : X.K = K := by rfl) : SlR X (rSlL K) := h ▸ sl_list
theorem sl_tupA_ (h : X.K = K := by rfl) : SlR X (rSlA K) := h ▸ sl_tupA
def rLenV (K : PySem.W.Frag) : List V → Hp → VK → Prop := fun xs H Q => ∃ x n, xs = [x] ∧ LenV K x H n ∧ Q (.int (n : Nat)) H
theorem call_len_ (h : X.K = K := by rfl) : CallR X (.builtin "len") (rLenV K) := h ▸ call_len
def rLenQ (K : PySem.W.Frag) : List V → Hp → VK → Prop := fun xs H Q => ∃ p ys, xs = [.ref p] ∧ (SqL K H p ys ∨ SqT K H p ys) ∧ Q (.int ys.length) H
theorem call_len_seq_ (h : X.K = K := by rfl) : CallR X (.builtin "len") (rLenQ K) := h ▸ call_len_seq
def rLenS : List V → Hp → VK → Prop := fun xs H Q => ∃ z, xs = [.str z] ∧ z.length ≤ sizeLine ∧ Q (.int z.length) H
theorem call_len_str_ : CallR X (.builtin "len") rLenS := call_len_str
theorem call_isi_ (h : X.K = K := by rfl) : CallR X (.builtin "isinstance") (rIsi K) := h ▸ call_isi
theorem call_isiT_ (h : X.K = K := by rfl) : CallR X (.builtin "isinstance") (rIsiT K) := h ▸ call_isiT
theorem cr_sum_ (hc : X.calm = true) (h : X.K = K := by rfl) : CallR X (.builtin "sum") (rSum K) := h ▸ cr_sum hc
theorem cr_max_ (hc : X.calm = true) (h : X.K = K := by rfl) : CallR X (.builtin "max") (rMax K) := h ▸ cr_max hc
theorem cr_min_ (hc : X.calm = true) (h : X.K = K := by rfl) : CallR X (.builtin "min") (rMin K) := h ▸ cr_min hc
theorem cr_all_ (hc : X.calm = true) (h : X.K = K := by rfl) : CallR X (.builtin "all") (rAll K) := h ▸ cr_all hc
theorem cr_any_ (hc : X.calm = true) (h : X.K = K := by rfl) : CallR X (.builtin "any") (rAny K) := h ▸ cr_any hc
def rTupOf (K : PySem.W.Frag) : List V → Hp → VK → Prop := fun xs H Q => ∃ p ys, xs = [.ref p] ∧ ((SqL K H p ys ∧ ∀ l, H l = none → Q (.ref l) (upd H l (.tup ys))) ∨ (SqT K H p ys ∧ Q (.ref p) H))
theorem call_tuple_of_ (h : X.K = K := by rfl) : CallR X (.type "tuple") (rTupOf K) := h ▸ call_tuple_of
def rListOf (K : PySem.W.Frag) : List V → Hp → VK → Prop := fun xs H Q => ∃ p ys, xs = [.ref p] ∧ (SqL K H p ys ∨ SqT K H p ys) ∧ ∀ l, H l = none → Q (.ref l) (upd H l (.lst ys))
theorem call_list_of_ (h : X.K = K := by rfl) : CallR X (.type "list") (rListOf K) := h ▸ call_list_of
theorem op_eqD_ (hu : X.A.units + 64 < cLine) (h : X.K = K := by rfl) : OpR X (compareOp .Eq) (rEqD K) := h ▸ op_eqD hu
theorem op_neD_ (hu : X.A.units + 64 < cLine) (h : X.K = K := by rfl) : OpR X (compareOp .NotEq) (rNeD K) := h ▸ op_neD hu
theorem op_in_seq_ (h : X.K = K := by rfl) : OpR X (compareOp .In) (rIn K false) := h ▸ op_in_seq
theorem op_notIn_seq_ (h : X.K = K := by rfl) : OpR X (compareOp .NotIn) (rIn K true) := h ▸ op_notIn_seq
theorem op_catA_ (h : X.K = K := by rfl) : OpR X (binaryOp .Add) (rCatA K) := h ▸ op_catA
end
/-! ### what the law's own draws keep -/
/-- a source of draws: at h a list of a number, a list of numbers at q, a number -/
structure LawH (H : Hp) (h q : Addr) : Prop where
  ne : h ≠ q
  src : ∃ (st ix : Int) (cells : List Int), H h = some (.lst [.int st, .ref q, .int ix]) ∧ H q = some (.lst (cells.map V.int)) ∧ cells.length ≤ 1000
/-- all but the source stands as it was -/
def Sm (h q : Addr) (H H' : Hp) : Prop := ∀ b o, H b = some o → b ≠ h → b ≠ q → H' b = some o
theorem Sm.refl (h q : Addr) (H : Hp) : Sm h q H H := fun _ _ e _ _ => e
theorem Sm.trans {h q : Addr} {H H1 H2 : Hp} (a : Sm h q H H1) (b : Sm h q H1 H2) : Sm h q H H2 := fun c o e n m => b c o (a c o e n m) n m
theorem Sm.of {h q : Addr} {H H' : Hp} (a : Same H H') : Sm h q H H' := fun c o e _ _ => a c o e
theorem Sm.seq {K : PySem.W.Frag} {h q : Addr} {H H' : Hp} {a : Addr} {xs : List V} (e : Sm h q H H') (n1 : a ≠ h) (n2 : a ≠ q) (z : SqL K H a xs) : SqL K H' a xs := by
  rcases z with (z | ⟨o, z⟩) | z
  · exact .inl (.inl (e _ _ z n1 n2))
  · exact .inl (.inr ⟨o, e _ _ z n1 n2⟩)
  · exact .inr z
theorem Sm.seqT {K : PySem.W.Frag} {h q : Addr} {H H' : Hp} {a : Addr} {xs : List V} (e : Sm h q H H') (n1 : a ≠ h) (n2 : a ≠ q) (z : SqT K H a xs) : SqT K H' a xs := by
  rcases z with (z | ⟨o, z⟩) | z
  · exact .inl (.inl (e _ _ z n1 n2))
  · exact .inl (.inr ⟨o, e _ _ z n1 n2⟩)
  · exact .inr z
theorem LawH.same {H H' : Hp} {h q : Addr} (L : LawH H h q) (a : Same H H') : LawH H' h q := by
  obtain ⟨n, st, ix, cells, e1, e2, e3⟩ := L
  exact ⟨n, st, ix, cells, a _ _ e1, a _ _ e2, e3⟩
end St
namespace St
open PySem PySem.Spec PyProof.Rows L2
/-! ### fractions: a tuple (number, parts) in lowest terms stands for a Rat -/
def RatAt (K : PySem.W.Frag) (H : Hp) (a : Addr) (r : Rat) : Prop := SqT K H a [.int r.num, .int (r.den : Int)]
theorem RatAt.same {K : PySem.W.Frag} {H H' : Hp} {a : Addr} {r : Rat} (s : Same H H') (h : RatAt K H a r) : RatAt K H' a r := Same.seqT s h
theorem frac_num {n d : Int} (hd : 0 < d) : (Rat.divInt n d).num = n / (Int.gcd n d : Int) := by
  rw [Rat.num_divInt, Int.sign_eq_one_of_pos hd, Int.one_mul, Int.gcd_comm]
theorem frac_den {n d : Int} (hd : 0 < d) : ((Rat.divInt n d).den : Int) = d / (Int.gcd n d : Int) := by
  have h0 : d ≠ 0 := Int.ne_of_gt hd
  rw [Rat.den_divInt, if_neg h0, Int.natCast_ediv, Int.gcd_comm]
  congr 1
  omega
theorem rat_eq (r : Rat) : r = (r.num : Rat) / ((r.den : Int) : Rat) := by
  rw [← Rat.divInt_eq_div, Rat.num_divInt_den]
theorem den_pos (r : Rat) : (0 : Int) < (r.den : Int) := Int.ofNat_lt.mpr r.den_pos
theorem den_ne (r : Rat) : (r.den : Int) ≠ 0 := Int.ne_of_gt (den_pos r)
theorem rat_add (r s : Rat) : Rat.divInt (r.num * s.den + s.num * r.den) (r.den * s.den) = r + s := by
  rw [← Rat.divInt_add_divInt _ _ (den_ne r) (den_ne s), Rat.num_divInt_den, Rat.num_divInt_den]
theorem rat_sub (r s : Rat) : Rat.divInt (r.num * s.den - s.num * r.den) (r.den * s.den) = r - s := by
  rw [← Rat.divInt_sub_divInt _ _ (den_ne r) (den_ne s), Rat.num_divInt_den, Rat.num_divInt_den]
theorem rat_mul (r s : Rat) : Rat.divInt (r.num * s.num) (r.den * s.den) = r * s := by
  rw [← Rat.divInt_mul_divInt, Rat.num_divInt_den, Rat.num_divInt_den]
theorem cast_ne {z : Int} (h : z ≠ 0) : (z : Rat) ≠ 0 := fun e => h (Rat.intCast_inj.mp (by rw [e]; rfl))
theorem rat_quot (r s : Rat) (h : s.num ≠ 0) : Rat.divInt (r.num * s.den) (r.den * s.num) = r / s := by
  have h1 := cast_ne (den_ne r)
  have h2 := cast_ne (den_ne s)
  have h3 := cast_ne h
  have e1 := rat_eq r
  have e2 := rat_eq s
  rw [Rat.divInt_eq_div, Rat.intCast_mul, Rat.intCast_mul]
  generalize (r.num : Rat) = a at *
  generalize ((r.den : Int) : Rat) = b at *
  generalize (s.num : Rat) = c at *
  generalize ((s.den : Int) : Rat) = d at *
  rw [e1, e2]
  grind
theorem rat_sum_le (r s : Rat) : (r.num * s.den + s.num * r.den ≤ r.den * s.den) ↔ r + s ≤ 1 := by
  have hp : (0 : Int) < r.den * s.den := Int.mul_pos (den_pos r) (den_pos s)
  have h1 : (0 : Rat) < ((r.den * s.den : Int) : Rat) := by
    have := Rat.intCast_lt_intCast.mpr hp
    simpa using this
  have e : 1 < r + s ↔ r.den * s.den < r.num * s.den + s.num * r.den := by
    rw [← rat_add r s, Rat.divInt_eq_div, Rat.lt_div_iff h1, Rat.one_mul, Rat.intCast_lt_intCast]
  constructor
  · intro h
    refine Rat.not_lt.mp fun z => ?_
    have := e.mp z
    omega
  · intro h
    refine Int.not_lt.mp fun z => ?_
    exact Rat.not_lt.mpr h (e.mpr z)
/-- how many figures of twos a fraction has at most -/
def Bd (r : Rat) (b : Nat) : Prop := r.num.natAbs < 2 ^ b ∧ r.den < 2 ^ b
theorem Bd.mono {r : Rat} {b c : Nat} (h : Bd r b) (hbc : b ≤ c) : Bd r c :=
  ⟨Nat.lt_of_lt_of_le h.1 (Nat.pow_le_pow_right (by decide) hbc), Nat.lt_of_lt_of_le h.2 (Nat.pow_le_pow_right (by decide) hbc)⟩
theorem Bd.frac {n d : Int} {b : Nat} (hd : 0 < d) (hn : n.natAbs < 2 ^ b) (h : d.natAbs < 2 ^ b) : Bd (Rat.divInt n d) b := by
  have e1 := frac_num (n := n) hd
  have e2 := frac_den (n := n) hd
  constructor
  · rw [e1]
    refine Nat.lt_of_le_of_lt ?_ hn
    rw [Int.natAbs_ediv_of_dvd (Int.gcd_dvd_left ..)]
    exact Nat.div_le_self _ _
  · have e3 : (Rat.divInt n d).den = (d / (Int.gcd n d : Int)).natAbs := by
      have := congrArg Int.natAbs e2
      simpa using this
    rw [e3, Int.natAbs_ediv_of_dvd (Int.gcd_dvd_right ..)]
    exact Nat.lt_of_le_of_lt (Nat.div_le_self _ _) h
theorem bd_mul {x y : Int} {b c : Nat} (h : x.natAbs < 2 ^ b) (h' : y.natAbs < 2 ^ c) : (x * y).natAbs < 2 ^ (b + c) := wide_lt h h'
theorem bd_add {x y : Int} {b : Nat} (h : x.natAbs < 2 ^ b) (h' : y.natAbs < 2 ^ b) : (x + y).natAbs < 2 ^ (b + 1) := by
  rw [Nat.pow_succ]
  omega
theorem bd_sub {x y : Int} {b : Nat} (h : x.natAbs < 2 ^ b) (h' : y.natAbs < 2 ^ b) : (x - y).natAbs < 2 ^ (b + 1) := by
  rw [Nat.pow_succ]
  omega
theorem bd_up {x : Int} {b c : Nat} (h : x.natAbs < 2 ^ b) (hbc : b ≤ c) : x.natAbs < 2 ^ c := Nat.lt_of_lt_of_le h (Nat.pow_le_pow_right (by decide) hbc)
theorem bd_den {r : Rat} {b : Nat} (h : Bd r b) : ((r.den : Int)).natAbs < 2 ^ b := by
  rw [Int.natAbs_natCast]
  exact h.2
theorem bd_w {x y : Int} {b c : Nat} (h : x.natAbs < 2 ^ b) (h' : y.natAbs < 2 ^ c) (h2 : b + c ≤ 900000) : CMulW x y :=
  wide_mul (a := b + 1) (b := c + 1) (bd_up h (by omega)) (bd_up h' (by omega)) (by omega) (by omega) (by omega)
theorem Bd.add {r s : Rat} {b c : Nat} (h : Bd r b) (h' : Bd s c) : Bd (r + s) (b + c + 1) := by
  rw [← rat_add r s]
  refine Bd.frac (Int.mul_pos (den_pos r) (den_pos s)) (bd_add (bd_mul h.1 (bd_den h')) (bd_up (bd_mul h'.1 (bd_den h)) (by omega))) (bd_up (bd_mul (bd_den h) (bd_den h')) (by omega))
theorem Bd.sub {r s : Rat} {b c : Nat} (h : Bd r b) (h' : Bd s c) : Bd (r - s) (b + c + 1) := by
  rw [← rat_sub r s]
  refine Bd.frac (Int.mul_pos (den_pos r) (den_pos s)) (bd_sub (bd_mul h.1 (bd_den h')) (bd_up (bd_mul h'.1 (bd_den h)) (by omega))) (bd_up (bd_mul (bd_den h) (bd_den h')) (by omega))
theorem Bd.mul {r s : Rat} {b c : Nat} (h : Bd r b) (h' : Bd s c) : Bd (r * s) (b + c) := by
  rw [← rat_mul r s]
  exact Bd.frac (Int.mul_pos (den_pos r) (den_pos s)) (bd_mul h.1 h'.1) (bd_mul (bd_den h) (bd_den h'))
theorem num_pos {r : Rat} (h : 0 < r) : 0 < r.num := by
  have := (Rat.lt_iff 0 r).mp h
  simpa using this
theorem Bd.quot {r s : Rat} {b c : Nat} (h : Bd r b) (h' : Bd s c) (hs : 0 < s) : Bd (r / s) (b + c) := by
  rw [← rat_quot r s (Int.ne_of_gt (num_pos hs))]
  exact Bd.frac (Int.mul_pos (den_pos r) (num_pos hs)) (bd_mul h.1 (bd_den h')) (bd_mul (bd_den h) h'.1)
/-- a ratio p / q of the document -/
structure IsRat (p q : Nat) : Prop where
  p1 : 1 ≤ p
  pq : p < q
  q30 : q ≤ 30
def rat (p q : Nat) : Rat := (p : Int) / (q : Int)
theorem rat_pow (p q : Nat) (h : 0 < q) (t : Nat) : Rat.divInt ((p : Int) ^ t) ((q : Int) ^ t) = rat p q ^ t := by
  have hq : (0 : Rat) < ((q : Int) : Rat) := Rat.intCast_pos.mpr (by omega)
  rw [Rat.divInt_eq_div, Rat.intCast_pow, Rat.intCast_pow]
  unfold rat
  generalize ((p : Int) : Rat) = a at *
  generalize ((q : Int) : Rat) = b at *
  have hb0 : b ≠ 0 := Rat.ne_of_gt hq
  induction t with
  | zero =>
    simp only [Rat.pow_zero]
    grind
  | succ t ih =>
    have hb : b ^ t ≠ 0 := Rat.ne_of_gt (Rat.pow_pos hq)
    rw [Rat.pow_succ, Rat.pow_succ, Rat.pow_succ, ← ih]
    grind
theorem pow_small {p t : Nat} (h : p ≤ 30) : ((p : Int) ^ t).natAbs < 2 ^ (5 * t + 1) := by
  rw [Int.natAbs_pow, Int.natAbs_natCast]
  refine Nat.lt_of_le_of_lt (Nat.pow_le_pow_left (show p ≤ 2 ^ 5 by omega) t) ?_
  rw [← Nat.pow_mul]
  exact Nat.pow_lt_pow_right (by decide) (by omega)
theorem Bd.pow {p q : Nat} (hp : p ≤ 30) (hq : q ≤ 30) (h : 0 < q) (t : Nat) : Bd (rat p q ^ t) (5 * t + 1) := by
  rw [← rat_pow p q h t]
  exact Bd.frac (Int.pow_pos (by omega)) (pow_small hp) (pow_small hq)
def FitsR (x : Rat) (s : Nat) : Prop := x ^ s + x ^ (s + 1) ≤ 1
instance (x : Rat) (s : Nat) : Decidable (FitsR x s) := by unfold FitsR; infer_instance
end St
namespace St
open PySem PySem.Spec PyProof.Rows L2
def topS (i : Nat) : Stmt := PySem.Challenge.pw_stepruns_k03_whole_best_steps.main.body.getD i (.Pass ⟨0, 0, 0, 0⟩)

abbrev s__law_mix : Stmt := topS 12
theorem sc__law_mix : FnScope ["_law_script", "_law_seed", "_law_state", "_law_cell"] ["_law_script", "_law_seed"] (defScope s__law_mix) := ⟨rfl, rfl, rfl, by decide +kernel, rfl, by decide +kernel, by decide +kernel⟩
def sp__law_mix (K : PySem.W.Frag) : Sp := fun vs H Q _ => ∃ (a : Addr) (ns : List Int) (sd : Int), vs = [.ref a, .int sd] ∧ SqL K H a (ns.map V.int) ∧ ns.length ≤ 63 ∧
  ∀ (h q : Addr) (H' : Hp), Same H H' → H h = none → H q = none → LawH H' h q → Q (.ref h) H'
section
variable {P : Program} {w : World} {K : PySem.W.Frag} {mg : Str → Option Value} {base : Heap}
theorem ok__law_mix (A : At K mg "_law_mix" s__law_mix ["_law_script", "_law_seed"]) (B : Bn mg) : CalE P w K mg base "_law_mix" ["_law_script", "_law_seed"] 1 (sp__law_mix K) := by
  obtain ⟨f, fd, F, gF, bF⟩ := A
  refine ⟨f, fd, F.ok sc__law_mix (fun vs H Q E h => ?_) (fun cdv A outer s H vs Q E hr h => ?_), gF, F.kp, bF⟩
  · repeat (first | (obtain ⟨rfl, _⟩ := h; rfl) | (obtain ⟨_, h⟩ := h))
  · obtain ⟨a, ns, sd, rfl, hS, hl, q⟩ := h
    refine ⟨_, (pss_cons (ps_set (i := 2) sc__law_mix.nd rfl (.inl rfl) (pv 1))
      (pss_cons (ps_for PassesOwn.never rfl (pi_list (pv 0)) (pg_name (i := 3) sc__law_mix.nd rfl (.inl rfl))
      (pss_one (ps_set (i := 2) sc__law_mix.nd rfl (.inl rfl) (pe_op op_mod (pe_callTy call_int1 (by rfl) B.int_ (by decide +kernel) (pa_cons (pe_op op_add (pe_op op_add (pe_op op_mul (pv 2) pe_int) (pe_op op_mod (pe_callTy call_int1 (by rfl) B.int_ (by decide +kernel) (pa_cons (pv 3) pa_nil)) pe_int)) pe_int) pa_nil)) pe_int))))
      (pss_one (ps_ret (pe_lst (pa_cons (pv 2) (pa_cons (pe_callTy (call_list_of_ K) (by rfl) B.list_ (by decide +kernel) (pa_cons (pv 0) pa_nil)) (pa_cons pe_int pa_nil)))))))), ?_⟩
    -- _law_state = _law_seed
    refine ⟨_, rfl, ?_⟩
    refine ⟨_, rfl, a, rfl, ⟨_, hS⟩, for_list (K := K) (a := a) (xs := ns.map V.int) (fun i σ H2 => ∃ (st : Int) (v : Option V), σ = [some (.ref a), some (.int sd), some (.int st), v] ∧ H2 = H)
      ⟨_, _, rfl, rfl⟩ (fun i σ H2 _ ⟨_, _, _, e⟩ => e ▸ hS) ?_ ?_⟩
    · rintro i y σ H2 hi ⟨st, v, rfl, rfl⟩
      obtain ⟨z, rfl⟩ : ∃ z, y = V.int z := by
        rw [List.getElem?_map] at hi
        cases e : ns[i]? with
        | none => rw [e] at hi; cases hi
        | some z => rw [e] at hi; exact ⟨z, (Option.some.inj hi).symm⟩
      refine ⟨_, rfl, _, _, rfl, rfl, .inr (by omega), _, rfl, .inl ⟨_, rfl, _, _, rfl, rfl, (by decide : (0 : Int) < 2147483629), _, _, rfl, rfl, _, _, rfl, rfl, .inl ⟨_, rfl, _, _, rfl, rfl, (by decide : (0 : Int) < 2147483647), ?_⟩⟩⟩
      exact ⟨_, _, rfl, rfl⟩
    · rintro σ H2 ⟨st, v, rfl, rfl⟩
      -- return [state, list(script), 0]
      refine ⟨_, rfl, _, rfl, a, _, rfl, .inl hS, fun c nc => ⟨(by show 3 ≤ sizeLine; decide), fun p np => ?_⟩⟩
      have npc : p ≠ c := fun e => by rw [e, upd_same] at np; cases np
      refine q p c _ ((same_new nc _).trans (same_new np _)) ((same_new nc _).free np) nc ⟨npc, st, 0, ns, upd_same, ?_, by omega⟩
      rw [upd_ne npc.symm, upd_same]
end

abbrev s__law_next : Stmt := topS 13
theorem sc__law_next : FnScope ["_law_h", "_law_cap", "_law_cell"] ["_law_h", "_law_cap"] (defScope s__law_next) := ⟨rfl, rfl, rfl, by decide +kernel, rfl, by decide +kernel, by decide +kernel⟩
def sp__law_next (K : PySem.W.Frag) : Sp := fun vs H Q _ => ∃ (h q : Addr) (cap : Int), vs = [.ref h, .int cap] ∧ LawH H h q ∧ 0 < cap ∧ cap < 2 ^ 300 ∧
  ∀ (k : Int) (H' : Hp), 0 ≤ k → k < cap → LawH H' h q → Sm h q H H' → Q (.int k) H'
theorem cap_wide {cap : Int} (h : 0 < cap) (h' : cap < 2 ^ 300) : CDivW z cap := wide_div (b := 300) h (by omega) (by decide) (by decide)
section
variable {P : Program} {w : World} {K : PySem.W.Frag} {mg : Str → Option Value} {base : Heap}
theorem ok__law_next (A : At K mg "_law_next" s__law_next ["_law_h", "_law_cap"]) (B : Bn mg) : CalE P w K mg base "_law_next" ["_law_h", "_law_cap"] 1 (sp__law_next K) := by
  obtain ⟨f, fd, F, gF, bF⟩ := A
  refine ⟨f, fd, F.ok sc__law_next (fun vs H Q E h => ?_) (fun cdv A outer s H vs Q E hr h => ?_), gF, F.kp, bF⟩
  · repeat (first | (obtain ⟨rfl, _⟩ := h; rfl) | (obtain ⟨_, h⟩ := h))
  · obtain ⟨h, q, cap, rfl, L, c0, c1, k⟩ := h
    refine ⟨_, (pss_cons (ps_set (i := 2) sc__law_next.nd rfl (.inl rfl) (pe_ix (ix_list_ K) (pe_op op_cat (pe_ix (ix_list_ K) (pv 0) pe_int (fun _ _ => rfl)) (pe_lst (pa_cons pe_int pa_nil))) (pe_op op_mod (pe_callTy call_int1 (by rfl) B.int_ (by decide +kernel) (pa_cons (pe_ix (ix_list_ K) (pv 0) pe_int (fun _ _ => rfl)) pa_nil)) (pe_callB (call_max2 rfl) (by rfl) B.max_ (by decide +kernel) (pa_cons pe_int (pa_cons (pe_callB (call_len_seq_ K) (by rfl) B.len_ (by decide +kernel) (pa_cons (pe_ix (ix_list_ K) (pv 0) pe_int (fun _ _ => rfl)) pa_nil)) pa_nil)))) (fun _ _ => rfl)))
      (pss_cons (ps_if (pt_cmpR op_ge (pv 2) (pe_op op_pow pe_int pe_int) (nomark _))
      (pss_cons (ps_asg (pe_op op_fdivW (pv 2) (pv 1)) (pg_sub (pe_ix (ix_list_ K) (pv 0) pe_int (fun _ _ => rfl)) (pe_op op_mod (pe_callTy call_int1 (by rfl) B.int_ (by decide +kernel) (pa_cons (pe_ix (ix_list_ K) (pv 0) pe_int (fun _ _ => rfl)) pa_nil)) (pe_callB (call_len_seq_ K) (by rfl) B.len_ (by decide +kernel) (pa_cons (pe_ix (ix_list_ K) (pv 0) pe_int (fun _ _ => rfl)) pa_nil))) set_list))
      (pss_one (ps_ret (pe_op op_mod (pe_callTy call_int1 (by rfl) B.int_ (by decide +kernel) (pa_cons (pv 2) pa_nil)) (pv 1)))))
      pss_nil)
      (pss_cons (ps_asg (pe_op op_mod (pe_callTy call_int1 (by rfl) B.int_ (by decide +kernel) (pa_cons (pe_op op_add (pe_op op_add (pe_op op_mul (pe_ix (ix_list_ K) (pv 0) pe_int (fun _ _ => rfl)) pe_int) (pe_op op_mul (pv 2) pe_int)) pe_int) pa_nil)) pe_int) (pg_sub (pv 0) pe_int set_list))
      (pss_cons (ps_asg (pe_op op_add (pe_ix (ix_list_ K) (pv 0) pe_int (fun _ _ => rfl)) pe_int) (pg_sub (pv 0) pe_int set_list))
      (pss_one (ps_ret (pe_op op_mod (pe_callTy call_int1 (by rfl) B.int_ (by decide +kernel) (pa_cons (pe_op op_fdiv (pe_ix (ix_list_ K) (pv 0) pe_int (fun _ _ => rfl)) pe_int) pa_nil)) (pv 1)))))))), ?_⟩
    obtain ⟨hne, st, ix, cells, eh, eq, hl⟩ := id L
    have sL : SqL K H h [.int st, .ref q, .int ix] := .inl (.inl eh)
    have sQ : SqL K H q (cells.map V.int) := .inl (.inl eq)
    have l3 : ([V.int 0] : List V).length ≤ sizeLine := by show 1 ≤ sizeLine; decide
    have lm : (cells.map V.int).length = cells.length := List.length_map _
    -- (h[1] + [0])[h[2] % max(1, len(h[1]))]
    refine ⟨_, rfl, h, _, 1, _, rfl, rfl, sL, rfl, l3, fun z nz => ?_⟩
    have s1 : Same H (upd H z (.lst [.int 0])) := same_new nz _
    have lq : (cells.map V.int).length + ([V.int 0] : List V).length ≤ sizeLine := by
      rw [lm]
      show cells.length + 1 ≤ sizeLine
      have := sizeLine_eq
      omega
    refine ⟨q, z, _, _, rfl, rfl, s1 _ _ eq, upd_same, lq, fun z2 nz2 => ?_⟩
    have s2 := s1.trans (same_new nz2 (.lst (cells.map V.int ++ [.int 0])))
    have e2 : (upd (upd H z (.lst [.int 0])) z2 (.lst (cells.map V.int ++ [.int 0]))) z2 = some (.lst (cells.map V.int ++ [.int 0])) := upd_same
    generalize upd (upd H z (.lst [.int 0])) z2 (.lst (cells.map V.int ++ [.int 0])) = H2 at *
    obtain ⟨m, em, hm⟩ : ∃ m : Int, (if ((cells.map V.int).length : Int) > 1 then ((cells.map V.int).length : Int) else 1) = m ∧ (0 < m ∧ m ≤ cells.length + 1 ∧ (cells = [] → m = 1) ∧ (cells ≠ [] → m = cells.length)) := by
      refine ⟨_, rfl, ?_⟩
      rw [lm]
      cases cells with
      | nil => simp
      | cons c r =>
        simp only [List.length_cons]
        split
        · exact ⟨by omega, by omega, (fun z => by cases z), fun _ => rfl⟩
        · exact ⟨by omega, by omega, (fun z => by cases z), fun _ => by omega⟩
    obtain ⟨m0, m1, m2, m3⟩ := hm
    have j0 : 0 ≤ ix % m := Int.emod_nonneg _ (by omega)
    have j1 : ix % m < m := Int.emod_lt_of_pos _ m0
    obtain ⟨j, ej⟩ : ∃ j : Nat, ix % m = (j : Int) := ⟨(ix % m).toNat, by omega⟩
    obtain ⟨c, ec, hc⟩ : ∃ c : Int, (cells.map V.int ++ [V.int 0])[j]? = some (.int c) ∧ (10 ^ 18 ≤ c → j < cells.length ∧ cells ≠ []) := by
      by_cases hj : j < cells.length
      · refine ⟨cells[j], ?_, fun _ => ⟨hj, fun z => by rw [z] at hj; cases hj⟩⟩
        rw [List.getElem?_append_left (by rw [lm]; exact hj), List.getElem?_map, List.getElem?_eq_getElem hj]
        rfl
      · have hn : j = cells.length := by
          by_cases hc : cells = []
          · have := m2 hc
            subst hc
            simp
            omega
          · have := m3 hc
            omega
        subst hn
        refine ⟨0, ?_, fun z => by omega⟩
        rw [List.getElem?_append_right (by rw [lm]; exact Nat.le_refl _), lm, Nat.sub_self]
        rfl
    refine ⟨_, rfl, h, _, 2, _, rfl, rfl, s2.seq sL, rfl, .inl ⟨ix, rfl, _, rfl, h, _, 1, _, rfl, rfl, s2.seq sL, rfl, q, _, rfl, .inl (s2.seq sQ), 1, _, rfl, ?_⟩⟩
    show rI (fun _ j => 0 < j) (fun i j => V.int (i % j)) (V.int ix) (.int (if ((cells.map V.int).length : Int) > 1 then ((cells.map V.int).length : Int) else 1)) H2 _
    rw [em]
    refine ⟨_, _, rfl, rfl, m0, z2, _, _, _, rfl, rfl, .inl (.inl e2), by rw [ej]; exact atI_nat ec, ?_⟩
    -- if _law_cell >= 10 ** 18
    refine ⟨_, rfl, _, _, rfl, rfl, ⟨by decide, by decide, by decide⟩, _, _, rfl, rfl, _, rfl, ?_⟩
    have h2 := s2.seq sL
    have q2 := s2.seq sQ
    have eh2 := s2 _ _ eh
    have eq2 := s2 _ _ eq
    refine ite2 (fun b => ?_) (fun b => ?_)
    · have b' : 10 ^ 18 ≤ c := of_decide_eq_true b
      obtain ⟨hj, hne0⟩ := hc b'
      have m4 := m3 hne0
      refine ⟨_, rfl, _, rfl, _, _, rfl, rfl, cap_wide c0 c1, ?_⟩
      refine ⟨_, rfl, h, _, 1, _, rfl, rfl, h2, rfl, _, rfl, h, _, 2, _, rfl, rfl, h2, rfl, .inl ⟨ix, rfl, _, rfl, h, _, 1, _, rfl, rfl, h2, rfl, q, _, rfl, .inl q2, _, _, rfl, rfl, ?_, ?_⟩⟩
      · show (0 : Int) < ((cells.map V.int).length : Int)
        rw [lm]
        omega
      refine ⟨q, _, _, j, rfl, rfl, eq2, ?_, ?_⟩
      · rw [lm, ← m4, ej]
        unfold ixN
        rw [if_pos (by omega), if_pos (by omega), Int.toNat_natCast]
      refine ⟨_, rfl, .inl ⟨_, rfl, _, rfl, _, _, rfl, rfl, c0, ?_⟩⟩
      refine k _ _ (Int.emod_nonneg _ (by omega)) (Int.emod_lt_of_pos _ c0) ⟨hne, st, ix, cells.set j (c / cap), by rw [upd_ne hne]; exact eh2, by rw [upd_same, List.map_set], by rw [List.length_set]; exact hl⟩ (fun b o e n1 n2 => ?_)
      rw [upd_ne n2]
      exact s2 _ _ e
    · refine ⟨_, rfl, h, _, 0, _, rfl, rfl, h2, rfl, _, _, rfl, rfl, .inr (by omega), _, rfl, _, _, rfl, rfl, .inr (by omega), _, _, rfl, rfl, _, _, rfl, rfl, .inl ⟨_, rfl, _, _, rfl, rfl, (by decide : (0 : Int) < 2147483647), ?_⟩⟩
      refine ⟨_, rfl, h, _, 0, 0, rfl, rfl, eh2, rfl, ?_⟩
      have e3 := @upd_same H2 h (.lst [.int ((st * 48271 + c * 69621 + 11) % 2147483647), .ref q, .int ix])
      refine ⟨_, rfl, h, _, 2, _, rfl, rfl, .inl (.inl e3), rfl, _, _, rfl, rfl, _, rfl, h, _, 2, 2, rfl, rfl, e3, rfl, ?_⟩
      refine ⟨_, rfl, h, _, 0, _, rfl, rfl, .inl (.inl upd_same), rfl, _, _, rfl, rfl, ⟨by decide, by decide⟩, .inl ⟨_, rfl, _, rfl, _, _, rfl, rfl, c0, ?_⟩⟩
      refine k _ _ (Int.emod_nonneg _ (by omega)) (Int.emod_lt_of_pos _ c0) ⟨hne, _, _, cells, upd_same, by rw [upd_ne hne.symm, upd_ne hne.symm]; exact eq2, hl⟩ (fun b o e n1 n2 => ?_)
      rw [upd_ne n1, upd_ne n1]
      exact s2 _ _ e
end

abbrev s__law_pick : Stmt := topS 14
theorem sc__law_pick : FnScope ["_law_h", "_law_things"] ["_law_h", "_law_things"] (defScope s__law_pick) := ⟨rfl, rfl, rfl, by decide +kernel, rfl, by decide +kernel, by decide +kernel⟩
def sp__law_pick (K : PySem.W.Frag) : Sp := fun vs H Q _ => ∃ (h q t : Addr) (xs : List V), vs = [.ref h, .ref t] ∧ LawH H h q ∧ SqL K H t xs ∧ t ≠ h ∧ t ≠ q ∧ xs ≠ [] ∧ xs.length ≤ 1000 ∧
  ∀ (k : Nat) (x : V) (H' : Hp), xs[k]? = some x → LawH H' h q → Sm h q H H' → Q x H'
theorem pickI {K : PySem.W.Frag} {H0 : Hp} {h q t : Addr} {xs : List V} {Q : VK} (L : LawH H0 h q) (nt : H0 t = none) (hx : xs ≠ []) (hl : xs.length ≤ 1000) (k : ∀ x ∈ xs, ∀ H', LawH H' h q → Sm h q H0 H' → Q x H') : sp__law_pick K [.ref h, .ref t] (upd H0 t (.lst xs)) Q E0 := by
  have s3 := same_new nt (.lst xs)
  obtain ⟨hne, st, ix, cells, eh, eq, _⟩ := id L
  exact ⟨h, q, t, _, rfl, L.same s3, .inl (.inl upd_same), ne_new eh nt, ne_new eq nt, hx, hl, fun j x H3 ex L3 S3 => k x (List.mem_of_getElem? ex) H3 L3 (Sm.trans (Sm.of s3) S3)⟩
section
variable {P : Program} {w : World} {K : PySem.W.Frag} {mg : Str → Option Value} {base : Heap}
theorem ok__law_pick (A : At K mg "_law_pick" s__law_pick ["_law_h", "_law_things"]) (B : Bn mg) (H__law_next : CalE P w K mg base "_law_next" ["_law_h", "_law_cap"] 1 (sp__law_next K)) : CalE P w K mg base "_law_pick" ["_law_h", "_law_things"] 2 (sp__law_pick K) := by
  obtain ⟨f, fd, F, gF, bF⟩ := A
  obtain ⟨f__law_next, fd__law_next, G__law_next⟩ := H__law_next
  refine ⟨f, fd, F.ok sc__law_pick (fun vs H Q E h => ?_) (fun cdv A outer s H vs Q E hr h => ?_), gF, F.kp, bF⟩
  · repeat (first | (obtain ⟨rfl, _⟩ := h; rfl) | (obtain ⟨_, h⟩ := h))
  · obtain ⟨h, q, t, xs, rfl, L, hS, n1, n2, hx, hl, k⟩ := h
    have hp : 0 < xs.length := List.length_pos_iff.mpr hx
    refine ⟨_, (pss_one (ps_ret (pe_ix (ix_list_ K) (pv 1) (pe_call G__law_next.ok (hr.mono (by first | decide | exact Nat.le_refl _)) (by rfl) G__law_next.g G__law_next.kp G__law_next.b .nil pass0 (pa_cons (pv 0) (pa_cons (pe_callB (call_len_seq_ K) (by rfl) B.len_ (by decide +kernel) (pa_cons (pv 1) pa_nil)) pa_nil))) (fun _ _ => rfl)))), ?_⟩
    refine ⟨_, rfl, _, rfl, _, rfl, t, xs, rfl, .inl hS, h, q, _, rfl, L, by omega, by omega, fun j H' j0 j1 L' S' => ?_⟩
    obtain ⟨i, rfl⟩ : ∃ i : Nat, j = (i : Int) := ⟨j.toNat, by omega⟩
    have hi : i < xs.length := by omega
    have ex : xs[i]? = some xs[i] := List.getElem?_eq_getElem hi
    exact ⟨t, xs, _, _, rfl, rfl, S'.seq n1 n2 hS, atI_nat ex, k i _ H' ex L' S'⟩
end

abbrev s__law_ratio : Stmt := topS 16
theorem sc__law_ratio : FnScope ["_law_h", "_law_q"] ["_law_h"] (defScope s__law_ratio) := ⟨rfl, rfl, rfl, by decide +kernel, rfl, by decide +kernel, by decide +kernel⟩
def sp__law_ratio (K : PySem.W.Frag) : Sp := fun vs H Q _ => ∃ (h q : Addr), vs = [.ref h] ∧ LawH H h q ∧
  ∀ (r : Addr) (x y : Nat) (H' : Hp), IsRat x y → LawH H' h q → Sm h q H H' → H' r = some (.tup [.int (x : Nat), .int (y : Nat)]) → Q (.ref r) H'
section
variable {P : Program} {w : World} {K : PySem.W.Frag} {mg : Str → Option Value} {base : Heap}
theorem ok__law_ratio (A : At K mg "_law_ratio" s__law_ratio ["_law_h"]) (B : Bn mg) (H__law_next : CalE P w K mg base "_law_next" ["_law_h", "_law_cap"] 1 (sp__law_next K)) (H__law_pick : CalE P w K mg base "_law_pick" ["_law_h", "_law_things"] 2 (sp__law_pick K)) : CalE P w K mg base "_law_ratio" ["_law_h"] 3 (sp__law_ratio K) := by
  obtain ⟨f, fd, F, gF, bF⟩ := A
  obtain ⟨f__law_next, fd__law_next, G__law_next⟩ := H__law_next
  obtain ⟨f__law_pick, fd__law_pick, G__law_pick⟩ := H__law_pick
  refine ⟨f, fd, F.ok sc__law_ratio (fun vs H Q E h => ?_) (fun cdv A outer s H vs Q E hr h => ?_), gF, F.kp, bF⟩
  · repeat (first | (obtain ⟨rfl, _⟩ := h; rfl) | (obtain ⟨_, h⟩ := h))
  · obtain ⟨h, q, rfl, L, k⟩ := h
    refine ⟨_, (pss_cons (ps_set (i := 1) sc__law_ratio.nd rfl (.inl rfl) (pe_op op_add pe_int (pe_call G__law_next.ok (hr.mono (by first | decide | exact Nat.le_refl _)) (by rfl) G__law_next.g G__law_next.kp G__law_next.b .nil pass0 (pa_cons (pv 0) (pa_cons (pe_call G__law_pick.ok (hr.mono (by first | decide | exact Nat.le_refl _)) (by rfl) G__law_pick.g G__law_pick.kp G__law_pick.b .nil pass0 (pa_cons (pv 0) (pa_cons (pe_lst (pa_cons pe_int (pa_cons pe_int (pa_cons pe_int pa_nil)))) pa_nil))) pa_nil)))))
      (pss_one (ps_ret (pe_ifExp (pt_cmpR op_eq (pe_call G__law_next.ok (hr.mono (by first | decide | exact Nat.le_refl _)) (by rfl) G__law_next.g G__law_next.kp G__law_next.b .nil pass0 (pa_cons (pv 0) (pa_cons pe_int pa_nil))) pe_int (nomark _)) (pe_tup (pa_cons (pe_op op_add pe_int (pe_call G__law_next.ok (hr.mono (by first | decide | exact Nat.le_refl _)) (by rfl) G__law_next.g G__law_next.kp G__law_next.b .nil pass0 (pa_cons (pv 0) (pa_cons (pe_op op_sub (pv 1) pe_int) pa_nil)))) (pa_cons (pv 1) pa_nil))) (pe_tup (pa_cons (pe_op op_sub (pv 1) pe_int) (pa_cons (pv 1) pa_nil))))))), ?_⟩
    refine ⟨_, rfl, _, rfl, (by show 3 ≤ sizeLine; decide), fun t nt => pickI L nt (fun z => by cases z) (by show 3 ≤ 1000; decide) fun x hx H1 L1 S1 => ?_⟩
    obtain ⟨c, rfl, c0, c1⟩ : ∃ c : Int, x = .int c ∧ 2 ≤ c ∧ c ≤ 29 := by
      simp only [List.mem_cons, List.not_mem_nil, or_false] at hx
      rcases hx with rfl | rfl | rfl <;> exact ⟨_, rfl, by decide, by decide⟩
    refine ⟨h, q, c, rfl, L1, by omega, by omega, fun z H2 z0 z1 L2 S2 => ?_⟩
    obtain ⟨y, rfl⟩ : ∃ y : Nat, z = (y : Int) := ⟨z.toNat, by omega⟩
    refine ⟨_, _, rfl, rfl, ?_⟩
    -- next(h, 2) == 0
    refine ⟨_, rfl, h, q, 2, rfl, L2, by decide, by decide, fun u H3 u0 u1 L3 S3 => ?_⟩
    have ey : (2 + (y : Int)) = ((2 + y : Nat) : Int) := by omega
    refine ⟨rfl, _, rfl, ite2 (fun _ => ?_) (fun _ => ?_)⟩
    · refine ⟨_, rfl, _, rfl, _, _, rfl, rfl, h, q, _, rfl, L3, by omega, by omega, fun v H4 v0 v1 L4 S4 => ?_⟩
      obtain ⟨p, rfl⟩ : ∃ p : Nat, v = (p : Int) := ⟨v.toNat, by omega⟩
      refine ⟨_, _, rfl, rfl, _, rfl, (by show 2 ≤ sizeLine; decide), fun r nr => ?_⟩
      have s5 := same_new nr (.tup [.int (1 + (p : Int)), .int (2 + (y : Int))])
      refine k r (1 + p) (2 + y) _ ⟨by omega, by omega, by omega⟩ (L4.same s5) (S1.trans (S2.trans (S3.trans (S4.trans (Sm.of s5))))) ?_
      rw [upd_same]
      show some (HO.tup [V.int (1 + (p : Int)), V.int (2 + (y : Int))]) = _
      rw [ey, show (1 + (p : Int)) = ((1 + p : Nat) : Int) by omega]
    · refine ⟨_, rfl, _, _, rfl, rfl, _, rfl, (by show 2 ≤ sizeLine; decide), fun r nr => ?_⟩
      have s5 := same_new nr (.tup [.int (2 + (y : Int) - 1), .int (2 + (y : Int))])
      refine k r (1 + y) (2 + y) _ ⟨by omega, by omega, by omega⟩ (L3.same s5) (S1.trans (S2.trans (S3.trans (Sm.of s5)))) ?_
      rw [upd_same]
      show some (HO.tup [V.int (2 + (y : Int) - 1), V.int (2 + (y : Int))]) = _
      rw [ey, show (((2 + y : Nat) : Int) - 1) = ((1 + y : Nat) : Int) by omega]
end

abbrev s_is_integer : Stmt := topS 4
theorem sc_is_integer : FnScope ["thing", "low", "high"] ["thing", "low", "high"] (defScope s_is_integer) := ⟨rfl, rfl, rfl, by decide +kernel, rfl, by decide +kernel, by decide +kernel⟩
/-- the values of «any value» -/
inductive AnyV (K : PySem.W.Frag) (H : Hp) : V → Prop
  | non : AnyV K H .non
  | bl (b : Bool) : AnyV K H (.bl b)
  | int (i : Int) : AnyV K H (.int i)
  | str (x : Str) : AnyV K H (.str x)
  | lst {a : Addr} (h : TyX K H (.ref a) (.type "list")) : AnyV K H (.ref a)
  | tup {a : Addr} (h : TyX K H (.ref a) (.type "tuple")) : AnyV K H (.ref a)
  | dct {a : Addr} (h : TyX K H (.ref a) (.type "dict")) : AnyV K H (.ref a)
def isI (x : V) (lo hi : Int) : Bool := match x with
  | .int n => decide (lo ≤ n) && decide (n ≤ hi)
  | _ => false
theorem isI_yes {n lo hi : Int} (h : lo ≤ n) (h' : n ≤ hi) : isI (.int n) lo hi = true := by
  show (decide (lo ≤ n) && decide (n ≤ hi)) = true
  rw [decide_eq_true h, decide_eq_true h']
  rfl
def sp_is_integer (K : PySem.W.Frag) : Sp := fun vs H Q _ => ∃ (x : V) (lo hi : Int), vs = [x, .int lo, .int hi] ∧ AnyV K H x ∧ Q (.bl (isI x lo hi)) H
section
variable {P : Program} {w : World} {K : PySem.W.Frag} {mg : Str → Option Value} {base : Heap}
theorem ok_is_integer (A : At K mg "is_integer" s_is_integer ["thing", "low", "high"]) (B : Bn mg) : CalE P w K mg base "is_integer" ["thing", "low", "high"] 1 (sp_is_integer K) := by
  obtain ⟨f, fd, F, gF, bF⟩ := A
  refine ⟨f, fd, F.ok sc_is_integer (fun vs H Q E h => ?_) (fun cdv A outer s H vs Q E hr h => ?_), gF, F.kp, bF⟩
  · repeat (first | (obtain ⟨rfl, _⟩ := h; rfl) | (obtain ⟨_, h⟩ := h))
  · obtain ⟨x, lo, hi, rfl, hx, q⟩ := h
    refine ⟨_, (pss_one (ps_ret (pe_and (pe_callB (call_isi_ K) (by rfl) B.isinstance_ (by decide +kernel) (pa_cons (pv 0) (pa_cons (pe_bltn (v := .ty "int") (by rfl) B.int_ (by decide +kernel) rfl) pa_nil))) (pe_and (pe_not (pe_callB (call_isi_ K) (by rfl) B.isinstance_ (by decide +kernel) (pa_cons (pv 0) (pa_cons (pe_bltn (v := .ty "bool") (by rfl) B.bool_ (by decide +kernel) rfl) pa_nil)))) (pe_one (pe_chain op_le op_le (pv 1) (pv 0) (pv 2))))))), ?_⟩
    have no : ∀ T : String, TyX K H x (.type T) → kitB T "int" = some false → isI x lo hi = false → (tRet (tAndV (tCB (rIsi K) (tCons (tVar 0) (tCons (tC (.ty "int")) tNil))) (tAndV (tNotV (tCB (rIsi K) (tCons (tVar 0) (tCons (tC (.ty "bool")) tNil)))) (tChain (rI0 fun i j => .bl (decide (i ≤ j))) (rI0 fun i j => .bl (decide (i ≤ j))) (tVar 1) (tVar 0) (tVar 2))))) { nx := fun _ H' => Q .non H', rt := Q } (start ["thing", "low", "high"] [x, .int lo, .int hi]) H := fun T hT hk hi => by
      refine ⟨_, rfl, _, _, _, _, false, rfl, .ty _, hT, kit_ty hk, _, rfl, iteF ?_⟩
      rw [hi] at q
      exact q
    cases hx with
    | non => exact no _ (.base .non) (by decide +kernel) rfl
    | str z => exact no _ (.base (.str z)) (by decide +kernel) rfl
    | lst h => exact no _ h (by decide +kernel) rfl
    | tup h => exact no _ h (by decide +kernel) rfl
    | dct h => exact no _ h (by decide +kernel) rfl
    | bl b =>
      refine ⟨_, rfl, _, _, _, _, true, rfl, .ty _, .base (.bl b), kit_ty (by decide +kernel), _, rfl, iteT ?_⟩
      refine ⟨_, rfl, _, _, _, _, true, rfl, .ty _, .base (.bl b), kit_ty (by decide +kernel), _, rfl, _, rfl, iteF ?_⟩
      exact q
    | int n =>
      refine ⟨_, rfl, _, _, _, _, true, rfl, .ty _, .base (.int n), kit_ty (by decide +kernel), _, rfl, iteT ?_⟩
      refine ⟨_, rfl, _, _, _, _, false, rfl, .ty _, .base (.int n), kit_ty (by decide +kernel), _, rfl, _, rfl, iteT ?_⟩
      refine ⟨_, rfl, _, rfl, _, _, rfl, rfl, _, rfl, ?_⟩
      have e : isI (.int n) lo hi = (decide (lo ≤ n) && decide (n ≤ hi)) := rfl
      rw [e] at q
      by_cases c : lo ≤ n
      · rw [decide_eq_true c]
        rw [decide_eq_true c, Bool.true_and] at q
        exact iteT ⟨_, rfl, _, _, rfl, rfl, q⟩
      · rw [decide_eq_false c]
        rw [decide_eq_false c, Bool.false_and] at q
        exact iteF q
end

abbrev s_is_ratio : Stmt := topS 7
theorem sc_is_ratio : FnScope ["thing"] ["thing"] (defScope s_is_ratio) := ⟨rfl, rfl, rfl, by decide +kernel, rfl, by decide +kernel, by decide +kernel⟩
def sp_is_ratio (K : PySem.W.Frag) : Sp := fun vs H Q _ => ∃ (a : Addr) (p q : Nat), vs = [.ref a] ∧ SqT K H a [.int (p : Nat), .int (q : Nat)] ∧ IsRat p q ∧ Q (.bl true) H
section
variable {P : Program} {w : World} {K : PySem.W.Frag} {mg : Str → Option Value} {base : Heap}
theorem ok_is_ratio (A : At K mg "is_ratio" s_is_ratio ["thing"]) (B : Bn mg) (H_is_integer : CalE P w K mg base "is_integer" ["thing", "low", "high"] 1 (sp_is_integer K)) (K_MOST_PARTS : ∃ v, mg "MOST_PARTS" = some v ∧ RelV (.int 30) v) : CalE P w K mg base "is_ratio" ["thing"] 2 (sp_is_ratio K) := by
  obtain ⟨f, fd, F, gF, bF⟩ := A
  obtain ⟨f_is_integer, fd_is_integer, G_is_integer⟩ := H_is_integer
  obtain ⟨v_MOST_PARTS, C_MOST_PARTS⟩ := K_MOST_PARTS
  refine ⟨f, fd, F.ok sc_is_ratio (fun vs H Q E h => ?_) (fun cdv A outer s H vs Q E hr h => ?_), gF, F.kp, bF⟩
  · repeat (first | (obtain ⟨rfl, _⟩ := h; rfl) | (obtain ⟨_, h⟩ := h))
  · obtain ⟨a, p, q, rfl, hS, hr0, k⟩ := h
    obtain ⟨_, rfl⟩ := C_MOST_PARTS.2
    have hp := hr0.p1
    have hpq := hr0.pq
    have hq := hr0.q30
    refine ⟨_, (pss_cons (ps_if (PW.pt (pw_or (pt_not (pt_val (pe_callB (call_isi_ K) (by rfl) B.isinstance_ (by decide +kernel) (pa_cons (pv 0) (pa_cons (pe_bltn (v := .ty "tuple") (by rfl) B.tuple_ (by decide +kernel) rfl) pa_nil))))) (pw_or1 (pt_cmpR op_ne (pe_callB (call_len_seq_ K) (by rfl) B.len_ (by decide +kernel) (pa_cons (pv 0) pa_nil)) pe_int (nomark _)))))
      (pss_one (ps_ret pe_bl))
      pss_nil)
      (pss_one (ps_ret (pe_and (pe_call G_is_integer.ok (hr.mono (by first | decide | exact Nat.le_refl _)) (by rfl) G_is_integer.g G_is_integer.kp G_is_integer.b .nil pass0 (pa_cons (pe_ix (ix_tup_ K) (pv 0) pe_int (fun _ _ => rfl)) (pa_cons pe_int (pa_cons (pe_glob (by rfl) C_MOST_PARTS.1 C_MOST_PARTS.2) pa_nil)))) (pe_one (pe_call G_is_integer.ok (hr.mono (by first | decide | exact Nat.le_refl _)) (by rfl) G_is_integer.g G_is_integer.kp G_is_integer.b .nil pass0 (pa_cons (pe_ix (ix_tup_ K) (pv 0) pe_int (fun _ _ => rfl)) (pa_cons pe_int (pa_cons (pe_op op_sub (pe_ix (ix_tup_ K) (pv 0) pe_int (fun _ _ => rfl)) pe_int) pa_nil))))))))), ?_⟩
    refine ⟨_, rfl, _, _, _, _, true, rfl, .ty _, tyT hS, kit_ty (by decide +kernel), _, rfl, iteF ?_⟩
    refine ⟨_, rfl, a, _, rfl, .inr hS, rfl, _, rfl, iteNS rfl ?_⟩
    refine ⟨_, rfl, a, _, 1, _, rfl, rfl, hS, rfl, _, _, _, rfl, .int _, ?_⟩
    rw [isI_yes (by omega) (by omega)]
    refine ⟨_, rfl, iteT ?_⟩
    refine ⟨_, rfl, a, _, 0, _, rfl, rfl, hS, rfl, _, rfl, a, _, 1, _, rfl, rfl, hS, rfl, _, _, rfl, rfl, _, _, _, rfl, .int _, ?_⟩
    rw [isI_yes (by omega) (by omega)]
    exact k
end

abbrev s_check_ratio : Stmt := topS 8
theorem sc_check_ratio : FnScope ["thing"] ["thing"] (defScope s_check_ratio) := ⟨rfl, rfl, rfl, by decide +kernel, rfl, by decide +kernel, by decide +kernel⟩
def sp_check_ratio (K : PySem.W.Frag) : Sp := fun vs H Q _ => ∃ (a : Addr) (p q : Nat), vs = [.ref a] ∧ SqT K H a [.int (p : Nat), .int (q : Nat)] ∧ IsRat p q ∧ Q .non H
section
variable {P : Program} {w : World} {K : PySem.W.Frag} {mg : Str → Option Value} {base : Heap}
theorem ok_check_ratio (A : At K mg "check_ratio" s_check_ratio ["thing"]) (B : Bn mg) (H_is_ratio : CalE P w K mg base "is_ratio" ["thing"] 2 (sp_is_ratio K)) : CalE P w K mg base "check_ratio" ["thing"] 3 (sp_check_ratio K) := by
  obtain ⟨f, fd, F, gF, bF⟩ := A
  obtain ⟨f_is_ratio, fd_is_ratio, G_is_ratio⟩ := H_is_ratio
  refine ⟨f, fd, F.ok sc_check_ratio (fun vs H Q E h => ?_) (fun cdv A outer s H vs Q E hr h => ?_), gF, F.kp, bF⟩
  · repeat (first | (obtain ⟨rfl, _⟩ := h; rfl) | (obtain ⟨_, h⟩ := h))
  · obtain ⟨a, p, q, rfl, hS, hr0, k⟩ := h
    refine ⟨_, (pss_one (ps_if (pt_not (pt_val (pe_call G_is_ratio.ok (hr.mono (by first | decide | exact Nat.le_refl _)) (by rfl) G_is_ratio.g G_is_ratio.kp G_is_ratio.b .nil pass0 (pa_cons (pv 0) pa_nil))))
      (pss_one ps_never)
      pss_nil)), ?_⟩
    exact ⟨_, rfl, a, p, q, rfl, hS, hr0, _, rfl, iteF k⟩
end

abbrev s_best_by : Stmt := topS 9
theorem sc_best_by : FnScope ["ratio", "step", "over", "under"] ["ratio"] (defScope s_best_by) := ⟨rfl, rfl, rfl, by decide +kernel, rfl, by decide +kernel, by decide +kernel⟩
/-- s is the least step whose power and the next one are 1 together at most -/
def IsBest (x : Rat) (s : Nat) : Prop := 1 ≤ s ∧ FitsR x s ∧ ∀ t, 1 ≤ t → t < s → ¬ FitsR x t
theorem fits_int (p q s : Nat) (hq : 0 < q) : FitsR (rat p q) s ↔ p ^ s * (p + q) ≤ q ^ s * q := by
  have hQ : (0 : Rat) < ((q : Int) : Rat) := Rat.intCast_pos.mpr (by omega)
  unfold FitsR
  rw [← rat_pow p q hq s, ← rat_pow p q hq (s + 1), Rat.divInt_eq_div, Rat.divInt_eq_div]
  have e : (((p : Int) ^ s : Int) : Rat) / (((q : Int) ^ s : Int) : Rat) + (((p : Int) ^ (s + 1) : Int) : Rat) / (((q : Int) ^ (s + 1) : Int) : Rat) = ((((p ^ s * (p + q) : Nat) : Int)) : Rat) / ((((q ^ s * q : Nat) : Int)) : Rat) := by
    have h1 : (0 : Rat) < (((q : Int) ^ s : Int) : Rat) := Rat.intCast_pos.mpr (Int.pow_pos (by omega))
    have h2 := Rat.ne_of_gt h1
    have h3 := Rat.ne_of_gt hQ
    rw [Int.pow_succ, Int.pow_succ]
    rw [Int.natCast_mul, Int.natCast_mul, Int.natCast_add, Int.natCast_pow, Int.natCast_pow]
    simp only [Rat.intCast_mul, Rat.intCast_add]
    generalize (((p : Int) ^ s : Int) : Rat) = a at *
    generalize (((q : Int) ^ s : Int) : Rat) = b at *
    generalize ((p : Int) : Rat) = c at *
    generalize ((q : Int) : Rat) = d at *
    grind
  rw [e]
  have h4 : 0 < q ^ s * q := Nat.mul_pos (Nat.pow_pos hq) hq
  have h5 : (0 : Rat) < (((q ^ s * q : Nat) : Int) : Rat) := Rat.intCast_pos.mpr (by omega)
  constructor
  · intro z
    refine Nat.not_lt.mp fun c => ?_
    refine Rat.not_lt.mpr z ((Rat.lt_div_iff h5).mpr ?_)
    rw [Rat.one_mul]
    exact Rat.intCast_lt_intCast.mpr (by omega)
  · intro z
    refine Rat.not_lt.mp fun c => ?_
    have := (Rat.lt_div_iff h5).mp c
    rw [Rat.one_mul] at this
    have := Rat.intCast_lt_intCast.mp this
    omega
theorem fits30 (p q : Nat) (h : IsRat p q) : FitsR (rat p q) 30 := by
  have hq := h.q30
  have hpq := h.pq
  refine (fits_int p q 30 (by omega)).mpr ?_
  have all : ∀ q, q < 31 → ∀ p, p < q → p ^ 30 * (p + q) ≤ q ^ 30 * q := by decide +kernel
  exact all q (by omega) p hpq
theorem best_le {p q s : Nat} (h : IsRat p q) (hb : IsBest (rat p q) s) : s ≤ 30 := by
  refine Nat.not_lt.mp fun c => ?_
  exact hb.2.2 30 (by decide) c (fits30 p q h)
def sp_best_by (K : PySem.W.Frag) : Sp := fun vs H Q _ => ∃ (a : Addr) (p q : Nat), vs = [.ref a] ∧ SqT K H a [.int (p : Nat), .int (q : Nat)] ∧ IsRat p q ∧
  ∀ (s : Nat) (H' : Hp), IsBest (rat p q) s → s ≤ 30 → Same H H' → Q (.int (s : Nat)) H'
section
variable {P : Program} {w : World} {K : PySem.W.Frag} {mg : Str → Option Value} {base : Heap}
theorem ok_best_by (A : At K mg "best_by" s_best_by ["ratio"]) (B : Bn mg) : CalE P w K mg base "best_by" ["ratio"] 1 (sp_best_by K) := by
  obtain ⟨f, fd, F, gF, bF⟩ := A
  refine ⟨f, fd, F.ok sc_best_by (fun vs H Q E h => ?_) (fun cdv A outer s H vs Q E hr h => ?_), gF, F.kp, bF⟩
  · repeat (first | (obtain ⟨rfl, _⟩ := h; rfl) | (obtain ⟨_, h⟩ := h))
  · obtain ⟨a, p, q, rfl, hS, hr0, k⟩ := h
    have hp := hr0.p1
    have hpq := hr0.pq
    have hq := hr0.q30
    refine ⟨_, (pss_cons (ps_par3 (i := 1) (j := 2) (l := 3) (by rfl) sc_best_by.nd rfl rfl rfl (by decide) (by decide) (by decide) rfl rfl rfl (pa_cons pe_int (pa_cons (pe_ix (ix_tup_ K) (pv 0) pe_int (fun _ _ => rfl)) (pa_cons (pe_ix (ix_tup_ K) (pv 0) pe_int (fun _ _ => rfl)) pa_nil))) (by rfl))
      (pss_cons (ps_while PassesOwn.never (pt_cmpR op_gt (pe_op op_mul (pv 2) (pe_op op_add (pe_ix (ix_tup_ K) (pv 0) pe_int (fun _ _ => rfl)) (pe_ix (ix_tup_ K) (pv 0) pe_int (fun _ _ => rfl)))) (pe_op op_mul (pv 3) (pe_ix (ix_tup_ K) (pv 0) pe_int (fun _ _ => rfl))) (nomark _))
      (pss_one (ps_par3 (i := 1) (j := 2) (l := 3) (by rfl) sc_best_by.nd rfl rfl rfl (by decide) (by decide) (by decide) rfl rfl rfl (pa_cons (pe_op op_add (pv 1) pe_int) (pa_cons (pe_op op_mul (pv 2) (pe_ix (ix_tup_ K) (pv 0) pe_int (fun _ _ => rfl))) (pa_cons (pe_op op_mul (pv 3) (pe_ix (ix_tup_ K) (pv 0) pe_int (fun _ _ => rfl))) pa_nil))) (by rfl))))
      (pss_one (ps_ret (pv 1))))), ?_⟩
    -- step, over, under = 1, ratio[0], ratio[1]
    refine ⟨_, rfl, a, _, 0, _, rfl, rfl, hS, rfl, _, rfl, a, _, 1, _, rfl, rfl, hS, rfl, ?_⟩
    refine ⟨_, _, _, rfl, ?_⟩
    refine ⟨fun m σ H2 => ∃ s : Nat, m = 30 - s ∧ 1 ≤ s ∧ s ≤ 30 ∧ σ = [some (.ref a), some (.int (s : Nat)), some (.int ((p : Int) ^ s)), some (.int ((q : Int) ^ s))] ∧ (∀ t, 1 ≤ t → t < s → ¬ FitsR (rat p q) t) ∧ Same H H2, ⟨29, 1, rfl, by decide, by decide, ?_, fun t h1 h2 => by omega, Same.refl _⟩, ?_⟩
    · show [_, _, some (V.int (p : Int)), some (V.int (q : Int))] = _
      rw [Int.pow_succ, Int.pow_succ, Int.pow_zero, Int.pow_zero, Int.one_mul, Int.one_mul]
      rfl
    rintro m σ H2 ⟨s, rfl, s1, s2, rfl, hn, hs⟩
    have hS := Same.seqT hs hS
    refine ⟨_, rfl, _, rfl, a, _, 0, _, rfl, rfl, hS, rfl, _, rfl, a, _, 1, _, rfl, rfl, hS, rfl, _, _, rfl, rfl, _, _, rfl, rfl, .inr (by omega), _, rfl, _, rfl, a, _, 1, _, rfl, rfl, hS, rfl, _, _, rfl, rfl, .inr (by omega), _, _, rfl, rfl, _, rfl, ?_⟩
    have fi := fits_int p q s (by omega)
    have cz : (((q : Int) ^ s * (q : Int) < (p : Int) ^ s * ((p : Int) + (q : Int)))) ↔ ¬ FitsR (rat p q) s := by
      rw [fi, Nat.not_le]
      constructor
      · intro z
        exact_mod_cast z
      · intro z
        exact_mod_cast z
    refine ite2 (fun c => ?_) (fun c => ?_)
    · have nf := cz.mp (of_decide_eq_true c)
      have s30 : s ≠ 30 := fun z => by
        subst z
        exact nf (fits30 p q hr0)
      refine ⟨fun σ' H' => ∃ s' : Nat, s' = s + 1 ∧ σ' = [some (.ref a), some (.int (s' : Nat)), some (.int ((p : Int) ^ s')), some (.int ((q : Int) ^ s'))] ∧ Same H H', fun σ' H' ⟨s', e0, e1, e2⟩ => ⟨30 - s', by omega, s', rfl, by omega, by omega, e1, fun t h1 h2 => ?_, e2⟩, ?_⟩
      · by_cases ht : t = s
        · exact ht ▸ nf
        · exact hn t h1 (by omega)
      refine ⟨_, rfl, _, _, rfl, rfl, _, rfl, _, rfl, a, _, 0, _, rfl, rfl, hS, rfl, _, _, rfl, rfl, .inr (by omega), _, rfl, _, rfl, a, _, 1, _, rfl, rfl, hS, rfl, _, _, rfl, rfl, .inr (by omega), _, _, _, rfl, ?_⟩
      exact ⟨s + 1, rfl, rfl, hs⟩
    · have hf : FitsR (rat p q) s := by
        refine Classical.byContradiction fun z => c (decide_eq_true (cz.mpr z))
      exact ⟨_, rfl, k s H2 ⟨s1, hf, hn⟩ s2 hs⟩
end

abbrev s_best_step : Stmt := topS 10
theorem sc_best_step : FnScope ["ratio"] ["ratio"] (defScope s_best_step) := ⟨rfl, rfl, rfl, by decide +kernel, rfl, by decide +kernel, by decide +kernel⟩
def sp_best_step (K : PySem.W.Frag) : Sp := sp_best_by K
section
variable {P : Program} {w : World} {K : PySem.W.Frag} {mg : Str → Option Value} {base : Heap}
theorem ok_best_step (A : At K mg "best_step" s_best_step ["ratio"]) (B : Bn mg) (H_check_ratio : CalE P w K mg base "check_ratio" ["thing"] 3 (sp_check_ratio K)) (H_best_by : CalE P w K mg base "best_by" ["ratio"] 1 (sp_best_by K)) : CalE P w K mg base "best_step" ["ratio"] 4 (sp_best_step K) := by
  obtain ⟨f, fd, F, gF, bF⟩ := A
  obtain ⟨f_check_ratio, fd_check_ratio, G_check_ratio⟩ := H_check_ratio
  obtain ⟨f_best_by, fd_best_by, G_best_by⟩ := H_best_by
  refine ⟨f, fd, F.ok sc_best_step (fun vs H Q E h => ?_) (fun cdv A outer s H vs Q E hr h => ?_), gF, F.kp, bF⟩
  · repeat (first | (obtain ⟨rfl, _⟩ := h; rfl) | (obtain ⟨_, h⟩ := h))
  · obtain ⟨a, p, q, rfl, hS, hr0, k⟩ := h
    refine ⟨_, (pss_cons (ps_expr (pe_call G_check_ratio.ok (hr.mono (by first | decide | exact Nat.le_refl _)) (by rfl) G_check_ratio.g G_check_ratio.kp G_check_ratio.b .nil pass0 (pa_cons (pv 0) pa_nil)))
      (pss_one (ps_ret (pe_call G_best_by.ok (hr.mono (by first | decide | exact Nat.le_refl _)) (by rfl) G_best_by.g G_best_by.kp G_best_by.b .nil pass0 (pa_cons (pv 0) pa_nil))))), ?_⟩
    exact ⟨_, rfl, a, p, q, rfl, hS, hr0, _, rfl, a, p, q, rfl, hS, hr0, k⟩
end

abbrev s__law_frac : Stmt := topS 15
theorem sc__law_frac : FnScope ["_law_number", "_law_parts", "_law_one", "_law_two"] ["_law_number", "_law_parts"] (defScope s__law_frac) := ⟨rfl, rfl, rfl, by decide +kernel, rfl, by decide +kernel, by decide +kernel⟩
def sp__law_frac (K : PySem.W.Frag) : Sp := fun vs H Q _ => ∃ (n d : Int) (b : Nat), vs = [.int n, .int d] ∧ 0 < d ∧ d.natAbs < 2 ^ b ∧ b ≤ 8900 ∧
  ∀ (r : Addr) (H' : Hp), Same H H' → H r = none → RatAt K H' r (Rat.divInt n d) → Q (.ref r) H'
theorem gcd_step (a b : Nat) : Nat.gcd b (a % b) = Nat.gcd a b := by
  rw [Nat.gcd_comm b (a % b), ← Nat.gcd_rec, Nat.gcd_comm]
section
variable {P : Program} {w : World} {K : PySem.W.Frag} {mg : Str → Option Value} {base : Heap}
theorem ok__law_frac (A : At K mg "_law_frac" s__law_frac ["_law_number", "_law_parts"]) (B : Bn mg) : CalE P w K mg base "_law_frac" ["_law_number", "_law_parts"] 1 (sp__law_frac K) := by
  obtain ⟨f, fd, F, gF, bF⟩ := A
  refine ⟨f, fd, F.ok sc__law_frac (fun vs H Q E h => ?_) (fun cdv A outer s H vs Q E hr h => ?_), gF, F.kp, bF⟩
  · repeat (first | (obtain ⟨rfl, _⟩ := h; rfl) | (obtain ⟨_, h⟩ := h))
  · obtain ⟨n, d, b, rfl, d0, hb, b9, k⟩ := h
    refine ⟨_, (pss_cons (ps_par (i := 2) (j := 3) (by rfl) sc__law_frac.nd rfl rfl (by decide) rfl rfl (pa_cons (pe_callB call_abs (by rfl) B.abs_ (by decide +kernel) (pa_cons (pv 0) pa_nil)) (pa_cons (pe_callB call_abs (by rfl) B.abs_ (by decide +kernel) (pa_cons (pv 1) pa_nil)) pa_nil)) (by rfl))
      (pss_cons (ps_while PassesOwn.never (pt_cmpR op_gt (pv 3) pe_int (nomark _))
      (pss_one (ps_par (i := 2) (j := 3) (by rfl) sc__law_frac.nd rfl rfl (by decide) rfl rfl (pa_cons (pv 3) (pa_cons (pe_op op_mod (pe_callTy call_int1 (by rfl) B.int_ (by decide +kernel) (pa_cons (pv 2) pa_nil)) (pv 3)) pa_nil)) (by rfl))))
      (pss_cons (ps_if (pt_cmpR op_lt (pv 1) pe_int (nomark _))
      (pss_one (ps_set (i := 2) sc__law_frac.nd rfl (.inl rfl) (pe_un un_neg (pv 2))))
      pss_nil)
      (pss_one (ps_ret (pe_tup (pa_cons (pe_op op_fdivW (pv 0) (pv 2)) (pa_cons (pe_op op_fdivW (pv 1) (pv 2)) pa_nil)))))))), ?_⟩
    -- one, two = abs(number), abs(parts)
    refine ⟨_, rfl, _, rfl, _, rfl, _, rfl, _, _, rfl, ?_⟩
    refine ⟨fun m σ H2 => ∃ (x y : Nat), m = y ∧ σ = [some (.int n), some (.int d), some (.int x), some (.int y)] ∧ Nat.gcd x y = Int.gcd n d ∧ H2 = H, ⟨d.natAbs, n.natAbs, d.natAbs, rfl, ?_, rfl, rfl⟩, ?_⟩
    · have e1 : (if n < 0 then -n else n) = (n.natAbs : Int) := by split <;> omega
      have e2 : (if d < 0 then -d else d) = (d.natAbs : Int) := by split <;> omega
      show [_, _, some (V.int (if n < 0 then -n else n)), some (V.int (if d < 0 then -d else d))] = _
      rw [e1, e2]
    rintro m σ H2 ⟨x, y, rfl, rfl, hg, rfl⟩
    refine ⟨_, rfl, _, _, rfl, rfl, _, rfl, ?_⟩
    refine ite2 (fun c => ?_) (fun c => ?_)
    · have c' : 0 < m := Int.ofNat_lt.mp (of_decide_eq_true c)
      refine ⟨fun σ' H' => ∃ (x y : Nat), y < m ∧ σ' = [some (.int n), some (.int d), some (.int x), some (.int y)] ∧ Nat.gcd x y = Int.gcd n d ∧ H' = H2, fun σ' H' ⟨x, y, l, e1, e2, e3⟩ => ⟨y, l, x, y, rfl, e1, e2, e3⟩, ?_⟩
      refine ⟨_, rfl, _, rfl, .inl ⟨_, rfl, _, rfl, _, _, rfl, rfl, (by omega : (0 : Int) < (m : Int)), _, _, rfl, ?_⟩⟩
      exact ⟨m, x % m, Nat.mod_lt _ c', rfl, by rw [gcd_step, hg], rfl⟩
    · have c' : m = 0 := by
        have : ¬ ((0 : Int) < (m : Int)) := fun z => c (decide_eq_true z)
        omega
      subst c'
      rw [Nat.gcd_zero_right] at hg
      subst hg
      -- if parts < 0
      refine ⟨_, rfl, _, _, rfl, rfl, _, rfl, iteDF (by omega) ?_⟩
      have hg0 : (0 : Int) < (Int.gcd n d : Int) := Int.ofNat_lt.mpr (Int.gcd_pos_of_ne_zero_right n (by omega))
      have hgb : ((Int.gcd n d : Int)).natAbs < 2 ^ (b + 1) := by
        rw [Int.natAbs_natCast]
        refine Nat.lt_of_le_of_lt (Nat.le_of_dvd (by omega) (Int.gcd_dvd_natAbs_right n d)) (Nat.lt_of_lt_of_le hb (Nat.pow_le_pow_right (by decide) (by omega)))
      have hw : ∀ z, CDivW z (Int.gcd n d : Int) := fun z => wide_div hg0 hgb (by omega) (by omega)
      refine ⟨_, rfl, _, rfl, _, _, rfl, rfl, hw _, _, rfl, _, rfl, _, _, rfl, rfl, hw _, (by show 2 ≤ sizeLine; decide), fun p np => ?_⟩
      refine k p _ (same_new np _) np ?_
      unfold RatAt
      rw [frac_num d0, frac_den d0]
      exact .inl (.inl upd_same)
end

abbrev s__law_power : Stmt := topS 17
theorem sc__law_power : FnScope ["_law_ratio_here", "_law_times", "_law_over", "_law_under", "_law_again"] ["_law_ratio_here", "_law_times"] (defScope s__law_power) := ⟨rfl, rfl, rfl, by decide +kernel, rfl, by decide +kernel, by decide +kernel⟩
def sp__law_power (K : PySem.W.Frag) : Sp := fun vs H Q _ => ∃ (a : Addr) (p q t : Nat), vs = [.ref a, .int (t : Nat)] ∧ SqT K H a [.int (p : Nat), .int (q : Nat)] ∧ IsRat p q ∧ t ≤ 1000 ∧
  ∀ (r : Addr) (H' : Hp), Same H H' → H r = none → RatAt K H' r (rat p q ^ t) → Q (.ref r) H'
section
variable {P : Program} {w : World} {K : PySem.W.Frag} {mg : Str → Option Value} {base : Heap}
theorem ok__law_power (A : At K mg "_law_power" s__law_power ["_law_ratio_here", "_law_times"]) (B : Bn mg) (H__law_frac : CalE P w K mg base "_law_frac" ["_law_number", "_law_parts"] 1 (sp__law_frac K)) : CalE P w K mg base "_law_power" ["_law_ratio_here", "_law_times"] 2 (sp__law_power K) := by
  obtain ⟨f, fd, F, gF, bF⟩ := A
  obtain ⟨f__law_frac, fd__law_frac, G__law_frac⟩ := H__law_frac
  refine ⟨f, fd, F.ok sc__law_power (fun vs H Q E h => ?_) (fun cdv A outer s H vs Q E hr h => ?_), gF, F.kp, bF⟩
  · repeat (first | (obtain ⟨rfl, _⟩ := h; rfl) | (obtain ⟨_, h⟩ := h))
  · obtain ⟨a, p, q, t, rfl, hS, hr0, ht, k⟩ := h
    have hp := hr0.p1
    have hpq := hr0.pq
    have hq := hr0.q30
    refine ⟨_, (pss_cons (ps_asg (pe_tup (pa_cons pe_int (pa_cons pe_int pa_nil))) (pg_tup (by rfl) (pgs_cons (pg_name (i := 2) sc__law_power.nd rfl (.inl rfl)) (pgs_cons (pg_name (i := 3) sc__law_power.nd rfl (.inl rfl)) pgs_nil))))
      (pss_cons (ps_for PassesOwn.never rfl (pi_range1 (by rfl) B.range_ (pa_cons (pv 1) pa_nil)) (pg_name (i := 4) sc__law_power.nd rfl (.inl rfl))
      (pss_one (ps_par (i := 2) (j := 3) (by rfl) sc__law_power.nd rfl rfl (by decide) rfl rfl (pa_cons (pe_op op_mul (pv 2) (pe_ix (ix_tup_ K) (pv 0) pe_int (fun _ _ => rfl))) (pa_cons (pe_op op_mul (pv 3) (pe_ix (ix_tup_ K) (pv 0) pe_int (fun _ _ => rfl))) pa_nil)) (by rfl))))
      (pss_one (ps_ret (pe_call G__law_frac.ok (hr.mono (by first | decide | exact Nat.le_refl _)) (by rfl) G__law_frac.g G__law_frac.kp G__law_frac.b .nil pass0 (pa_cons (pv 2) (pa_cons (pv 3) pa_nil))))))), ?_⟩
    refine ⟨(by show 2 ≤ sizeLine; decide), fun T nT => ?_⟩
    have s0 := same_new nT (.tup [.int 1, .int 1])
    have hS := Same.seqT s0 hS
    refine ⟨T, _, rfl, .inl (.inl upd_same), rfl, _, _, rfl, _, _, rfl, rfl, ?_⟩
    have k : ∀ (r : Addr) (H' : Hp), Same (upd H T (.tup [.int 1, .int 1])) H' → (upd H T (.tup [.int 1, .int 1])) r = none → RatAt K H' r (rat p q ^ t) → Q (.ref r) H' := fun r H' s n => k r H' (s0.trans s) (s0.free n)
    generalize upd H T (.tup [.int 1, .int 1]) = H at *
    refine ⟨_, rfl, _, rfl, by omega, by omega, for_range (lo := 0) (n := t) (fun i σ H2 => ∃ v, σ = [some (.ref a), some (.int (t : Nat)), some (.int ((p : Int) ^ i)), some (.int ((q : Int) ^ i)), v] ∧ H2 = H) ⟨_, rfl, rfl⟩ ?_ ?_⟩
    · rintro i σ H2 hi ⟨v, rfl, rfl⟩
      refine ⟨_, rfl, _, rfl, a, _, 0, _, rfl, rfl, hS, rfl, _, _, rfl, rfl, .inr (by omega), _, rfl, _, rfl, a, _, 1, _, rfl, rfl, hS, rfl, _, _, rfl, rfl, .inr (by omega), _, _, rfl, ?_⟩
      exact ⟨_, rfl, rfl⟩
    · rintro σ H2 ⟨v, rfl, rfl⟩
      refine ⟨_, rfl, _, rfl, _, _, 5 * t + 1, rfl, Int.pow_pos (by omega), pow_small hq, by omega, fun r H' s nr hR => ?_⟩
      rw [rat_pow p q (by omega)] at hR
      exact k r H' s nr hR
end

abbrev s__law_fits : Stmt := topS 18
theorem sc__law_fits : FnScope ["_law_ratio_here", "_law_step", "_law_one", "_law_other"] ["_law_ratio_here", "_law_step"] (defScope s__law_fits) := ⟨rfl, rfl, rfl, by decide +kernel, rfl, by decide +kernel, by decide +kernel⟩


def sp__law_fits (K : PySem.W.Frag) : Sp := fun vs H Q _ => ∃ (a : Addr) (p q t : Nat), vs = [.ref a, .int (t : Nat)] ∧ SqT K H a [.int (p : Nat), .int (q : Nat)] ∧ IsRat p q ∧ t ≤ 900 ∧
  ∀ (H' : Hp), Same H H' → Q (.bl (decide (FitsR (rat p q) t))) H'
section
variable {P : Program} {w : World} {K : PySem.W.Frag} {mg : Str → Option Value} {base : Heap}
theorem ok__law_fits (A : At K mg "_law_fits" s__law_fits ["_law_ratio_here", "_law_step"]) (B : Bn mg) (H__law_power : CalE P w K mg base "_law_power" ["_law_ratio_here", "_law_times"] 2 (sp__law_power K)) : CalE P w K mg base "_law_fits" ["_law_ratio_here", "_law_step"] 3 (sp__law_fits K) := by
  obtain ⟨f, fd, F, gF, bF⟩ := A
  obtain ⟨f__law_power, fd__law_power, G__law_power⟩ := H__law_power
  refine ⟨f, fd, F.ok sc__law_fits (fun vs H Q E h => ?_) (fun cdv A outer s H vs Q E hr h => ?_), gF, F.kp, bF⟩
  · repeat (first | (obtain ⟨rfl, _⟩ := h; rfl) | (obtain ⟨_, h⟩ := h))
  · obtain ⟨a, p, q, t, rfl, hS, hr0, ht, k⟩ := h
    have hp := hr0.p1
    have hpq := hr0.pq
    have hq := hr0.q30
    have b1 := Bd.pow (p := p) (q := q) (by omega) hq (by omega) t
    have b2 := Bd.pow (p := p) (q := q) (by omega) hq (by omega) (t + 1)
    refine ⟨_, (pss_cons (ps_par (i := 2) (j := 3) (by rfl) sc__law_fits.nd rfl rfl (by decide) rfl rfl (pa_cons (pe_call G__law_power.ok (hr.mono (by first | decide | exact Nat.le_refl _)) (by rfl) G__law_power.g G__law_power.kp G__law_power.b .nil pass0 (pa_cons (pv 0) (pa_cons (pv 1) pa_nil))) (pa_cons (pe_call G__law_power.ok (hr.mono (by first | decide | exact Nat.le_refl _)) (by rfl) G__law_power.g G__law_power.kp G__law_power.b .nil pass0 (pa_cons (pv 0) (pa_cons (pe_op op_add (pv 1) pe_int) pa_nil))) pa_nil)) (by rfl))
      (pss_one (ps_ret (pe_cmpR op_le (pe_op op_add (pe_op op_mulW (pe_ix (ix_tup_ K) (pv 2) pe_int (fun _ _ => rfl)) (pe_ix (ix_tup_ K) (pv 3) pe_int (fun _ _ => rfl))) (pe_op op_mulW (pe_ix (ix_tup_ K) (pv 3) pe_int (fun _ _ => rfl)) (pe_ix (ix_tup_ K) (pv 2) pe_int (fun _ _ => rfl)))) (pe_op op_mulW (pe_ix (ix_tup_ K) (pv 2) pe_int (fun _ _ => rfl)) (pe_ix (ix_tup_ K) (pv 3) pe_int (fun _ _ => rfl))) (nomark _))))), ?_⟩
    refine ⟨_, rfl, _, rfl, a, p, q, t, rfl, hS, hr0, by omega, fun r1 H1 s1 n1 R1 => ?_⟩
    refine ⟨_, rfl, _, rfl, _, _, rfl, rfl, a, p, q, t + 1, rfl, Same.seqT s1 hS, hr0, by omega, fun r2 H2 s2 n2 R2 => ?_⟩
    have R1' := R1.same s2
    unfold RatAt at R1' R2
    refine ⟨_, _, rfl, ?_⟩
    refine ⟨_, rfl, r1, _, 0, _, rfl, rfl, R1', rfl, _, rfl, r2, _, 1, _, rfl, rfl, R2, rfl, _, _, rfl, rfl, bd_w b1.1 (bd_den b2) (by omega), ?_⟩
    refine ⟨_, rfl, r2, _, 0, _, rfl, rfl, R2, rfl, _, rfl, r1, _, 1, _, rfl, rfl, R1', rfl, _, _, rfl, rfl, bd_w b2.1 (bd_den b1) (by omega), _, _, rfl, rfl, ?_⟩
    refine ⟨_, rfl, r1, _, 1, _, rfl, rfl, R1', rfl, _, rfl, r2, _, 1, _, rfl, rfl, R2, rfl, _, _, rfl, rfl, bd_w (bd_den b1) (bd_den b2) (by omega), _, _, rfl, rfl, ?_⟩
    have e : decide ((rat p q ^ t).num * ((rat p q ^ (t + 1)).den : Int) + (rat p q ^ (t + 1)).num * ((rat p q ^ t).den : Int) ≤ ((rat p q ^ t).den : Int) * ((rat p q ^ (t + 1)).den : Int)) = decide (FitsR (rat p q) t) := by
      refine decide_eq_decide.mpr ?_
      exact rat_sum_le _ _
    show Q (.bl (decide _)) H2
    rw [e]
    exact k H2 (s1.trans s2)
end

abbrev s_law : Stmt := topS 19
theorem sc_law : FnScope ["_law_script", "_law_h", "_law_turn", "_law_ratio_here", "_law_step"] ["_law_script"] (defScope s_law) := ⟨rfl, rfl, rfl, by decide +kernel, rfl, by decide +kernel, by decide +kernel⟩
def sp_law (K : PySem.W.Frag) : Sp := fun vs H Q _ => ∃ (a : Addr) (ns : List Int), vs = [.ref a] ∧ SqL K H a (ns.map V.int) ∧ ns.length ≤ 63 ∧ ∀ H', Q (.bl true) H'
section
variable {P : Program} {w : World} {K : PySem.W.Frag} {mg : Str → Option Value} {base : Heap}
theorem ok_law {f : Addr} {fd : FuncData} (F : Fun K "law" "law" s_law f fd) (B : Bn mg) (H__law_mix : CalE P w K mg base "_law_mix" ["_law_script", "_law_seed"] 1 (sp__law_mix K)) (H__law_ratio : CalE P w K mg base "_law_ratio" ["_law_h"] 3 (sp__law_ratio K)) (H_best_step : CalE P w K mg base "best_step" ["ratio"] 4 (sp_best_step K)) (H__law_fits : CalE P w K mg base "_law_fits" ["_law_ratio_here", "_law_step"] 3 (sp__law_fits K)) : FnOk P w K mg base CX0 5 f fd ["_law_script"] (sp_law K) := by
  obtain ⟨f__law_mix, fd__law_mix, G__law_mix⟩ := H__law_mix
  obtain ⟨f__law_ratio, fd__law_ratio, G__law_ratio⟩ := H__law_ratio
  obtain ⟨f_best_step, fd_best_step, G_best_step⟩ := H_best_step
  obtain ⟨f__law_fits, fd__law_fits, G__law_fits⟩ := H__law_fits
  refine F.ok sc_law (fun vs H Q E h => ?_) (fun cdv A outer s H vs Q E hr h => ?_)
  · obtain ⟨a, ns, rfl, _⟩ := h
    rfl
  obtain ⟨a, ns, rfl, hS, hlen, k⟩ := h
  refine ⟨_, (pss_cons (ps_set (i := 1) sc_law.nd rfl (.inl rfl) (pe_call G__law_mix.ok (hr.mono (by first | decide | exact Nat.le_refl _)) (by rfl) G__law_mix.g G__law_mix.kp G__law_mix.b .nil pass0 (pa_cons (pv 0) (pa_cons pe_int pa_nil))))
      (pss_cons (ps_for PassesOwn.never rfl (pi_range1 (by rfl) B.range_ (pa_cons pe_int pa_nil)) (pg_name (i := 2) sc_law.nd rfl (.inl rfl))
      (pss_cons (ps_set (i := 3) sc_law.nd rfl (.inl rfl) (pe_call G__law_ratio.ok (hr.mono (by first | decide | exact Nat.le_refl _)) (by rfl) G__law_ratio.g G__law_ratio.kp G__law_ratio.b .nil pass0 (pa_cons (pv 1) pa_nil)))
      (pss_cons (ps_set (i := 4) sc_law.nd rfl (.inl rfl) (pe_call G_best_step.ok (hr.mono (by first | decide | exact Nat.le_refl _)) (by rfl) G_best_step.g G_best_step.kp G_best_step.b .nil pass0 (pa_cons (pv 3) pa_nil)))
      (pss_cons (ps_if (PW.pt (pw_or (pt_not (pt_val (pe_callB (call_isi_ K) (by rfl) B.isinstance_ (by decide +kernel) (pa_cons (pv 4) (pa_cons (pe_bltn (v := .ty "int") (by rfl) B.int_ (by decide +kernel) rfl) pa_nil))))) (pw_or (pt_val (pe_callB (call_isi_ K) (by rfl) B.isinstance_ (by decide +kernel) (pa_cons (pv 4) (pa_cons (pe_bltn (v := .ty "bool") (by rfl) B.bool_ (by decide +kernel) rfl) pa_nil)))) (pw_or (pt_cmpR op_lt (pv 4) pe_int (nomark _)) (pw_or1 (pt_not (pt_val (pe_call G__law_fits.ok (hr.mono (by first | decide | exact Nat.le_refl _)) (by rfl) G__law_fits.g G__law_fits.kp G__law_fits.b .nil pass0 (pa_cons (pv 3) (pa_cons (pv 4) pa_nil))))))))))
      (pss_one (ps_ret pe_bl))
      pss_nil)
      (pss_one (ps_if (PW.pt (pw_and (pt_cmpR op_gt (pv 4) pe_int (nomark _)) (pw_and1 (pt_val (pe_call G__law_fits.ok (hr.mono (by first | decide | exact Nat.le_refl _)) (by rfl) G__law_fits.g G__law_fits.kp G__law_fits.b .nil pass0 (pa_cons (pv 3) (pa_cons (pe_op op_sub (pv 4) pe_int) pa_nil)))))))
      (pss_one (ps_ret pe_bl))
      pss_nil))))))
      (pss_one (ps_ret pe_bl)))), ?_⟩
  refine ⟨_, rfl, a, ns, 3, rfl, hS, hlen, fun h q H1 s1 n1 n2 L1 => ?_⟩
  refine ⟨6, rfl, by decide, by decide, for_range (lo := 0) (n := 6) (fun i σ H2 => ∃ v2 v3 v4, σ = [some (.ref a), some (.ref h), v2, v3, v4] ∧ LawH H2 h q) ⟨_, _, _, rfl, L1⟩ ?_ ?_⟩
  · rintro i σ H2 hi ⟨v2, v3, v4, rfl, L2⟩
    refine ⟨_, rfl, h, q, rfl, L2, fun r x y H3 hr0 L3 S3 er => ?_⟩
    have hR : SqT K H3 r [.int (x : Nat), .int (y : Nat)] := .inl (.inl er)
    refine ⟨_, rfl, r, x, y, rfl, hR, hr0, fun s H4 hb s30 s4 => ?_⟩
    have hR4 := Same.seqT s4 hR
    have L4 := L3.same s4
    -- not isinstance(step, int) or isinstance(step, bool) or step < 1 or not fits(ratio, step)
    refine ⟨_, rfl, _, _, _, _, true, rfl, .ty _, .base (.int _), kit_ty (by decide +kernel), _, rfl, iteF ?_⟩
    refine ⟨_, rfl, _, _, _, _, false, rfl, .ty _, .base (.int _), kit_ty (by decide +kernel), _, rfl, iteF ?_⟩
    refine ⟨_, rfl, _, _, rfl, rfl, _, rfl, iteDF (by have := hb.1; omega) ?_⟩
    refine ⟨_, rfl, _, rfl, r, x, y, s, rfl, hR4, hr0, by omega, fun H5 s5 => ?_⟩
    rw [decide_eq_true hb.2.1]
    refine ⟨_, rfl, iteF ?_⟩
    have hR5 := Same.seqT s5 hR4
    have L5 := L4.same s5
    -- step > 1 and fits(ratio, step - 1)
    refine ⟨_, rfl, _, _, rfl, rfl, _, rfl, ite2 (fun c => ?_) (fun c => ?_)⟩
    · have c' : 1 < (s : Int) := of_decide_eq_true c
      obtain ⟨t, rfl⟩ : ∃ t, s = t + 1 := ⟨s - 1, by omega⟩
      refine ⟨_, rfl, _, rfl, _, _, rfl, rfl, r, x, y, t, ?_, hR5, hr0, by omega, fun H6 s6 => ?_⟩
      · show [V.ref r, V.int (((t + 1 : Nat) : Int) - 1)] = _
        rw [show (((t + 1 : Nat) : Int) - 1) = ((t : Nat) : Int) by omega]
      rw [decide_eq_false (hb.2.2 t (by omega) (by omega))]
      refine ⟨_, rfl, iteF ?_⟩
      exact ⟨_, _, _, rfl, L5.same s6⟩
    · refine iteF ?_
      exact ⟨_, _, _, rfl, L5⟩
  · rintro σ H2 ⟨v2, v3, v4, rfl, L2⟩
    exact k H2
end
end St
namespace St
open PySem PySem.Spec PyProof.Rows L2
theorem all_mk {l : PySem.W.OpenLaw} {w : World} {K : PySem.W.Frag} {h : Heap} {mg : Str → Option Value} {fa : Addr} (X : K.In h) (G : h.Ns mainGlobals mg) (hfa : mg "law" = some (.ref fa))
    {f0 : Addr} {od0 an0 : Option Addr} {sl0 : Array (Option Value)} {oc0 kV0 dc0 pm0 cd0 ct0 : Value}
    (a0 : PySem.W.nsIn K mainGlobals "_law_mix" = some (some (.ref f0))) (l0 : K.lookup f0 = some ⟨oc0, od0, .func (PySem.W.fnOf "_law_mix" "_law_mix" (defArgs s__law_mix) (defBody s__law_mix) (defScope s__law_mix) .none kV0 dc0 pm0 an0 cd0 ct0), sl0⟩) (c0 : PySem.W.codeIn K cd0 "_law_mix" = true) (k0 : PySem.W.keepIn K (.ref f0) = true)
    {f1 : Addr} {od1 an1 : Option Addr} {sl1 : Array (Option Value)} {oc1 kV1 dc1 pm1 cd1 ct1 : Value}
    (a1 : PySem.W.nsIn K mainGlobals "_law_next" = some (some (.ref f1))) (l1 : K.lookup f1 = some ⟨oc1, od1, .func (PySem.W.fnOf "_law_next" "_law_next" (defArgs s__law_next) (defBody s__law_next) (defScope s__law_next) .none kV1 dc1 pm1 an1 cd1 ct1), sl1⟩) (c1 : PySem.W.codeIn K cd1 "_law_next" = true) (k1 : PySem.W.keepIn K (.ref f1) = true)
    {f2 : Addr} {od2 an2 : Option Addr} {sl2 : Array (Option Value)} {oc2 kV2 dc2 pm2 cd2 ct2 : Value}
    (a2 : PySem.W.nsIn K mainGlobals "_law_pick" = some (some (.ref f2))) (l2 : K.lookup f2 = some ⟨oc2, od2, .func (PySem.W.fnOf "_law_pick" "_law_pick" (defArgs s__law_pick) (defBody s__law_pick) (defScope s__law_pick) .none kV2 dc2 pm2 an2 cd2 ct2), sl2⟩) (c2 : PySem.W.codeIn K cd2 "_law_pick" = true) (k2 : PySem.W.keepIn K (.ref f2) = true)
    {f3 : Addr} {od3 an3 : Option Addr} {sl3 : Array (Option Value)} {oc3 kV3 dc3 pm3 cd3 ct3 : Value}
    (a3 : PySem.W.nsIn K mainGlobals "_law_ratio" = some (some (.ref f3))) (l3 : K.lookup f3 = some ⟨oc3, od3, .func (PySem.W.fnOf "_law_ratio" "_law_ratio" (defArgs s__law_ratio) (defBody s__law_ratio) (defScope s__law_ratio) .none kV3 dc3 pm3 an3 cd3 ct3), sl3⟩) (c3 : PySem.W.codeIn K cd3 "_law_ratio" = true) (k3 : PySem.W.keepIn K (.ref f3) = true)
    {f4 : Addr} {od4 an4 : Option Addr} {sl4 : Array (Option Value)} {oc4 kV4 dc4 pm4 cd4 ct4 : Value}
    (a4 : PySem.W.nsIn K mainGlobals "is_integer" = some (some (.ref f4))) (l4 : K.lookup f4 = some ⟨oc4, od4, .func (PySem.W.fnOf "is_integer" "is_integer" (defArgs s_is_integer) (defBody s_is_integer) (defScope s_is_integer) .none kV4 dc4 pm4 an4 cd4 ct4), sl4⟩) (c4 : PySem.W.codeIn K cd4 "is_integer" = true) (k4 : PySem.W.keepIn K (.ref f4) = true)
    {f5 : Addr} {od5 an5 : Option Addr} {sl5 : Array (Option Value)} {oc5 kV5 dc5 pm5 cd5 ct5 : Value}
    (a5 : PySem.W.nsIn K mainGlobals "is_ratio" = some (some (.ref f5))) (l5 : K.lookup f5 = some ⟨oc5, od5, .func (PySem.W.fnOf "is_ratio" "is_ratio" (defArgs s_is_ratio) (defBody s_is_ratio) (defScope s_is_ratio) .none kV5 dc5 pm5 an5 cd5 ct5), sl5⟩) (c5 : PySem.W.codeIn K cd5 "is_ratio" = true) (k5 : PySem.W.keepIn K (.ref f5) = true)
    {f6 : Addr} {od6 an6 : Option Addr} {sl6 : Array (Option Value)} {oc6 kV6 dc6 pm6 cd6 ct6 : Value}
    (a6 : PySem.W.nsIn K mainGlobals "check_ratio" = some (some (.ref f6))) (l6 : K.lookup f6 = some ⟨oc6, od6, .func (PySem.W.fnOf "check_ratio" "check_ratio" (defArgs s_check_ratio) (defBody s_check_ratio) (defScope s_check_ratio) .none kV6 dc6 pm6 an6 cd6 ct6), sl6⟩) (c6 : PySem.W.codeIn K cd6 "check_ratio" = true) (k6 : PySem.W.keepIn K (.ref f6) = true)
    {f7 : Addr} {od7 an7 : Option Addr} {sl7 : Array (Option Value)} {oc7 kV7 dc7 pm7 cd7 ct7 : Value}
    (a7 : PySem.W.nsIn K mainGlobals "best_by" = some (some (.ref f7))) (l7 : K.lookup f7 = some ⟨oc7, od7, .func (PySem.W.fnOf "best_by" "best_by" (defArgs s_best_by) (defBody s_best_by) (defScope s_best_by) .none kV7 dc7 pm7 an7 cd7 ct7), sl7⟩) (c7 : PySem.W.codeIn K cd7 "best_by" = true) (k7 : PySem.W.keepIn K (.ref f7) = true)
    {f8 : Addr} {od8 an8 : Option Addr} {sl8 : Array (Option Value)} {oc8 kV8 dc8 pm8 cd8 ct8 : Value}
    (a8 : PySem.W.nsIn K mainGlobals "best_step" = some (some (.ref f8))) (l8 : K.lookup f8 = some ⟨oc8, od8, .func (PySem.W.fnOf "best_step" "best_step" (defArgs s_best_step) (defBody s_best_step) (defScope s_best_step) .none kV8 dc8 pm8 an8 cd8 ct8), sl8⟩) (c8 : PySem.W.codeIn K cd8 "best_step" = true) (k8 : PySem.W.keepIn K (.ref f8) = true)
    {f9 : Addr} {od9 an9 : Option Addr} {sl9 : Array (Option Value)} {oc9 kV9 dc9 pm9 cd9 ct9 : Value}
    (a9 : PySem.W.nsIn K mainGlobals "_law_frac" = some (some (.ref f9))) (l9 : K.lookup f9 = some ⟨oc9, od9, .func (PySem.W.fnOf "_law_frac" "_law_frac" (defArgs s__law_frac) (defBody s__law_frac) (defScope s__law_frac) .none kV9 dc9 pm9 an9 cd9 ct9), sl9⟩) (c9 : PySem.W.codeIn K cd9 "_law_frac" = true) (k9 : PySem.W.keepIn K (.ref f9) = true)
    {f10 : Addr} {od10 an10 : Option Addr} {sl10 : Array (Option Value)} {oc10 kV10 dc10 pm10 cd10 ct10 : Value}
    (a10 : PySem.W.nsIn K mainGlobals "_law_power" = some (some (.ref f10))) (l10 : K.lookup f10 = some ⟨oc10, od10, .func (PySem.W.fnOf "_law_power" "_law_power" (defArgs s__law_power) (defBody s__law_power) (defScope s__law_power) .none kV10 dc10 pm10 an10 cd10 ct10), sl10⟩) (c10 : PySem.W.codeIn K cd10 "_law_power" = true) (k10 : PySem.W.keepIn K (.ref f10) = true)
    {f11 : Addr} {od11 an11 : Option Addr} {sl11 : Array (Option Value)} {oc11 kV11 dc11 pm11 cd11 ct11 : Value}
    (a11 : PySem.W.nsIn K mainGlobals "_law_fits" = some (some (.ref f11))) (l11 : K.lookup f11 = some ⟨oc11, od11, .func (PySem.W.fnOf "_law_fits" "_law_fits" (defArgs s__law_fits) (defBody s__law_fits) (defScope s__law_fits) .none kV11 dc11 pm11 an11 cd11 ct11), sl11⟩) (c11 : PySem.W.codeIn K cd11 "_law_fits" = true) (k11 : PySem.W.keepIn K (.ref f11) = true)
    {f12 : Addr} {od12 an12 : Option Addr} {sl12 : Array (Option Value)} {oc12 kV12 dc12 pm12 cd12 ct12 : Value}
    (a12 : PySem.W.nsIn K mainGlobals "law" = some (some (.ref f12))) (l12 : K.lookup f12 = some ⟨oc12, od12, .func (PySem.W.fnOf "law" "law" (defArgs s_law) (defBody s_law) (defScope s_law) .none kV12 dc12 pm12 an12 cd12 ct12), sl12⟩) (c12 : PySem.W.codeIn K cd12 "law" = true) (k12 : PySem.W.keepIn K (.ref f12) = true)
    {tk0 : Tok} (n0 : PySem.W.nsIn K mainGlobals "MOST_PARTS" = some (some (.int 30 tk0)))
    (z_isinstance : PySem.W.nsIn K mainGlobals "isinstance" = some none)
    (z_int : PySem.W.nsIn K mainGlobals "int" = some none)
    (z_bool : PySem.W.nsIn K mainGlobals "bool" = some none)
    (z_str : PySem.W.nsIn K mainGlobals "str" = some none)
    (z_tuple : PySem.W.nsIn K mainGlobals "tuple" = some none)
    (z_list : PySem.W.nsIn K mainGlobals "list" = some none)
    (z_len : PySem.W.nsIn K mainGlobals "len" = some none)
    (z_range : PySem.W.nsIn K mainGlobals "range" = some none)
    (z_abs : PySem.W.nsIn K mainGlobals "abs" = some none)
    (z_min : PySem.W.nsIn K mainGlobals "min" = some none)
    (z_max : PySem.W.nsIn K mainGlobals "max" = some none)
    (z_sum : PySem.W.nsIn K mainGlobals "sum" = some none)
    (z_sorted : PySem.W.nsIn K mainGlobals "sorted" = some none)
    (z_enumerate : PySem.W.nsIn K mainGlobals "enumerate" = some none)
    (z_zip : PySem.W.nsIn K mainGlobals "zip" = some none)
    (z_set : PySem.W.nsIn K mainGlobals "set" = some none)
    (z_any : PySem.W.nsIn K mainGlobals "any" = some none)
    (z_all : PySem.W.nsIn K mainGlobals "all" = some none)
    : ∃ fd : FuncData, (∀ (s : Shared) (v : Value), BindsTo s fd ⟨[v], []⟩ [("_law_script", v)]) ∧ ∀ base : Heap, K.In base → base.Ns mainGlobals mg → FnOk l.prog w K mg base CX0 5 fa fd ["_law_script"] (sp_law K) := by
  have e := hfa.symm.trans (PySem.W.mg_of X G a12)
  cases e
  have F0 := fun_mk (st := s__law_mix) l0 c0 k0
  have b0 := F0.binds (ps := ["_law_script", "_law_seed"]) fun _ _ _ _ _ _ us hl => match us, hl with | [_, _], _ => rfl
  have A0 : At K mg "_law_mix" s__law_mix ["_law_script", "_law_seed"] := ⟨_, _, F0, PySem.W.mg_of X G a0, b0⟩
  have F1 := fun_mk (st := s__law_next) l1 c1 k1
  have b1 := F1.binds (ps := ["_law_h", "_law_cap"]) fun _ _ _ _ _ _ us hl => match us, hl with | [_, _], _ => rfl
  have A1 : At K mg "_law_next" s__law_next ["_law_h", "_law_cap"] := ⟨_, _, F1, PySem.W.mg_of X G a1, b1⟩
  have F2 := fun_mk (st := s__law_pick) l2 c2 k2
  have b2 := F2.binds (ps := ["_law_h", "_law_things"]) fun _ _ _ _ _ _ us hl => match us, hl with | [_, _], _ => rfl
  have A2 : At K mg "_law_pick" s__law_pick ["_law_h", "_law_things"] := ⟨_, _, F2, PySem.W.mg_of X G a2, b2⟩
  have F3 := fun_mk (st := s__law_ratio) l3 c3 k3
  have b3 := F3.binds (ps := ["_law_h"]) fun _ _ _ _ _ _ us hl => match us, hl with | [_], _ => rfl
  have A3 : At K mg "_law_ratio" s__law_ratio ["_law_h"] := ⟨_, _, F3, PySem.W.mg_of X G a3, b3⟩
  have F4 := fun_mk (st := s_is_integer) l4 c4 k4
  have b4 := F4.binds (ps := ["thing", "low", "high"]) fun _ _ _ _ _ _ us hl => match us, hl with | [_, _, _], _ => rfl
  have A4 : At K mg "is_integer" s_is_integer ["thing", "low", "high"] := ⟨_, _, F4, PySem.W.mg_of X G a4, b4⟩
  have F5 := fun_mk (st := s_is_ratio) l5 c5 k5
  have b5 := F5.binds (ps := ["thing"]) fun _ _ _ _ _ _ us hl => match us, hl with | [_], _ => rfl
  have A5 : At K mg "is_ratio" s_is_ratio ["thing"] := ⟨_, _, F5, PySem.W.mg_of X G a5, b5⟩
  have F6 := fun_mk (st := s_check_ratio) l6 c6 k6
  have b6 := F6.binds (ps := ["thing"]) fun _ _ _ _ _ _ us hl => match us, hl with | [_], _ => rfl
  have A6 : At K mg "check_ratio" s_check_ratio ["thing"] := ⟨_, _, F6, PySem.W.mg_of X G a6, b6⟩
  have F7 := fun_mk (st := s_best_by) l7 c7 k7
  have b7 := F7.binds (ps := ["ratio"]) fun _ _ _ _ _ _ us hl => match us, hl with | [_], _ => rfl
  have A7 : At K mg "best_by" s_best_by ["ratio"] := ⟨_, _, F7, PySem.W.mg_of X G a7, b7⟩
  have F8 := fun_mk (st := s_best_step) l8 c8 k8
  have b8 := F8.binds (ps := ["ratio"]) fun _ _ _ _ _ _ us hl => match us, hl with | [_], _ => rfl
  have A8 : At K mg "best_step" s_best_step ["ratio"] := ⟨_, _, F8, PySem.W.mg_of X G a8, b8⟩
  have F9 := fun_mk (st := s__law_frac) l9 c9 k9
  have b9 := F9.binds (ps := ["_law_number", "_law_parts"]) fun _ _ _ _ _ _ us hl => match us, hl with | [_, _], _ => rfl
  have A9 : At K mg "_law_frac" s__law_frac ["_law_number", "_law_parts"] := ⟨_, _, F9, PySem.W.mg_of X G a9, b9⟩
  have F10 := fun_mk (st := s__law_power) l10 c10 k10
  have b10 := F10.binds (ps := ["_law_ratio_here", "_law_times"]) fun _ _ _ _ _ _ us hl => match us, hl with | [_, _], _ => rfl
  have A10 : At K mg "_law_power" s__law_power ["_law_ratio_here", "_law_times"] := ⟨_, _, F10, PySem.W.mg_of X G a10, b10⟩
  have F11 := fun_mk (st := s__law_fits) l11 c11 k11
  have b11 := F11.binds (ps := ["_law_ratio_here", "_law_step"]) fun _ _ _ _ _ _ us hl => match us, hl with | [_, _], _ => rfl
  have A11 : At K mg "_law_fits" s__law_fits ["_law_ratio_here", "_law_step"] := ⟨_, _, F11, PySem.W.mg_of X G a11, b11⟩
  have F12 := fun_mk (st := s_law) l12 c12 k12
  have b12 := F12.binds (ps := ["_law_script"]) fun _ _ _ _ _ _ us hl => match us, hl with | [_], _ => rfl
  have A12 : At K mg "law" s_law ["_law_script"] := ⟨_, _, F12, PySem.W.mg_of X G a12, b12⟩
  have B : Bn mg := ⟨PySem.W.mg_none_of X G z_isinstance, PySem.W.mg_none_of X G z_int, PySem.W.mg_none_of X G z_bool, PySem.W.mg_none_of X G z_str, PySem.W.mg_none_of X G z_tuple, PySem.W.mg_none_of X G z_list, PySem.W.mg_none_of X G z_len, PySem.W.mg_none_of X G z_range, PySem.W.mg_none_of X G z_abs, PySem.W.mg_none_of X G z_min, PySem.W.mg_none_of X G z_max, PySem.W.mg_none_of X G z_sum, PySem.W.mg_none_of X G z_sorted, PySem.W.mg_none_of X G z_enumerate, PySem.W.mg_none_of X G z_zip, PySem.W.mg_none_of X G z_set, PySem.W.mg_none_of X G z_any, PySem.W.mg_none_of X G z_all⟩
  have N0 := PySem.W.mg_of X G n0
  refine ⟨PySem.W.fnOf "law" "law" (defArgs s_law) (defBody s_law) (defScope s_law) .none kV12 dc12 pm12 an12 cd12 ct12, fun s v => .of_eq rfl, fun base _ _ => ?_⟩
  have C0 : CalE l.prog w K mg base "_law_mix" ["_law_script", "_law_seed"] 1 (sp__law_mix K) := ok__law_mix A0 B
  have C1 : CalE l.prog w K mg base "_law_next" ["_law_h", "_law_cap"] 1 (sp__law_next K) := ok__law_next A1 B
  have C2 : CalE l.prog w K mg base "_law_pick" ["_law_h", "_law_things"] 2 (sp__law_pick K) := ok__law_pick A2 B C1
  have C3 : CalE l.prog w K mg base "_law_ratio" ["_law_h"] 3 (sp__law_ratio K) := ok__law_ratio A3 B C1 C2
  have C4 : CalE l.prog w K mg base "is_integer" ["thing", "low", "high"] 1 (sp_is_integer K) := ok_is_integer A4 B
  have C5 : CalE l.prog w K mg base "is_ratio" ["thing"] 2 (sp_is_ratio K) := ok_is_ratio A5 B C4 ⟨_, N0, _, rfl⟩
  have C6 : CalE l.prog w K mg base "check_ratio" ["thing"] 3 (sp_check_ratio K) := ok_check_ratio A6 B C5
  have C7 : CalE l.prog w K mg base "best_by" ["ratio"] 1 (sp_best_by K) := ok_best_by A7 B
  have C8 : CalE l.prog w K mg base "best_step" ["ratio"] 4 (sp_best_step K) := ok_best_step A8 B C6 C7
  have C9 : CalE l.prog w K mg base "_law_frac" ["_law_number", "_law_parts"] 1 (sp__law_frac K) := ok__law_frac A9 B
  have C10 : CalE l.prog w K mg base "_law_power" ["_law_ratio_here", "_law_times"] 2 (sp__law_power K) := ok__law_power A10 B C9
  have C11 : CalE l.prog w K mg base "_law_fits" ["_law_ratio_here", "_law_step"] 3 (sp__law_fits K) := ok__law_fits A11 B C10
  exact ok_law F12 B C0 C3 C8 C11
end St
open PySem PySem.W PyProof.Rows
set_option maxRecDepth 100000 in
set_option maxHeartbeats 0 in
theorem PySem.Challenge.cw_stepruns_k03_whole_best_steps_holds : PySem.Challenge.rw_stepruns_k03_whole_best_steps.Holds := by
  w_on; o_law; k_head; (case hw => w_witness2)
  k_fill
  refine L2.walk_of (l := PySem.Challenge.rw_stepruns_k03_whole_best_steps) (n := 63) (k := 5) (x := "_law_script") (CX := fun _ => L2.CX0) (sp := fun w => St.sp_law _) rfl (by decide) rfl ⟨rfl, by decide, by decide⟩ (fun w h Y => PySem.W.kIn_of Y) ?F (fun _ _ a ns hl _ hS => ⟨a, ns, rfl, hS, hl, fun _ => rfl⟩) (fun _ _ _ _ _ h => h)
  case F =>
    intro w mg fa h KX G hmg
    refine' St.all_mk KX G hmg ?a0 ?l0 ?c0 ?k0 ?a1 ?l1 ?c1 ?k1 ?a2 ?l2 ?c2 ?k2 ?a3 ?l3 ?c3 ?k3 ?a4 ?l4 ?c4 ?k4 ?a5 ?l5 ?c5 ?k5 ?a6 ?l6 ?c6 ?k6 ?a7 ?l7 ?c7 ?k7 ?a8 ?l8 ?c8 ?k8 ?a9 ?l9 ?c9 ?k9 ?a10 ?l10 ?c10 ?k10 ?a11 ?l11 ?c11 ?k11 ?a12 ?l12 ?c12 ?k12 ?n0 ?z_isinstance ?z_int ?z_bool ?z_str ?z_tuple ?z_list ?z_len ?z_range ?z_abs ?z_min ?z_max ?z_sum ?z_sorted ?z_enumerate ?z_zip ?z_set ?z_any ?z_all
    (case a0 => k_is)
    (case l0 => k_is)
    (case c0 => k_is)
    (case k0 => k_is)
    (case a1 => k_is)
    (case l1 => k_is)
    (case c1 => k_is)
    (case k1 => k_is)
    (case a2 => k_is)
    (case l2 => k_is)
    (case c2 => k_is)
    (case k2 => k_is)
    (case a3 => k_is)
    (case l3 => k_is)
    (case c3 => k_is)
    (case k3 => k_is)
    (case a4 => k_is)
    (case l4 => k_is)
    (case c4 => k_is)
    (case k4 => k_is)
    (case a5 => k_is)
    (case l5 => k_is)
    (case c5 => k_is)
    (case k5 => k_is)
    (case a6 => k_is)
    (case l6 => k_is)
    (case c6 => k_is)
    (case k6 => k_is)
    (case a7 => k_is)
    (case l7 => k_is)
    (case c7 => k_is)
    (case k7 => k_is)
    (case a8 => k_is)
    (case l8 => k_is)
    (case c8 => k_is)
    (case k8 => k_is)
    (case a9 => k_is)
    (case l9 => k_is)
    (case c9 => k_is)
    (case k9 => k_is)
    (case a10 => k_is)
    (case l10 => k_is)
    (case c10 => k_is)
    (case k10 => k_is)
    (case a11 => k_is)
    (case l11 => k_is)
    (case c11 => k_is)
    (case k11 => k_is)
    (case a12 => k_is)
    (case l12 => k_is)
    (case c12 => k_is)
    (case k12 => k_is)
    (case n0 => k_is)
    (case z_isinstance => k_is)
    (case z_int => k_is)
    (case z_bool => k_is)
    (case z_str => k_is)
    (case z_tuple => k_is)
    (case z_list => k_is)
    (case z_len => k_is)
    (case z_range => k_is)
    (case z_abs => k_is)
    (case z_min => k_is)
    (case z_max => k_is)
    (case z_sum => k_is)
    (case z_sorted => k_is)
    (case z_enumerate => k_is)
    (case z_zip => k_is)
    (case z_set => k_is)
    (case z_any => k_is)
    (case z_all => k_is)
#print axioms PySem.Challenge.cw_stepruns_k03_whole_best_steps_holds
