import PyProof.Rows.All
import Wide.All
import OpenK.AllK
import Wide.FinOn
import HandS.ForMost
import HandS.Evl
import HandS.Codes
import HandS.Conv
import HandS.Wide
import HandS.WideBits
import HandS.IsInst
import HandS.Flow
import HandS.Steps
import KE.KxField
import PySem.Challenge.RW_swornblocks_k21_tables
set_option Elab.async false
set_option linter.all false
set_option maxRecDepth 100000
set_option maxHeartbeats 4000000
namespace Sw
open PySem PySem.Spec PyProof.Rows L2 Evl
/-! ### what is known, what is owned -/
abbrev Mem := List (Addr × HO)
structure Own (G H : Hp) (M : Mem) : Prop where
  ex : Ex G H
  held : ∀ p ∈ M, H p.1 = some p.2
  no : ∀ p ∈ M, G p.1 = none
  nd : (M.map (·.1)).Nodup
section
variable {G G' H : Hp} {M : Mem} {a p : Addr} {o o' u : HO} {i : Nat}
theorem Own.get (w : Own G H M) (h : M[i]? = some (a, o)) : H a = some o := w.held (a, o) (List.mem_of_getElem? h)
theorem Own.gone (w : Own G H M) (h : M[i]? = some (a, o)) : G a = none := w.no (a, o) (List.mem_of_getElem? h)
theorem map_set_same {M : Mem} : ∀ {i : Nat}, M[i]? = some (a, o) → (M.set i (a, u)).map (·.1) = M.map (·.1) := by
  induction M with
  | nil => intro i h; rfl
  | cons q r ih =>
    intro i h
    cases i with
    | zero =>
      have e : q = (a, o) := Option.some.inj h
      rw [e]
      rfl
    | succ i =>
      show q.1 :: (r.set i (a, u)).map (·.1) = q.1 :: r.map (·.1)
      rw [ih (i := i) h]
theorem Own.set (w : Own G H M) (h : M[i]? = some (a, o)) : Own G (upd H a o') (M.set i (a, o')) := by
  have hn := w.gone h
  have hg := w.get h
  refine ⟨fun b z e => ?_, fun q hq => ?_, fun q hq => ?_, by rw [map_set_same h]; exact w.nd⟩
  · rw [upd_ne (ne_of_none e hn)]
    exact w.ex b z e
  · by_cases e : q.1 = a
    · obtain ⟨j, hj, ej⟩ := List.getElem_of_mem hq
      have hlt : i < M.length := (List.getElem?_eq_some_iff.mp h).1
      have hjl : j < M.length := by rw [List.length_set] at hj; exact hj
      by_cases hij : i = j
      · subst hij
        rw [List.getElem_set_self] at ej
        rw [← ej]
        exact upd_same
      · exfalso
        rw [List.getElem_set_ne hij] at ej
        have n1 : (M.map (·.1))[i]'(by rw [List.length_map]; exact hlt) = a := by
          rw [List.getElem_map]
          have z := (List.getElem?_eq_some_iff.mp h).2
          rw [z]
        have n2 : (M.map (·.1))[j]'(by rw [List.length_map]; exact hjl) = a := by
          rw [List.getElem_map, ej]
          exact e
        exact hij ((List.getElem_inj w.nd).mp (n1.trans n2.symm))
    · rw [upd_ne e]
      rcases List.mem_or_eq_of_mem_set hq with z | z
      · exact w.held q z
      · exact absurd (by rw [z]) e
  · rcases List.mem_or_eq_of_mem_set hq with z | z
    · exact w.no q z
    · rw [z]
      exact hn
theorem Own.freshG (w : Own G H M) (h : H p = none) : G p = none := fresh_back w.ex h
theorem Own.freshM (w : Own G H M) (h : H p = none) : ∀ q ∈ M, q.1 ≠ p := fun q hq e => by
  have z := w.held q hq
  rw [e, h] at z
  cases z
/-- a new object that is known from now on -/
theorem Own.newG (w : Own G H M) (h : H p = none) : Own (upd G p o) (upd H p o) M := by
  refine ⟨fun b z e => ?_, fun q hq => ?_, fun q hq => ?_, w.nd⟩
  · by_cases hb : b = p
    · subst hb
      rw [upd_same] at e ⊢
      exact e
    · rw [upd_ne hb] at e ⊢
      exact w.ex b z e
  · rw [upd_ne (w.freshM h q hq)]
    exact w.held q hq
  · rw [upd_ne (w.freshM h q hq)]
    exact w.no q hq
/-- .. that is owned -/
theorem Own.newM (w : Own G H M) (h : H p = none) : Own G (upd H p o) ((p, o) :: M) := by
  refine ⟨w.ex.trans (Ex.new h), fun q hq => ?_, fun q hq => ?_, ?_⟩
  · rcases List.mem_cons.mp hq with z | z
    · rw [z]
      exact upd_same
    · rw [upd_ne (w.freshM h q z)]
      exact w.held q z
  · rcases List.mem_cons.mp hq with z | z
    · rw [z]
      exact w.freshG h
    · exact w.no q z
  · rw [List.map_cons, List.nodup_cons]
    refine ⟨fun hm => ?_, w.nd⟩
    obtain ⟨q, hq, e⟩ := List.mem_map.mp hm
    exact w.freshM h q hq e
/-- .. that is forgotten -/
theorem Own.newF (w : Own G H M) (h : H p = none) : Own G (upd H p o) M :=
  ⟨w.ex.trans (Ex.new h), fun q hq => by rw [upd_ne (w.freshM h q hq)]; exact w.held q hq, w.no, w.nd⟩
theorem Own.drop {x : Addr × HO} (w : Own G H (x :: M)) : Own G H M :=
  ⟨w.ex, fun q hq => w.held q (List.mem_cons_of_mem _ hq), fun q hq => w.no q (List.mem_cons_of_mem _ hq), by
    have z := w.nd
    rw [List.map_cons, List.nodup_cons] at z
    exact z.2⟩
/-- an owned object is known and never changed from now on -/
theorem Own.freeze (w : Own G H ((p, o) :: M)) : Own (upd G p o) H M := by
  have hp : H p = some o := w.held (p, o) List.mem_cons_self
  have z := w.nd
  rw [List.map_cons, List.nodup_cons] at z
  refine ⟨fun b c e => ?_, fun q hq => w.held q (List.mem_cons_of_mem _ hq), fun q hq => ?_, z.2⟩
  · by_cases hb : b = p
    · subst hb
      rw [upd_same] at e
      rw [hp]
      exact e
    · rw [upd_ne hb] at e
      exact w.ex b c e
  · have hne : q.1 ≠ p := fun e => z.1 (List.mem_map.mpr ⟨q, hq, e⟩)
    rw [upd_ne hne]
    exact w.no q (List.mem_cons_of_mem _ hq)
theorem Own.top (w : Own G H ((p, o) :: M)) : G p = none := w.no (p, o) List.mem_cons_self
theorem Own.less (w : Own G' H M) (e : Ex G G') : Own G H M := ⟨e.trans w.ex, w.held, fun q hq => fresh_back e (w.no q hq), w.nd⟩
theorem Own.none (e : Ex G H) : Own G H [] := ⟨e, fun _ h => (List.not_mem_nil h).elim, fun _ h => (List.not_mem_nil h).elim, List.nodup_nil⟩
variable {K : PySem.W.Frag} {xs : List V}
theorem Own.l (w : Own G H M) (h : SqL K G a xs) : SqL K H a xs := ex_l w.ex h
theorem Own.t (w : Own G H M) (h : SqT K G a xs) : SqT K H a xs := ex_t w.ex h
theorem Own.ml (w : Own G H M) (h : M[i]? = some (a, .lst xs)) : SqL K H a xs := sq_of (w.get h)
end
/-- a call hands back knowledge: what was known is known -/
theorem own_all {G H : Hp} : Own G G [] ↔ True := ⟨fun _ => trivial, fun _ => Own.none (Ex.refl _)⟩

/-! ### steps -/
section
variable {σ : L2.St} {H : Hp} {Q : VK} {ta tb tc te : TE} {r r2 : R2} {v x y : V} {i : Nat} {D : Ends} {t u : TS} {tt tt2 : TT} {K : PySem.W.Frag}
theorem w_var (h : σ[i]? = some (some v)) (k : Q v H) : tVar i σ H Q := ⟨v, h, k⟩
theorem w_c (k : Q v H) : tC v σ H Q := k
theorem w_op (k : ta σ H fun x H1 => tb σ H1 fun y H2 => r x y H2 Q) : tOp r ta tb σ H Q := k
theorem w_un {r : V → Hp → VK → Prop} (k : ta σ H fun x H1 => r x H1 Q) : tUn r ta σ H Q := k
theorem w_I {C : Int → Int → Prop} {g : Int → Int → V} {a b : Int} (hc : C a b) (k : Q (g a b) H) : rI C g (.int a) (.int b) H Q := ⟨a, b, rfl, rfl, hc, k⟩
theorem w_I0 {g : Int → Int → V} {a b : Int} (k : Q (g a b) H) : rI0 g (.int a) (.int b) H Q := ⟨a, b, rfl, rfl, k⟩
theorem w_U {g : Int → V} {a : Int} (k : Q (g a) H) : rU g (.int a) H Q := ⟨a, rfl, k⟩
theorem w_eqI {a b : Int} (k : Q (.bl (decide (a = b))) H) : rEq (.int a) (.int b) H Q := ⟨rfl, by
  have e : decide (V.int a = V.int b) = decide (a = b) := decide_eq_decide.mpr ⟨V.int.inj, congrArg _⟩
  rw [e]
  exact k⟩
theorem w_neI {a b : Int} (k : Q (.bl (!decide (a = b))) H) : rNe (.int a) (.int b) H Q := ⟨rfl, by
  have e : decide (V.int a = V.int b) = decide (a = b) := decide_eq_decide.mpr ⟨V.int.inj, congrArg _⟩
  rw [e]
  exact k⟩
theorem w_eqS {a b : Str} (k : Q (.bl (decide (a = b))) H) : rEq (.str a) (.str b) H Q := ⟨rfl, by
  have e : decide (V.str a = V.str b) = decide (a = b) := decide_eq_decide.mpr ⟨V.str.inj, congrArg _⟩
  rw [e]
  exact k⟩
theorem w_neS {a b : Str} (k : Q (.bl (!decide (a = b))) H) : rNe (.str a) (.str b) H Q := ⟨rfl, by
  have e : decide (V.str a = V.str b) = decide (a = b) := decide_eq_decide.mpr ⟨V.str.inj, congrArg _⟩
  rw [e]
  exact k⟩
theorem w_eqB {a b : Bool} (k : Q (.bl (decide (a = b))) H) : rEq (.bl a) (.bl b) H Q := ⟨rfl, by
  have e : decide (V.bl a = V.bl b) = decide (a = b) := decide_eq_decide.mpr ⟨V.bl.inj, congrArg _⟩
  rw [e]
  exact k⟩
theorem w_test {Q : Bool → Hp → Prop} (k : te σ H fun x H' => ∃ k, x = .bl k ∧ Q k H') : tTest te σ H Q := k
theorem w_B {Q : Bool → Hp → Prop} (k : te σ H fun x H' => ∃ k, x = .bl k ∧ Q k H') : tB te σ H Q := k
theorem w_bl {A : Bool → Prop} {b : Bool} (k : A b) : ∃ c, V.bl b = .bl c ∧ A c := ⟨b, rfl, k⟩
theorem w_ex1 {A : Int → Prop} {n : Int} (k : A n) : ∃ i, V.int n = .int i ∧ A i := ⟨n, rfl, k⟩
theorem w_bits (k : ta σ H fun x H1 => ∃ i, x = .int i ∧ Q (.int (Builtin.Int.intBits i : Nat)) H1) : tBits ta σ H Q := k
theorem w_not {Q : Bool → Hp → Prop} (k : tt σ H fun c H1 => Q (!c) H1) : tNot tt σ H Q := k
theorem w_and {Q : Bool → Hp → Prop} (k : tt σ H fun c H1 => if c = true then tt2 σ H1 Q else Q false H1) : tAnd tt tt2 σ H Q := k
theorem w_or {Q : Bool → Hp → Prop} (k : tt σ H fun c H1 => if c = true then Q true H1 else tt2 σ H1 Q) : tOr tt tt2 σ H Q := k
theorem w_if (k : tt σ H fun c H1 => if c = true then ta σ H1 Q else tb σ H1 Q) : tIf tt ta tb σ H Q := k
theorem w_andV (k : ta σ H fun x H1 => ∃ c, x = .bl c ∧ if c = true then tb σ H1 Q else Q (.bl false) H1) : tAndV ta tb σ H Q := k
theorem w_orV (k : ta σ H fun x H1 => ∃ c, x = .bl c ∧ if c = true then Q (.bl true) H1 else tb σ H1 Q) : tOrV ta tb σ H Q := k
theorem w_notV (k : ta σ H fun x H1 => ∃ c, x = .bl c ∧ Q (.bl (!c)) H1) : tNotV ta σ H Q := k
theorem w_nil {Q : List V → Hp → Prop} (k : Q [] H) : tNil σ H Q := k
theorem w_cons {tr : TA} {Q : List V → Hp → Prop} (k : ta σ H fun x H1 => tr σ H1 fun xs H2 => Q (x :: xs) H2) : tCons ta tr σ H Q := k
theorem w_call {sp : Sp} {dvs : List V} {E : XK} {t : TA} (k : t σ H fun vs H1 => sp (vs ++ dvs) H1 Q E) : tCall sp dvs E t σ H Q := k
theorem w_cb {r : List V → Hp → VK → Prop} {t : TA} (k : t σ H fun vs H1 => r vs H1 Q) : tCB r t σ H Q := k
theorem w_bm0 {T : String} {r : V → List V → Hp → VK → Prop} (k : ta σ H fun x H1 => tyV K T x H1 ∧ r x [] H1 Q) : tBM0 K T r ta σ H Q := k
theorem w_bm {T : String} {r : V → List V → Hp → VK → Prop} {t : TA} (k : ta σ H fun x H1 => tyV K T x H1 ∧ t σ H1 fun xs H2 => r x xs H2 Q) : tBM K T r ta t σ H Q := k
theorem w_chain {r' : R2} (k : ta σ H fun x H1 => tb σ H1 fun y H2 => r x y H2 fun z H3 => ∃ k, z = .bl k ∧ (if k = true then tc σ H3 fun w' H4 => r' y w' H4 Q else Q (.bl false) H3)) : tChain r r' ta tb tc σ H Q := k
theorem w_seq (k : t { D with nx := u D } σ H) : tSeq t u D σ H := k
theorem w_augS {to ti te : TE} {tget : V → V → Hp → VK → Prop} {tip : TIp} {tset : TSet} (k : to σ H fun o H1 => ti σ H1 fun i H2 => tget o i H2 fun x H3 => te σ H3 fun y H4 => tip x y H4 fun z H5 => tset o i z H5 fun H6 => D.nx σ H6) : tAugS to ti te tget tip tset D σ H := k
theorem w_next (k : D.nx σ H) : tNext D σ H := k
theorem w_asg {g : TG} (k : te σ H fun x H1 => g x σ H1 D.nx) : tAsg te g D σ H := k
theorem w_name {R : L2.St → Hp → Prop} {σ' : L2.St} (e : σ.set i (some v) = σ') (k : R σ' H) : gName i v σ H R := by
  subst e
  exact k
theorem w_ret (k : te σ H D.rt) : tRet te D σ H := k
theorem w_retN (k : D.rt .non H) : tRetN D σ H := k
theorem w_drop (k : te σ H fun _ H1 => D.nx σ H1) : tDrop te D σ H := k
theorem w_ifS (k : tt σ H fun b H1 => if b = true then t D σ H1 else u D σ H1) : tIfS tt t u D σ H := k
theorem w_aug {ti : TIp} (h : σ[i]? = some (some x)) (k : te σ H fun y H1 => ti x y H1 fun z H2 => D.nx (σ.set i (some z)) H2) : tAug i te ti D σ H := ⟨x, h, k⟩
theorem w_ip {f : Int → Int → Int} {a b : Int} {Q : VK} (k : Q (.int (f a b)) H) : ipI f (.int a) (.int b) H Q := ⟨a, b, rfl, rfl, k⟩
theorem w_gsub {to ti : TE} {ts : TSet} {R : L2.St → Hp → Prop} (k : to σ H fun o H1 => ti σ H1 fun i H2 => ts o i v H2 fun H3 => R σ H3) : gSub to ti ts v σ H R := k
theorem w_yes {Q : Bool → Hp → Prop} (k : Q true H) : tYes σ H Q := k
end
/-! ### rules by name -/
def rInt1 : List V → Hp → VK → Prop := fun xs H Q => (∃ i, xs = [.int i] ∧ Q (.int i) H) ∨ ∃ k, xs = [.bl k] ∧ Q (.int (if k then 1 else 0)) H
theorem call_int {X : Cx} : CallR X (.type "int") rInt1 := call_int1
def rAbs : List V → Hp → VK → Prop := fun xs H Q => ∃ i, xs = [.int i] ∧ Q (.int (if i < 0 then -i else i)) H
theorem call_absN {X : Cx} : CallR X (.builtin "abs") rAbs := call_abs
def rMax2 : List V → Hp → VK → Prop := fun xs H Q => ∃ i j, xs = [.int i, .int j] ∧ Q (.int (if j > i then j else i)) H
def rMin2 : List V → Hp → VK → Prop := fun xs H Q => ∃ i j, xs = [.int i, .int j] ∧ Q (.int (if j < i then j else i)) H
theorem call_maxN {X : Cx} (hc : X.calm = true) : CallR X (.builtin "max") rMax2 := call_max2 hc
theorem call_minN {X : Cx} (hc : X.calm = true) : CallR X (.builtin "min") rMin2 := call_min2 hc
def rLenQ (K : PySem.W.Frag) : List V → Hp → VK → Prop := fun xs H Q => ∃ p ys, xs = [.ref p] ∧ (SqL K H p ys ∨ SqT K H p ys) ∧ Q (.int ys.length) H
theorem call_lenQ {X : Cx} : CallR X (.builtin "len") (rLenQ X.K) := call_len_seq
def rLenS : List V → Hp → VK → Prop := fun xs H Q => ∃ z, xs = [.str z] ∧ z.length ≤ sizeLine ∧ Q (.int z.length) H
theorem call_lenS {X : Cx} : CallR X (.builtin "len") rLenS := call_len_str
def rListOf (K : PySem.W.Frag) : List V → Hp → VK → Prop := fun xs H Q => ∃ p ys, xs = [.ref p] ∧ (SqL K H p ys ∨ SqT K H p ys) ∧ ∀ l, H l = none → Q (.ref l) (upd H l (.lst ys))
theorem call_listOf {X : Cx} : CallR X (.type "list") (rListOf X.K) := call_list_of
def rTupOf (K : PySem.W.Frag) : List V → Hp → VK → Prop := fun xs H Q => ∃ p ys, xs = [.ref p] ∧ ((SqL K H p ys ∧ ∀ l, H l = none → Q (.ref l) (upd H l (.tup ys))) ∨ (SqT K H p ys ∧ Q (.ref p) H))
theorem call_tupOf {X : Cx} : CallR X (.type "tuple") (rTupOf X.K) := call_tuple_of
def rCountS : V → List V → Hp → VK → Prop := fun x xs H Q => ∃ a b, x = .str a ∧ xs = [.str b] ∧ Q (.int (Txt.count a b)) H
theorem mt_countN {X : Cx} : MtR X "str.count" rCountS := mt_count
def rAddS : R2 := fun x y H Q => ∃ i j, x = .str i ∧ y = .str j ∧ i.length + j.length ≤ sizeLine ∧ Q (.str (i ++ j)) H
theorem op_addS {X : Cx} : OpR X (binaryOp .Add) rAddS := op_add_str
section
variable {H : Hp} {Q : VK} {K : PySem.W.Frag} {a : Addr} {xs : List V} {v : V} {j : Int} {G G0 : Hp} {M : Mem}
theorem w_int {i : Int} (k : Q (.int i) H) : rInt1 [.int i] H Q := .inl ⟨i, rfl, k⟩
theorem w_intB {b : Bool} (k : Q (.int (if b then 1 else 0)) H) : rInt1 [.bl b] H Q := .inr ⟨b, rfl, k⟩
theorem w_abs {i : Int} (k : Q (.int (if i < 0 then -i else i)) H) : rAbs [.int i] H Q := ⟨i, rfl, k⟩
theorem w_max {i j : Int} (k : Q (.int (if j > i then j else i)) H) : rMax2 [.int i, .int j] H Q := ⟨i, j, rfl, k⟩
theorem w_min {i j : Int} (k : Q (.int (if j < i then j else i)) H) : rMin2 [.int i, .int j] H Q := ⟨i, j, rfl, k⟩
theorem w_lenL (h : SqL K H a xs) (k : Q (.int xs.length) H) : rLenQ K [.ref a] H Q := ⟨a, xs, rfl, .inl h, k⟩
theorem w_lenT (h : SqT K H a xs) (k : Q (.int xs.length) H) : rLenQ K [.ref a] H Q := ⟨a, xs, rfl, .inr h, k⟩
theorem w_lenS {z : Str} (h : z.length ≤ sizeLine) (k : Q (.int z.length) H) : rLenS [.str z] H Q := ⟨z, rfl, h, k⟩
theorem w_ixL (h : SqL K H a xs) (hat : atI xs j = some v) (k : Q v H) : rIxL K (.ref a) (.int j) H Q := ⟨a, xs, j, v, rfl, rfl, h, hat, k⟩
theorem w_ixT (h : SqT K H a xs) (hat : atI xs j = some v) (k : Q v H) : rIxT K (.ref a) (.int j) H Q := ⟨a, xs, j, v, rfl, rfl, h, hat, k⟩
theorem w_ixM (h : H a = some (.lst xs)) (hat : atI xs j = some v) (k : Q v H) : rIxL K (.ref a) (.int j) H Q := ⟨a, xs, j, v, rfl, rfl, sq_of h, hat, k⟩
theorem w_setM {i : Int} {n : Nat} {R : Hp → Prop} (h : H a = some (.lst xs)) (hn : ixN xs.length i = some n) (k : R (upd H a (.lst (xs.set n v)))) : rSetL (.ref a) (.int i) v H R := ⟨a, xs, i, n, rfl, rfl, h, hn, k⟩
theorem w_addS {x y : Str} (h : x.length + y.length ≤ sizeLine) (k : Q (.str (x ++ y)) H) : rAddS (.str x) (.str y) H Q := ⟨x, y, rfl, rfl, h, k⟩
theorem w_tup {ta : TA} {σ : L2.St} (k : ta σ H fun xs H1 => xs.length ≤ sizeLine ∧ ∀ p, H1 p = none → Q (.ref p) (upd H1 p (.tup xs))) : tTup ta σ H Q := k
theorem w_lst {ta : TA} {σ : L2.St} (k : ta σ H fun xs H1 => xs.length ≤ sizeLine ∧ ∀ p, H1 p = none → Q (.ref p) (upd H1 p (.lst xs))) : tLst ta σ H Q := k
end
theorem w_cut {t u : TS} {D : Ends} {σ : L2.St} {H : Hp} (Mid : L2.St → Hp → Prop) (h1 : t { D with nx := Mid } σ H) (h2 : ∀ σ' H', Mid σ' H' → u D σ' H') : C8.tCut t u D σ H := ⟨Mid, h1, h2⟩
theorem w_ite {p A B : Prop} {d : Decidable p} (h1 : p → A) (h2 : ¬ p → B) : if decide p = true then A else B := by
  by_cases h : p
  · rw [decide_eq_true h, if_pos rfl]
    exact h1 h
  · rw [decide_eq_false h, if_neg Bool.false_ne_true]
    exact h2 h
theorem w_iten {p A B : Prop} {d : Decidable p} (h1 : ¬ p → A) (h2 : p → B) : if (!decide p) = true then A else B := by
  by_cases h : p
  · rw [decide_eq_true h, Bool.not_true, if_neg Bool.false_ne_true]
    exact h2 h
  · rw [decide_eq_false h, Bool.not_false, if_pos rfl]
    exact h1 h
theorem w_iteb {b : Bool} {A B : Prop} (h1 : b = true → A) (h2 : b = false → B) : if b = true then A else B := by
  cases b with
  | true => rw [if_pos rfl]; exact h1 rfl
  | false => rw [if_neg Bool.false_ne_true]; exact h2 rfl
theorem w_itenb {b : Bool} {A B : Prop} (h1 : b = false → A) (h2 : b = true → B) : if (!b) = true then A else B := by
  cases b with
  | true => rw [Bool.not_true, if_neg Bool.false_ne_true]; exact h2 rfl
  | false => rw [Bool.not_false, if_pos rfl]; exact h1 rfl
theorem set_same {α : Type} {l : List α} {i : Nat} {x : α} (h : l[i]? = some x) : l.set i x = l := by
  refine List.ext_getElem? fun j => ?_
  rw [List.getElem?_set]
  by_cases e : i = j
  · subst e
    rw [if_pos rfl, if_pos (List.getElem?_eq_some_iff.mp h).1, h]
  · rw [if_neg e]
theorem Own.put {G H : Hp} {M : Mem} {i : Nat} {a : Addr} {o o' u : HO} (w : Own G H (M.set i (a, o))) (h : M[i]? = some (a, u)) : Own G (upd H a o') (M.set i (a, o')) := by
  have hi : i < M.length := (List.getElem?_eq_some_iff.mp h).1
  have z := w.set (i := i) (a := a) (o := o) (o' := o') (by rw [List.getElem?_set_self hi])
  rw [List.set_set] at z
  exact z
theorem one_pow (n : Nat) : (0 : Int) < 1 * 2 ^ n := Int.mul_pos (by decide) (Int.pow_pos (by decide))

/-! ### isinstance -/
section
variable {K : PySem.W.Frag} {H : Hp} {Q : VK}
theorem w_isiInt {i : Int} {n : String} {b : Bool} (h : kitB "int" n = some b) (k : Q (.bl b) H) : rIsi K [.int i, .ty n] H Q := ⟨_, _, _, _, b, rfl, .ty n, .base (.int i), kit_ty h, k⟩
theorem w_isiBool {i : Bool} {n : String} {b : Bool} (h : kitB "bool" n = some b) (k : Q (.bl b) H) : rIsi K [.bl i, .ty n] H Q := ⟨_, _, _, _, b, rfl, .ty n, .base (.bl i), kit_ty h, k⟩
theorem w_isiStr {i : Str} {n : String} {b : Bool} (h : kitB "str" n = some b) (k : Q (.bl b) H) : rIsi K [.str i, .ty n] H Q := ⟨_, _, _, _, b, rfl, .ty n, .base (.str i), kit_ty h, k⟩
theorem w_isiNon {n : String} {b : Bool} (h : kitB "NoneType" n = some b) (k : Q (.bl b) H) : rIsi K [.non, .ty n] H Q := ⟨_, _, _, _, b, rfl, .ty n, .base .non, kit_ty h, k⟩
theorem w_isiLst {a : Addr} {xs : List V} {n : String} {b : Bool} (e : H a = some (.lst xs)) (h : kitB "list" n = some b) (k : Q (.bl b) H) : rIsi K [.ref a, .ty n] H Q := ⟨_, _, _, _, b, rfl, .ty n, .base (.lst e), kit_ty h, k⟩
theorem w_isiTup {a : Addr} {xs : List V} {n : String} {b : Bool} (e : H a = some (.tup xs)) (h : kitB "tuple" n = some b) (k : Q (.bl b) H) : rIsi K [.ref a, .ty n] H Q := ⟨_, _, _, _, b, rfl, .ty n, .base (.tup e), kit_ty h, k⟩
end
/-! ### loops and comprehensions -/
section
variable {K : PySem.W.Frag} {σ : L2.St} {H : Hp} {Q : VK} {D : Ends} {g : TG} {tb : TS} {tt : TT} {te : TE} {a : Addr} {xs : List V} {ta : TA} {tl : TE} {vs : List Nat} {j : Nat}
theorem w_forW {wi : TI} (k : wi σ H fun J H1 => ∃ W : Nat → Nat → L2.St → Hp → Prop, (∃ m, W 0 m σ H1) ∧ ∀ i m σ H, W i m σ H →
  (J.stop i H ∧ D.nx σ H) ∨ (J.go i H ∧ ∃ N : L2.St → Hp → Prop, (∀ σ' H', N σ' H' → ∃ m', m' < m ∧ W (i + 1) m' σ' H') ∧ ∀ x H', J.yld i H x H' → g x σ H' fun σ2 H2 => tb { D with nx := N, ct := N, bk := D.nx } σ2 H2)) : tFor wi g tb D σ H := k
/-- what a loop's reading asks behind what is walked -/
def LoopOk (g : TG) (tb : TS) (D : Ends) (σ : L2.St) (J : It) (H1 : Hp) : Prop := ∃ W : Nat → Nat → L2.St → Hp → Prop, (∃ m, W 0 m σ H1) ∧ ∀ i m σ H, W i m σ H →
  (J.stop i H ∧ D.nx σ H) ∨ (J.go i H ∧ ∃ N : L2.St → Hp → Prop, (∀ σ' H', N σ' H' → ∃ m', m' < m ∧ W (i + 1) m' σ' H') ∧ ∀ x H', J.yld i H x H' → g x σ H' fun σ2 H2 => tb { D with nx := N, ct := N, bk := D.nx } σ2 H2)
theorem w_for {wi : TI} (k : wi σ H (LoopOk g tb D σ)) : tFor wi g tb D σ H := k
theorem w_iList {R : It → Hp → Prop} (k : tl σ H fun x H1 => ∃ a, x = .ref a ∧ (∃ xs, SqL K H1 a xs) ∧ R (Itl K a) H1) : iList K tl σ H R := k
theorem w_iTup {R : It → Hp → Prop} (k : tl σ H fun x H1 => ∃ a, x = .ref a ∧ (∃ xs, SqT K H1 a xs) ∧ R (Itt K a) H1) : iTup K tl σ H R := k
theorem w_iRng1 {R : It → Hp → Prop} (k : ta σ H fun vs H1 => ∃ j : Int, vs = [.int j] ∧ -(2 ^ 62) ≤ j ∧ j < 2 ^ 62 ∧ R (Itr 0 j.toNat) H1) : iRng1 ta σ H R := k
theorem w_iRng2 {R : It → Hp → Prop} (k : ta σ H fun vs H1 => ∃ i j : Int, vs = [.int i, .int j] ∧ (-(2 ^ 62) ≤ i ∧ i < 2 ^ 62 ∧ -(2 ^ 62) ≤ j ∧ j < 2 ^ 62) ∧ R (Itr i (j - i).toNat) H1) : iRng2 ta σ H R := k
theorem lp_list (hl0 : SqL K H a xs) (Pv : Nat → L2.St → Hp → Prop) (h0 : Pv 0 σ H) (hl : ∀ i σ H, i ≤ xs.length → Pv i σ H → SqL K H a xs)
    (hs : ∀ i x σ H, xs[i]? = some x → Pv i σ H → g x σ H fun σ2 H2 => tb { D with nx := Pv (i + 1), ct := Pv (i + 1), bk := D.nx } σ2 H2) (hd : ∀ σ H, Pv xs.length σ H → D.nx σ H) :
    ∃ b, V.ref a = .ref b ∧ (∃ ys, SqL K H b ys) ∧ LoopOk g tb D σ (Itl K b) H := ⟨a, rfl, ⟨xs, hl0⟩, for_list Pv h0 hl hs hd⟩
theorem lp_tup (hl0 : SqT K H a xs) (Pv : Nat → L2.St → Hp → Prop) (h0 : Pv 0 σ H) (hl : ∀ i σ H, i ≤ xs.length → Pv i σ H → SqT K H a xs)
    (hs : ∀ i x σ H, xs[i]? = some x → Pv i σ H → g x σ H fun σ2 H2 => tb { D with nx := Pv (i + 1), ct := Pv (i + 1), bk := D.nx } σ2 H2) (hd : ∀ σ H, Pv xs.length σ H → D.nx σ H) :
    ∃ b, V.ref a = .ref b ∧ (∃ ys, SqT K H b ys) ∧ LoopOk g tb D σ (Itt K b) H := ⟨a, rfl, ⟨xs, hl0⟩, for_tup Pv h0 hl hs hd⟩
theorem lp_rng1 {n : Int} (hn : n < 2 ^ 62) (hn0 : 0 ≤ n) (Pv : Nat → L2.St → Hp → Prop) (h0 : Pv 0 σ H)
    (hs : ∀ (i : Nat) σ H, (i : Int) < n → Pv i σ H → g (.int (i : Int)) σ H fun σ2 H2 => tb { D with nx := Pv (i + 1), ct := Pv (i + 1), bk := D.nx } σ2 H2) (hd : ∀ σ H, Pv n.toNat σ H → D.nx σ H) :
    ∃ j : Int, [V.int n] = [.int j] ∧ -(2 ^ 62) ≤ j ∧ j < 2 ^ 62 ∧ LoopOk g tb D σ (Itr 0 j.toNat) H :=
  ⟨n, rfl, by omega, hn, for_range Pv h0 (fun i σ H hi p => by
    have e : (0 : Int) + (i : Int) = i := by omega
    rw [e]
    exact hs i σ H (by omega) p) hd⟩
/-- what a comprehension's reading asks behind what is walked -/
def CompOk (g : TG) (tt : TT) (te : TE) (vs : List Nat) (σ : L2.St) (Q : VK) (J : It) (H1 : Hp) : Prop := ∀ D, H1 D = none → ∃ W : Nat → Nat → Hp → Prop, (∃ m, W 0 m (upd H1 D (.lst []))) ∧ ∀ i m H, W i m H →
  (J.stop i H ∧ Q (.ref D) H) ∨ (J.go i H ∧ ∃ Nx : Hp → Prop, (∀ H', Nx H' → ∃ m', m' < m ∧ W (i + 1) m' H') ∧ ∀ x H', J.yld i H x H' → g x (wipe σ vs) H' fun σ2 H2 => wipe σ2 vs = wipe σ vs ∧ tt σ2 H2 fun b H3 =>
    if b = true then te σ2 H3 fun y H4 => ∃ acc, H4 D = some (.lst acc) ∧ acc.length < sizeLine ∧ Nx (upd H4 D (.lst (acc ++ [y]))) else Nx H3)
theorem w_lc {wi : TI} (k : wi σ H (CompOk g tt te vs σ Q)) : tLc wi g tt te vs σ H Q := k
/-- a turn of a comprehension that changes nothing that stood -/
def CTurn (tt : TT) (te : TE) (σ2 : L2.St) (H : Hp) (b : Bool) (v : V) : Prop := ∀ H1, Ex H H1 →
  (∀ Q1 : Bool → Hp → Prop, (∀ H2, Ex H1 H2 → Q1 b H2) → tt σ2 H1 Q1) ∧ (b = true → ∀ Q2 : VK, (∀ H2, Ex H1 H2 → Q2 v H2) → te σ2 H1 Q2)
theorem cturn {σ2 : L2.St} {H0 H' : Hp} {f : Nat → Bool} {v : Nat → V} {Dl : Addr} {i : Nat} (p : Cw H0 f v Dl i H') (hi : i < 50000) (h : CTurn tt te σ2 H0 (f i) (v i)) :
    tt σ2 H' fun b H3 => if b = true then te σ2 H3 fun y H4 => ∃ acc, H4 Dl = some (.lst acc) ∧ acc.length < sizeLine ∧ Cw H0 f v Dl (i + 1) (upd H4 Dl (.lst (acc ++ [y]))) else Cw H0 f v Dl (i + 1) H3 := by
  obtain ⟨p1, p2, p3⟩ := p
  refine (h H' p2).1 _ fun H3 e3 => ?_
  cases hf : f i with
  | true =>
    show te σ2 H3 fun y H4 => ∃ acc, H4 Dl = some (.lst acc) ∧ acc.length < sizeLine ∧ Cw H0 f v Dl (i + 1) (upd H4 Dl (.lst (acc ++ [y])))
    refine (h H3 (p2.trans e3)).2 hf _ fun H4 e4 => ⟨given i f v, e4 Dl _ (e3 Dl _ p3), sz_lt (by have := given_len i f v; omega), p1, Ex.mut ((p2.trans e3).trans e4) p1, ?_⟩
    rw [given_yes hf]
    exact upd_same
  | false =>
    show Cw H0 f v Dl (i + 1) H3
    refine ⟨p1, p2.trans e3, ?_⟩
    rw [given_no hf]
    exact e3 Dl _ p3
theorem cp_rng1 {n : Int} (f : Nat → Bool) (v : Nat → V) (hn : 0 ≤ n ∧ n ≤ 40000) (hw : ∀ x, wipe ((wipe σ vs).set j (some x)) vs = wipe σ vs)
    (ht : ∀ i : Nat, (i : Int) < n → CTurn tt te ((wipe σ vs).set j (some (.int (i : Int)))) H (f i) (v i))
    (q : ∀ p H', H p = none → Ex H H' → H' p = some (.lst (given n.toNat f v)) → Q (.ref p) H') :
    ∃ k : Int, [V.int n] = [.int k] ∧ -(2 ^ 62) ≤ k ∧ k < 2 ^ 62 ∧ CompOk (gName j) tt te vs σ Q (Itr 0 k.toNat) H := ⟨n, rfl, by omega, by omega, fun Dl hD =>
  lc_range (lo := 0) (n := n.toNat) (Cw H f v Dl) ⟨hD, Ex.new hD, upd_same⟩ (fun i H' hi p => by
    have e0 : (0 : Int) + (i : Int) = (i : Int) := Int.zero_add _
    rw [e0]
    exact ⟨hw _, cturn p (by omega) (ht i (by omega))⟩) (fun H' p => q Dl H' p.1 p.2.1 p.2.2)⟩
theorem cp_list (hx : SqL K H a xs) (f : Nat → Bool) (v : Nat → V) (hn : xs.length ≤ 40000) (hw : ∀ x, wipe ((wipe σ vs).set j (some x)) vs = wipe σ vs)
    (ht : ∀ (i : Nat) (x : V), xs[i]? = some x → CTurn tt te ((wipe σ vs).set j (some x)) H (f i) (v i))
    (q : ∀ p H', H p = none → Ex H H' → H' p = some (.lst (given xs.length f v)) → Q (.ref p) H') :
    ∃ b, V.ref a = .ref b ∧ (∃ ys, SqL K H b ys) ∧ CompOk (gName j) tt te vs σ Q (Itl K b) H := ⟨a, rfl, ⟨xs, hx⟩, fun Dl hD =>
  lc_list (xs := xs) (Cw H f v Dl) ⟨hD, Ex.new hD, upd_same⟩ (fun i H' _ p => ex_l p.2.1 hx) (fun i x H' hi p => ⟨hw x, cturn p (by have := (List.getElem?_eq_some_iff.mp hi).1; omega) (ht i x hi)⟩) (fun H' p => q Dl H' p.1 p.2.1 p.2.2)⟩
theorem cp_tup (hx : SqT K H a xs) (f : Nat → Bool) (v : Nat → V) (hn : xs.length ≤ 40000) (hw : ∀ x, wipe ((wipe σ vs).set j (some x)) vs = wipe σ vs)
    (ht : ∀ (i : Nat) (x : V), xs[i]? = some x → CTurn tt te ((wipe σ vs).set j (some x)) H (f i) (v i))
    (q : ∀ p H', H p = none → Ex H H' → H' p = some (.lst (given xs.length f v)) → Q (.ref p) H') :
    ∃ b, V.ref a = .ref b ∧ (∃ ys, SqT K H b ys) ∧ CompOk (gName j) tt te vs σ Q (Itt K b) H := ⟨a, rfl, ⟨xs, hx⟩, fun Dl hD =>
  lc_tup (xs := xs) (Cw H f v Dl) ⟨hD, Ex.new hD, upd_same⟩ (fun i H' _ p => ex_t p.2.1 hx) (fun i x H' hi p => ⟨hw x, cturn p (by have := (List.getElem?_eq_some_iff.mp hi).1; omega) (ht i x hi)⟩) (fun H' p => q Dl H' p.1 p.2.1 p.2.2)⟩
theorem given_all (xs : List V) : given xs.length (fun _ => true) (fun i => xs.getD i .non) = xs := by
  unfold given
  rw [List.filter_eq_self.mpr (fun _ _ => rfl)]
  refine List.ext_getElem (by rw [List.length_map, List.length_range]) fun i h1 h2 => ?_
  rw [List.getElem_map, List.getElem_range, List.getD_eq_getElem?_getD, List.getElem?_eq_getElem h2]
  rfl
end

/-! ### comprehensions that change what is owned -/
section
variable {K : PySem.W.Frag} {σ : L2.St} {G G' G0 H H' : Hp} {M M' : Mem} {Q : VK} {tt : TT} {te : TE} {a D : Addr} {xs acc : List V} {vs : List Nat} {j k : Nat} {y : V}
def NxO (G : Hp) (J : List V → Hp → Mem → Prop) (D : Addr) (k : Nat) : Hp → Prop := fun H' => ∃ G' M' acc, Ex G G' ∧ Own G' H' ((D, .lst acc) :: M') ∧ J acc G' M' ∧ acc.length ≤ k
def AddO (Nx : Hp → Prop) (D : Addr) : VK := fun y H4 => ∃ acc, H4 D = some (.lst acc) ∧ acc.length < sizeLine ∧ Nx (upd H4 D (.lst (acc ++ [y])))
theorem addO {J : List V → Hp → Mem → Prop} (W : Own G' H' ((D, .lst acc) :: M')) (e : Ex G G') (hj : J (acc ++ [y]) G' M') (hl : acc.length ≤ k) (hk : k < 50000) : AddO (NxO G J D (k + 1)) D y H' :=
  ⟨acc, W.get (i := 0) rfl, sz_lt (by omega), G', M', acc ++ [y], e, W.set (i := 0) rfl, hj, by rw [List.length_append, List.length_singleton]; omega⟩
theorem cp_rng1O {n : Int} (J : Nat → List V → Hp → Mem → Prop) (W : Own G H M) (hn : 0 ≤ n ∧ n ≤ 40000) (h0 : J 0 [] G M) (hw : ∀ x, wipe ((wipe σ vs).set j (some x)) vs = wipe σ vs)
    (hs : ∀ (i : Nat) D acc G' M' H', (i : Int) < n → Ex G G' → Own G' H' ((D, .lst acc) :: M') → J i acc G' M' → acc.length ≤ i →
      tt ((wipe σ vs).set j (some (.int (i : Int)))) H' fun b H3 => if b = true then te ((wipe σ vs).set j (some (.int (i : Int)))) H3 (AddO (NxO G (J (i + 1)) D (i + 1)) D) else NxO G (J (i + 1)) D (i + 1) H3)
    (q : ∀ p H' acc G' M', Ex G G' → Own G' H' ((p, .lst acc) :: M') → J n.toNat acc G' M' → Q (.ref p) H') :
    ∃ k : Int, [V.int n] = [.int k] ∧ -(2 ^ 62) ≤ k ∧ k < 2 ^ 62 ∧ CompOk (gName j) tt te vs σ Q (Itr 0 k.toNat) H := ⟨n, rfl, by omega, by omega, fun Dl hD =>
  lc_range (lo := 0) (n := n.toNat) (fun i => NxO G (J i) Dl i) ⟨G, M, [], Ex.refl G, W.newM hD, h0, Nat.le_refl _⟩ (fun i H' hi p => by
    obtain ⟨G', M', acc, e, W', hj, hl⟩ := p
    have e0 : (0 : Int) + (i : Int) = (i : Int) := Int.zero_add _
    rw [e0]
    exact ⟨hw _, hs i Dl acc G' M' H' (by omega) e W' hj hl⟩) (fun H' p => by
    obtain ⟨G', M', acc, e, W', hj, hl⟩ := p
    exact q Dl H' acc G' M' e W' hj)⟩
theorem cp_listO (J : Nat → List V → Hp → Mem → Prop) (W : Own G H M) (hx : SqL K G a xs) (hn : xs.length ≤ 40000) (h0 : J 0 [] G M) (hw : ∀ x, wipe ((wipe σ vs).set j (some x)) vs = wipe σ vs)
    (hs : ∀ (i : Nat) x D acc G' M' H', xs[i]? = some x → Ex G G' → Own G' H' ((D, .lst acc) :: M') → J i acc G' M' → acc.length ≤ i →
      tt ((wipe σ vs).set j (some x)) H' fun b H3 => if b = true then te ((wipe σ vs).set j (some x)) H3 (AddO (NxO G (J (i + 1)) D (i + 1)) D) else NxO G (J (i + 1)) D (i + 1) H3)
    (q : ∀ p H' acc G' M', Ex G G' → Own G' H' ((p, .lst acc) :: M') → J xs.length acc G' M' → Q (.ref p) H') :
    ∃ b, V.ref a = .ref b ∧ (∃ ys, SqL K H b ys) ∧ CompOk (gName j) tt te vs σ Q (Itl K b) H := ⟨a, rfl, ⟨xs, W.l hx⟩, fun Dl hD =>
  lc_list (xs := xs) (fun i => NxO G (J i) Dl i) ⟨G, M, [], Ex.refl G, W.newM hD, h0, Nat.le_refl _⟩ (fun i H' _ p => by
    obtain ⟨G', M', acc, e, W', hj, hl⟩ := p
    exact W'.l (ex_l e hx)) (fun i x H' hi p => by
    obtain ⟨G', M', acc, e, W', hj, hl⟩ := p
    exact ⟨hw x, hs i x Dl acc G' M' H' hi e W' hj hl⟩) (fun H' p => by
    obtain ⟨G', M', acc, e, W', hj, hl⟩ := p
    exact q Dl H' acc G' M' e W' hj)⟩
end
/-! ### more steps -/
section
variable {K : PySem.W.Frag} {σ : L2.St} {H : Hp} {Q : VK} {a b : Addr} {xs ys : List V} {x v : V} {ta : TE} {R : L2.St → Hp → Prop}
theorem w_cat (h1 : H a = some (.lst xs)) (h2 : H b = some (.lst ys)) (hl : xs.length + ys.length ≤ sizeLine) (k : ∀ p, H p = none → Q (.ref p) (upd H p (.lst (xs ++ ys)))) : rCat (.ref a) (.ref b) H Q := ⟨a, b, xs, ys, rfl, rfl, h1, h2, hl, k⟩
theorem w_lstRg {te : L2.St → Hp → (Int → Int → Hp → Prop) → Prop} (k : te σ H fun a b H1 => RgOk a b ∧ ∀ q, H1 q = none → Q (.ref q) (upd H1 q (.lst (rgV a b)))) : tLstRg te σ H Q := k
theorem w_rg1 {Q : Int → Int → Hp → Prop} (k : ta σ H fun x H1 => ∃ n, x = .int n ∧ Q 0 n H1) : tRg1 ta σ H Q := k
theorem w_m1 {r : V → List V → Hp → VK → Prop} {te : TE} (k : ta σ H fun x H1 => (∃ a, x = .str a) ∧ te σ H1 fun y H2 => r x [y] H2 Q) : tM1 r ta te σ H Q := k
theorem w_strand {z : Str} {A : Prop} (k : A) : (∃ a, V.str z = V.str a) ∧ A := ⟨⟨z, rfl⟩, k⟩
theorem w_count {x y : Str} (k : Q (.int (Txt.count x y)) H) : rCountS (.str x) [.str y] H Q := ⟨x, y, rfl, rfl, k⟩
theorem w_gtup {n : Nat} {t : TGs} (h : SqT K H a xs) (hl : xs.length = n) (k : t xs σ H R) : gTup K n t (.ref a) σ H R := ⟨a, xs, rfl, h, hl, k⟩
theorem w_gcons {t : TG} {u : TGs} {r : List V} (k : t v σ H fun σ' H' => u r σ' H' R) : gCons t u (v :: r) σ H R := ⟨v, r, rfl, k⟩
theorem w_gnil (k : R σ H) : gNil [] σ H R := ⟨rfl, k⟩
theorem w_isNI {i : Int} (k : Q (.bl false) H) : rIsN (.int i) .non H Q := ⟨rfl, k⟩
theorem w_isNN (k : Q (.bl true) H) : rIsN .non .non H Q := ⟨rfl, k⟩
theorem w_isNR (k : Q (.bl false) H) : rIsN (.ref a) .non H Q := ⟨rfl, k⟩
theorem w_notNI {i : Int} (k : Q (.bl true) H) : rNotN (.int i) .non H Q := ⟨rfl, k⟩
theorem w_notNN (k : Q (.bl false) H) : rNotN .non .non H Q := ⟨rfl, k⟩
theorem w_notNR (k : Q (.bl true) H) : rNotN (.ref a) .non H Q := ⟨rfl, k⟩
theorem w_app {l : Addr} (hl : H l = some (.lst xs)) (hz : xs.length < sizeLine) (k : Q .non (upd H l (.lst (xs ++ [v])))) : rAppend (.ref l) [v] H Q := ⟨l, xs, v, rfl, rfl, hl, hz, k⟩
theorem w_tyL {l : Addr} {A : Prop} (hl : SqL K H l xs) (k : A) : tyV K "list" (.ref l) H ∧ A := ⟨.inl ⟨rfl, _, hl⟩, k⟩
end
theorem Own.new {G H : Hp} {M : Mem} {p : Addr} (W : Own G H M) (o : HO) (h : H p = Option.none) : Ex G (upd G p o) ∧ Own (upd G p o) (upd H p o) M := ⟨Ex.new (W.freshG h), W.newG h⟩
theorem rg_nat (n : Nat) : rgV 0 (n : Int) = (List.range n).map fun i : Nat => V.int (i : Int) := by
  unfold rgV
  have e : ((n : Int) - 0).toNat = n := by omega
  rw [e]
  refine List.map_congr_left fun i _ => ?_
  rw [Int.zero_add]
/-! ### data -/
section
variable {K : PySem.W.Frag} {H H' : Hp} {Q : VK}
mutual
theorem Dp.mono (e : Ex H H') : ∀ {v : V} {d : PyData}, Dp K H v d → Dp K H' v d
  | _, _, .non => .non
  | _, _, .bl b => .bl b
  | _, _, .int i => .int i
  | _, _, .str x => .str x
  | _, _, .lst h t => .lst (ex_l e h) (DpAll.mono e t)
  | _, _, .tup h t => .tup (ex_t e h) (DpAll.mono e t)
theorem DpAll.mono (e : Ex H H') : ∀ {vs : List V} {ds : List PyData}, DpAll K H vs ds → DpAll K H' vs ds
  | _, _, .nil => .nil
  | _, _, .cons h t => .cons (Dp.mono e h) (DpAll.mono e t)
end
theorem dp_ints : ∀ l : List Int, DpAll K H (l.map V.int) (l.map PyData.int)
  | [] => .nil
  | i :: l => .cons (.int i) (dp_ints l)
theorem canLay_all : ∀ {ds : List PyData}, (∀ d ∈ ds, d.canLay0 = true) → PyData.canLayAll0 ds = true
  | [], _ => rfl
  | d :: ds, h => by
    show (d.canLay0 && PyData.canLayAll0 ds) = true
    rw [h d List.mem_cons_self, canLay_all fun x hx => h x (List.mem_cons_of_mem _ hx)]
    rfl
theorem depth_all {k : Nat} : ∀ {ds : List PyData}, (∀ d ∈ ds, d.depth ≤ k) → PyData.depthAll ds ≤ k
  | [], _ => Nat.zero_le _
  | d :: ds, h => by
    show max d.depth (PyData.depthAll ds) ≤ k
    have h1 := h d List.mem_cons_self
    have h2 := depth_all fun x hx => h x (List.mem_cons_of_mem _ hx)
    omega
theorem shaped_list {k : Nat} {ds : List PyData} (h1 : ∀ d ∈ ds, d.canLay0 = true) (h2 : ∀ d ∈ ds, d.depth ≤ k) (hk : k < 64) : SeqAt.shaped (.list ds) = true := by
  unfold SeqAt.shaped
  rw [Bool.and_eq_true]
  refine ⟨canLay_all h1, decide_eq_true ?_⟩
  have := depth_all h2
  show PyData.depthAll ds + 1 ≤ 64
  omega
theorem w_eqSame {x y : V} {d : PyData} (hx : Dp K H x d) (hy : Dp K H y d) (hs : SeqAt.shaped d = true) (k : Q (.bl true) H) : rEqD K x y H Q := ⟨d, d, hx, hy, hs, hs, by rw [SeqAt.eqv_refl d (SeqAt.canLay_of_shaped hs)]; exact k⟩
theorem w_neSame {x y : V} {d : PyData} (hx : Dp K H x d) (hy : Dp K H y d) (hs : SeqAt.shaped d = true) (k : Q (.bl false) H) : rNeD K x y H Q := ⟨d, d, hx, hy, hs, hs, by rw [SeqAt.eqv_refl d (SeqAt.canLay_of_shaped hs)]; exact k⟩
end
/-! ### xs[i] op= e -/
theorem get_list {X : Cx} : PGet X (rIxL X.K) := by
  intro pins s σ H o i ov iv Q I ro ri h
  obtain ⟨p, xs, k, z, rfl, rfl, hq, he, q⟩ := h
  cases ro
  obtain ⟨t, rfl⟩ := ri
  obtain ⟨its, r, pl, hz⟩ := I.list hq
  obtain ⟨j, h1, h2, h3, h4, h5⟩ := atI_get he
  obtain ⟨w, ew, rw'⟩ := r.get h2
  have hl := r.length
  have hn := line63
  have fin : EP X pins σ Q w s := ⟨z, H, I, rw', q⟩
  by_cases h0 : 0 ≤ k
  · have hj : k.toNat = j := by
      rw [seqIndex_of h0 h5] at h1
      exact Option.some.inj h1
    exact wpAny_getItem_list pl.isList h0 (by omega) (by rw [hj]; simpa using ew) fin
  · have hj : (k + (its.toArray.size : Int)).toNat = j := by
      rw [seqIndex_neg (by omega) h4] at h1
      rw [List.size_toArray, ← hl]
      exact Option.some.inj h1
    exact wpAny_getItem_list_neg pl.isList (by omega) (by rw [List.size_toArray] <;> omega) (by omega) (by rw [hj]; simpa using ew) fin
/-- a call without arguments -/
theorem pe_c0 {X : Cx} {k j : Nat} {x : Str} {sp : Sp} {dvs : List V} {p pos : Pos} (c : C8.Cal X.prog X.w X.K X.mg X.base k x sp dvs) (hr : Room j X.A) (hk : k ≤ j) (hg : Gl X x) (hdb : (x == ("__debug__" : Str)) = false := by decide) :
    PE X (.Call (.Name x p) [] [] pos) (tCall sp dvs C8.E0 tNil) := by
  obtain ⟨f, fd, ps, ds, F, hm, kp, b, d⟩ := c.ex
  exact pe_call0 F (hr.mono hk) hg hm kp b d C8.pass0 hdb
/-! ### what the top has left -/
abbrev DefB (K : PySem.W.Frag) (mg : Str → Option Value) (x : Str) (st : Stmt) (ps : List Str) : Prop := ∃ f fd, C8.Def K mg x st f fd ∧ Binds K fd ps []
section
variable {K : PySem.W.Frag} {h : Heap} {mg : Str → Option Value} {x : Str} {st : Stmt} {f : Addr} {ps : List Str} {oc kV doc pm cd ct : Value} {od an : Option Addr} {sl : Array (Option Value)}
theorem def_mk (X : K.In h) (G : h.Ns mainGlobals mg) (a : PySem.W.nsIn K mainGlobals x = some (some (.ref f)))
    (l : K.lookup f = some ⟨oc, od, .func (PySem.W.fnOf x x (C8.fnArgs st) (C8.fnBody st) (C8.fnScope st) .none kV doc pm an cd ct), sl⟩) (c : PySem.W.codeIn K cd x = true) (k : PySem.W.keepIn K (.ref f) = true) :
    C8.Def K mg x st f (PySem.W.fnOf x x (C8.fnArgs st) (C8.fnBody st) (C8.fnScope st) .none kV doc pm an cd ct) := ⟨⟨⟨_, _, _, _, _, _, _, _, _, _, rfl, l, c⟩⟩, PySem.W.mg_of X G a, k⟩
theorem defB_mk (X : K.In h) (G : h.Ns mainGlobals mg) (a : PySem.W.nsIn K mainGlobals x = some (some (.ref f)))
    (l : K.lookup f = some ⟨oc, od, .func (PySem.W.fnOf x x (C8.fnArgs st) (C8.fnBody st) (C8.fnScope st) .none kV doc pm an cd ct), sl⟩) (c : PySem.W.codeIn K cd x = true) (k : PySem.W.keepIn K (.ref f) = true)
    (b : ∀ (kV doc pm : Value) (an : Option Addr) (cdv ct : Value) (us : List Value), us.length = ps.length → bindArgs (PySem.W.fnOf x x (C8.fnArgs st) (C8.fnBody st) (C8.fnScope st) .none kV doc pm an cdv ct) ⟨us, []⟩ = pure (ps.zip us)) : DefB K mg x st ps :=
  ⟨f, _, def_mk X G a l c k, (def_mk X G a l c k).fn.binds rfl b⟩
end
end Sw

set_option linter.all false
set_option maxRecDepth 100000
namespace Sw
open PySem
/-! ### bits of ints that are numbers -/
theorem c_toNat (n : Nat) : (n : Int).toNat = n := Int.toNat_natCast n
theorem c_and (m n : Nat) : Builtin.bitAnd (m : Int) (n : Int) = ((m &&& n : Nat) : Int) := by
  unfold Builtin.bitAnd
  rw [decide_eq_true (Int.natCast_nonneg m), decide_eq_true (Int.natCast_nonneg n)]
  rfl
theorem c_or (m n : Nat) : Builtin.bitOr (m : Int) (n : Int) = ((m ||| n : Nat) : Int) := by
  rw [L2.bitOr_nn (Int.natCast_nonneg m) (Int.natCast_nonneg n)]
  rfl
theorem c_shl1 (n : Nat) : (1 : Int) * 2 ^ (n : Int).toNat = ((2 ^ n : Nat) : Int) := by
  rw [Int.one_mul, Int.toNat_natCast, Int.natCast_pow]
  rfl
theorem c_shl (m n : Nat) : (m : Int) * 2 ^ (n : Int).toNat = ((m * 2 ^ n : Nat) : Int) := by
  rw [Int.toNat_natCast, Int.natCast_mul, Int.natCast_pow]
  rfl
theorem c_shr (m n : Nat) : (m : Int) / 2 ^ (n : Int).toNat = ((m / 2 ^ n : Nat) : Int) := by
  rw [Int.toNat_natCast, Int.natCast_ediv, Int.natCast_pow]
  rfl
theorem c_pred (n : Nat) (h : 0 < n) : (n : Int) - 1 = ((n - 1 : Nat) : Int) := by omega
theorem c_bit (t s : Nat) : ((t / 2 ^ s) &&& 1) = (t.testBit s).toNat := by
  rw [Nat.and_one_is_mod]
  have h := Nat.testBit_eq_decide_div_mod_eq (x := t) (i := s)
  rw [h]
  have := Nat.mod_two_eq_zero_or_one (t / 2 ^ s)
  rcases this with e | e <;> rw [e] <;> rfl
theorem p14 {n : Nat} (h : n ≤ 14) : 2 ^ n ≤ 16384 := Nat.pow_le_pow_right (by decide) h
theorem cpow (n : Nat) (h : n ≤ 1000000) : L2.CPow 1 (n : Int) := ⟨Int.natCast_nonneg n, by omega, by decide⟩
/-! ### the table of a bit -/
/-- T tells the bit at in the states below 2 ^ k -/
def VT (at_ k T : Nat) : Prop := T < 2 ^ 2 ^ k ∧ ∀ s, s < 2 ^ k → T.testBit s = s.testBit at_
theorem vt_first (a : Nat) : VT a (a + 1) ((2 ^ 2 ^ a - 1) * 2 ^ 2 ^ a) := by
  constructor
  · have h : 2 ^ 2 ^ (a + 1) = 2 ^ 2 ^ a * 2 ^ 2 ^ a := by
      rw [Nat.pow_succ, Nat.mul_two, Nat.pow_add]
    rw [h]
    have h0 : 0 < 2 ^ 2 ^ a := Nat.pow_pos (by decide)
    exact Nat.mul_lt_mul_of_pos_right (by omega) h0
  · intro s hs
    rw [Nat.mul_comm, Nat.testBit_two_pow_mul, Nat.testBit_two_pow_sub_one]
    rw [Nat.pow_succ] at hs
    by_cases h : 2 ^ a ≤ s
    · have e : s = 2 ^ a + (s - 2 ^ a) := by omega
      rw [decide_eq_true h, decide_eq_true (show s - 2 ^ a < 2 ^ a by omega)]
      rw [e, Nat.testBit_two_pow_add_eq, Nat.testBit_lt_two_pow (show s - 2 ^ a < 2 ^ a by omega)]
      rfl
    · rw [decide_eq_false h, Nat.testBit_lt_two_pow (show s < 2 ^ a by omega)]
      rfl
theorem vt_next {a k T : Nat} (ha : a < k) (h : VT a k T) : VT a (k + 1) (T ||| T * 2 ^ 2 ^ k) := by
  obtain ⟨h1, h2⟩ := h
  have hp : 2 ^ 2 ^ (k + 1) = 2 ^ (2 ^ k + 2 ^ k) := by rw [Nat.pow_succ, Nat.mul_two]
  constructor
  · rw [hp]
    refine Nat.or_lt_two_pow ?_ ?_
    · exact Nat.lt_of_lt_of_le h1 (Nat.pow_le_pow_right (by decide) (Nat.le_add_right _ _))
    · rw [Nat.pow_add]
      exact Nat.mul_lt_mul_of_pos_right h1 (Nat.pow_pos (by decide))
  · intro s hs
    rw [Nat.testBit_or, Nat.mul_comm, Nat.testBit_two_pow_mul]
    rw [Nat.pow_succ] at hs
    by_cases hk : s < 2 ^ k
    · rw [h2 s hk, decide_eq_false (by omega), Bool.false_and, Bool.or_false]
    · have hlt : s - 2 ^ k < 2 ^ k := by omega
      have h3 : T.testBit s = false := Nat.testBit_lt_two_pow (Nat.lt_of_lt_of_le h1 (Nat.pow_le_pow_right (by decide) (by omega)))
      rw [h3, Bool.false_or, decide_eq_true (by omega), Bool.true_and, h2 _ hlt]
      have e : s = 2 ^ k + (s - 2 ^ k) := by omega
      conv => rhs; rw [e, Nat.testBit_two_pow_add_gt ha]
/-! ### the least state -/
theorem low_bit : ∀ t : Nat, t ≠ 0 → ∃ l q, t = 2 ^ l * (2 * q + 1) := by
  intro t
  induction t using Nat.strongRecOn with
  | ind t ih =>
    intro h
    by_cases e : t % 2 = 1
    · exact ⟨0, t / 2, by omega⟩
    · obtain ⟨l, q, hq⟩ := ih (t / 2) (by omega) (by omega)
      refine ⟨l + 1, q, ?_⟩
      rw [Nat.pow_succ, Nat.mul_assoc, Nat.mul_left_comm, ← hq]
      omega
theorem low_at {t l q : Nat} (h : t = 2 ^ l * (2 * q + 1)) : t.testBit l = true ∧ ∀ j, j < l → t.testBit j = false := by
  subst h
  constructor
  · rw [Nat.testBit_two_pow_mul, decide_eq_true (Nat.le_refl l), Nat.sub_self, Nat.testBit_zero]
    simp
  · intro j hj
    rw [Nat.testBit_two_pow_mul, decide_eq_false (by omega), Bool.false_and]
theorem low_and (l q : Nat) : (2 ^ l * (2 * q + 1)) &&& (2 ^ l * (2 * q + 1) - 1) = 2 ^ l * (2 * q) := by
  have h0 : 0 < 2 ^ l := Nat.pow_pos (by decide)
  have e : 2 ^ l * (2 * q + 1) - 1 = 2 ^ l * (2 * q) + (2 ^ l - 1) := by
    rw [Nat.mul_add, Nat.mul_one]
    omega
  rw [e]
  refine Nat.eq_of_testBit_eq fun j => ?_
  rw [Nat.testBit_and, Nat.testBit_two_pow_mul_add _ (by omega), Nat.testBit_two_pow_mul, Nat.testBit_two_pow_mul]
  by_cases hj : j < l
  · rw [if_pos hj, decide_eq_false (by omega), Bool.false_and, Bool.false_and, Bool.false_and]
  · rw [if_neg hj, decide_eq_true (by omega), Bool.true_and, Bool.true_and]
    cases hz : j - l with
    | zero => rw [Nat.testBit_zero, Nat.testBit_zero]; simp
    | succ z =>
      rw [Nat.testBit_succ, Nat.testBit_succ]
      have e1 : (2 * q + 1) / 2 = q := by omega
      have e2 : 2 * q / 2 = q := by omega
      rw [e1, e2, Bool.and_self]
theorem low_int (l q : Nat) : Builtin.bitAnd ((2 ^ l * (2 * q + 1) : Nat) : Int) (0 - ((2 ^ l * (2 * q + 1) : Nat) : Int)) = ((2 ^ l : Nat) : Int) := by
  have h0 : 0 < 2 ^ l := Nat.pow_pos (by decide)
  have hp : 0 < 2 ^ l * (2 * q + 1) := Nat.mul_pos h0 (by omega)
  unfold Builtin.bitAnd
  rw [decide_eq_true (Int.natCast_nonneg _), decide_eq_false (by omega)]
  show ((2 ^ l * (2 * q + 1) : Nat) : Int) - (((((2 ^ l * (2 * q + 1) : Nat) : Int).toNat) &&& (Builtin.bitNot (0 - ((2 ^ l * (2 * q + 1) : Nat) : Int))).toNat : Nat) : Int) = _
  have e : (Builtin.bitNot (0 - ((2 ^ l * (2 * q + 1) : Nat) : Int))).toNat = 2 ^ l * (2 * q + 1) - 1 := by
    unfold Builtin.bitNot
    omega
  rw [e, Int.toNat_natCast, low_and]
  rw [Nat.mul_add, Nat.mul_one]
  omega
theorem low_bits (l : Nat) : Builtin.Int.intBits ((2 ^ l : Nat) : Int) = l + 1 := by
  unfold Builtin.Int.intBits
  have h0 : 0 < 2 ^ l := Nat.pow_pos (by decide)
  have e : (((2 ^ l : Nat) : Int) == 0) = false := beq_eq_false_iff_ne.mpr (by omega)
  rw [e, Int.natAbs_natCast, Nat.log2_two_pow]
  rfl
theorem head_filter {l m : Nat} {p : Nat → Bool} (hl : l < m) (h : p l = true) (hj : ∀ j, j < l → p j = false) : ((List.range m).filter p)[0]? = some l := by
  have e : List.range m = List.range l ++ (l :: (List.range (m - l - 1)).map (fun x => l + 1 + x)) := by
    have h1 : m = l + (m - l) := by omega
    conv => lhs; rw [h1, List.range_add]
    congr 1
    have h2 : m - l = (m - l - 1) + 1 := by omega
    rw [h2, List.range_succ_eq_map, List.map_cons, List.map_map]
    congr 1
    refine List.map_congr_left fun x _ => ?_
    show l + (x + 1) = l + 1 + x
    omega
  rw [e, List.filter_append]
  have h1 : (List.range l).filter p = [] := by
    rw [List.filter_eq_nil_iff]
    intro a ha
    rw [hj a (List.mem_range.mp ha)]
    decide
  rw [h1, List.nil_append, List.filter_cons, if_pos h]
  rfl
end Sw

set_option Elab.async false
set_option linter.all false
set_option maxRecDepth 100000
set_option maxHeartbeats 8000000
namespace PySem.W
open PySem PySem.Calls PyProof.Rows
open Builtin Builtin.Str Builtin.Int Builtin.Float
namespace SwF
def binS (n : Nat) : PySem.Str := ⟨((Nat.toDigits 2 n).map fun c => c.toNat).toArray⟩
theorem run_bin (a : Int) (h0 : 0 ≤ a) (hz : (binS a.natAbs).length ≤ sizeLine) (t u : Tok) : Meets («int.__format__» ⟨[.int a t, .str (⟨#[98]⟩ : PySem.Str) u], []⟩) (fun _ R s => ∀ t' k, R (.ok (.ret (.str (binS a.natAbs) t'))) { s with toks := k }) := by
  apply KPc.meets_of
  intro prog w A s Q E hS
  unfold Builtin.«int.__format__»
  refine wpAny_bind (wpAny_of_eq (a := (Value.int a t, Value.str (⟨#[98]⟩ : PySem.Str) u)) rfl ?_)
  refine wpAny_bind (wpAny_of_eq (a := a) rfl ?_)
  kpc_if
  refine wpAny_bind (wpAny_typeNameOf (T := "str") (typeIs_str _ _ _) (by decide) fun _ => ?_)
  refine wpAny_bind (wpAny_of_eq (a := some (⟨#[98]⟩ : PySem.Str)) rfl ?_)
  kpc_if
  kpc_if
  refine wpAny_bind (wpAny_typeNameOfCut_int ?_)
  have hp : parseFormatSpec (⟨#[98]⟩ : PySem.Str).cps.toList "int" 62 = .ok { align := 62, type := some 98 } := rfl
  rw [hp]
  kpc_if
  have hn : decide (a < 0) = false := decide_eq_false (by omega)
  refine (fun e => KXf.ret_text (T := binS a.natAbs) e (by rw [e]; exact hz) hS) ?_
  · rw [hn]
    have key : ∀ M : List Nat, (⟨(List.replicate ((-1 : Int) - (((([] : List Nat).length : Nat) : Int) + ((([] : List Nat).length : Nat) : Int) + ((([] : List Nat).length : Nat) : Int)) - (((if M.isEmpty = true then [] else List.replicate ((0 : Int).toNat - M.length) 48 ++ M) : List Nat).length : Nat)).toNat 32 ++ [] ++ [] ++ List.replicate 0 32 ++ (if M.isEmpty = true then [] else List.replicate ((0 : Int).toNat - M.length) 48 ++ M) ++ [] ++ List.replicate 0 32).toArray⟩ : PySem.Str) = ⟨M.toArray⟩ := by
      intro M
      have e : ((if M.isEmpty = true then [] else List.replicate ((0 : Int).toNat - M.length) 48 ++ M) : List Nat) = M := by
        cases M with
        | nil => rfl
        | cons x r =>
          rw [if_neg (by simp)]
          simp
      rw [e]
      have e2 : ((-1 : Int) - (((([] : List Nat).length : Nat) : Int) + ((([] : List Nat).length : Nat) : Int) + ((([] : List Nat).length : Nat) : Int)) - (M.length : Nat)).toNat = 0 := by
        rw [List.length_nil]
        omega
      rw [e2]
      simp
    exact key _
section
variable {prog : Program} {w : World} {A : Around} {E : Value → Shared → Prop} {s : Shared} {t : Tok} {a : Int} {Q : Value → Shared → Prop}
theorem field_bin (h0 : 0 ≤ a) (hz : (binS a.natAbs).length ≤ sizeLine) (h : ∀ t' k, Q (.str (binS a.natAbs) t') { s with toks := k }) : wpAny (model prog w) A (formatField (.int a t) (⟨#[98]⟩ : PySem.Str)) Q E s :=
  KXf.field_int (spec' := ⟨#[98]⟩) rfl rfl (by decide) (fun u => run_bin a h0 hz t u) h
end
end SwF
end PySem.W
namespace Sw
open PySem PySem.Spec PyProof.Rows L2 Evl PySem.W.SwF
/-- {x:b} of a number -/
def tFmtB (te : TE) : TE := fun σ H Q => te σ H fun x H1 => ∃ n : Nat, x = .int (n : Int) ∧ (binS n).length ≤ sizeLine ∧ Q (.str (binS n)) H1
theorem pe_fmtb {X : Cx} {e : Expr} {te : TE} {p1 p2 p3 pos : Pos} (he : PE X e te) : PE X (.JoinedStr [.FormattedValue e (-1) (some (.JoinedStr [.Constant (.str "b") 0 p1] p2)) p3] pos) (tFmtB te) := by
  refine ⟨fun pins s σ H Q I h => wpAny_JoinedStr_one (wpAny_FormattedValue_spec (thn (he.run pins s σ H _ I h) fun v s1 hv => ?_))⟩
  obtain ⟨x, H1, I1, r1, n, rfl, hz, q⟩ := hv
  obtain ⟨t, rfl⟩ := r1
  refine wpAny_JoinedStr_one (Calls.Constant_str ⟨_, _, rfl, ?_⟩)
  exact field_bin (Int.natCast_nonneg n) hz fun t' k => ⟨.str (binS n), H1, I1.tok _, ⟨_, rfl⟩, q⟩
/-! ### the ones of a number's text -/
open Builtin Builtin.Str StrLaws
theorem occ_count (x : Str) (c limit : Nat) : ∀ (m cur : Nat) (st : Array Nat × Nat), st.snd ≤ cur → st.fst.size + m ≤ limit → cur + m = x.length + 1 →
    (forIn (List.range' cur m) st (occBody x ⟨#[c]⟩ x.length limit)).run.fst.size = st.fst.size + (x.cps.toList.drop cur).count c
  | 0, cur, st, _, _, h3 => by
    have e : x.cps.toList.drop cur = [] := List.drop_eq_nil_iff.mpr (by
      have : x.cps.toList.length = x.length := by simp [Str.length]
      omega)
    rw [e]
    rfl
  | m + 1, cur, st, h1, h2, h3 => by
    have hl : x.cps.toList.length = x.length := by simp [Str.length]
    rw [List.range'_succ, List.forIn_cons]
    unfold occBody
    by_cases hc : x.cps.toList[cur]? = some c
    · have hA := (subAt_one x c cur).mpr hc
      rw [if_pos ⟨⟨⟨by omega, h1⟩, hA.1⟩, hA.2⟩]
      have hlt := (List.getElem?_eq_some_iff.mp hc).1
      have hx := (List.getElem?_eq_some_iff.mp hc).2
      have ih := occ_count x c limit m (cur + 1) (st.fst.push cur, cur + (⟨#[c]⟩ : Str).length) (Nat.le_refl _) (by rw [Array.size_push]; omega) (by omega)
      refine ih.trans ?_
      rw [List.drop_eq_getElem_cons hlt, hx, List.count_cons_self, Array.size_push]
      omega
    · rw [if_neg fun h => hc ((subAt_one x c cur).mp ⟨h.1.2, h.2⟩)]
      have ih := occ_count x c limit m (cur + 1) (st.fst, st.snd) (by show st.snd ≤ cur + 1; omega) (by show st.fst.size + m ≤ limit; omega) (by omega)
      refine ih.trans ?_
      by_cases hlt : cur < x.cps.toList.length
      · rw [List.drop_eq_getElem_cons hlt, List.count_cons_of_ne fun e => hc (by rw [List.getElem?_eq_getElem hlt, e])]
      · rw [List.drop_eq_nil_iff.mpr (by omega), List.drop_eq_nil_iff.mpr (by omega)]
theorem count_one (x : Str) (c : Nat) : Txt.count x ⟨#[c]⟩ = ((x.cps.toList.count c : Nat) : Int) := by
  unfold Txt.count
  rw [occ_eq]
  have h := occ_count x c (x.length + 1) (x.length + 1 - 0) 0 ((#[] : Array Nat), 0) (Nat.le_refl _) (by simp) (by simp)
  rw [Array.length_toList, h]
  simp
theorem ones : ∀ (n m : Nat), n < 2 ^ m → (((Nat.toDigits 2 n).map fun c => c.toNat).count 49) = ((List.range m).filter fun s => n.testBit s).length := by
  intro n
  induction n using Nat.strongRecOn with
  | ind n ih =>
    intro m hm
    by_cases h : n < 2
    · rw [Nat.toDigits_of_lt_base h]
      have h01 : n = 0 ∨ n = 1 := by omega
      rcases h01 with rfl | rfl
      · have e : ((List.range m).filter fun s => (0 : Nat).testBit s) = [] := by
          rw [List.filter_eq_nil_iff]
          intro a _
          rw [Nat.zero_testBit]
          decide
        rw [e]
        rfl
      · cases m with
        | zero => simp at hm
        | succ m =>
          rw [List.range_succ_eq_map, List.filter_cons, if_pos (by decide), List.filter_map]
          have e : ((List.range m).filter ((fun s => (1 : Nat).testBit s) ∘ Nat.succ)) = [] := by
            rw [List.filter_eq_nil_iff]
            intro a _
            show ¬ (1 : Nat).testBit (a + 1) = true
            rw [Nat.testBit_succ]
            simp
          rw [e]
          rfl
    · cases m with
      | zero => simp at hm; omega
      | succ m =>
        rw [Nat.toDigits_of_base_le (by decide) (by omega), List.map_append, List.count_append, ih (n / 2) (by omega) m (by rw [Nat.pow_succ] at hm; omega)]
        rw [List.range_succ_eq_map, List.filter_cons, List.filter_map]
        have e : ((fun s => n.testBit s) ∘ Nat.succ) = fun s => (n / 2).testBit s := by
          funext s
          exact Nat.testBit_succ n s
        rw [e]
        have hb : n.testBit 0 = decide (n % 2 = 1) := Nat.testBit_zero n
        rcases Nat.mod_two_eq_zero_or_one n with e2 | e2
        · rw [hb, e2]
          simp
          rfl
        · rw [hb, e2]
          simp
          rfl
theorem bin_len {n m : Nat} (h : n < 2 ^ m) (hm : 0 < m) : (binS n).length ≤ m := by
  have e : (binS n).length = (Nat.toDigits 2 n).length := by simp [binS, Str.length]
  rw [e]
  exact (Nat.length_toDigits_le_iff (by decide) hm).mpr h
theorem count_bin {n m : Nat} (h : n < 2 ^ m) : Txt.count (binS n) "1" = ((((List.range m).filter fun s => n.testBit s).length : Nat) : Int) := by
  have e : ("1" : Str) = ⟨#[49]⟩ := by decide +kernel
  rw [e, count_one, ← ones n m h]
  rfl
end Sw

set_option Elab.async false
set_option linter.all false
set_option maxRecDepth 100000
set_option maxHeartbeats 4000000

namespace Sw
open PySem PySem.Spec PyProof.Rows L2 Evl
/-! ### the stepper -/
local macro_rules | `(tactic| walk_at "w1") => `(tactic| with_reducible first
  | refine w_seq ?_ | refine w_asg ?_ | refine w_name (by rfl) ?_ | refine w_ret ?_ | refine w_retN ?_ | refine w_drop ?_ | refine w_ifS ?_ | refine w_next ?_
  | refine w_op ?_ | refine w_un ?_ | refine w_var rfl ?_ | refine w_c ?_ | refine w_I0 ?_ | refine w_U ?_
  | refine w_eqI ?_ | refine w_neI ?_ | refine w_eqS ?_ | refine w_neS ?_ | refine w_eqB ?_ | refine w_test ?_ | refine w_B ?_ | refine w_bl ?_ | refine w_not ?_ | refine w_and ?_ | refine w_or ?_ | refine w_if ?_
  | refine w_andV ?_ | refine w_orV ?_ | refine w_notV ?_ | refine w_nil ?_ | refine w_cons ?_ | refine w_call ?_ | refine w_cb ?_ | refine w_bm0 ?_ | refine w_bm ?_ | refine w_chain ?_
  | refine w_aug rfl ?_ | refine w_ip ?_ | refine w_gsub ?_ | refine w_yes ?_ | refine w_ex1 ?_ | refine w_bits ?_ | refine w_int ?_ | refine w_intB ?_ | refine w_abs ?_ | refine w_max ?_ | refine w_min ?_ | refine w_tup ?_ | refine w_lst ?_
  | refine w_for ?_ | refine w_iList ?_ | refine w_iTup ?_ | refine w_iRng1 ?_ | refine w_iRng2 ?_ | refine w_lc ?_ | refine w_augS ?_ | refine w_lstRg ?_ | refine w_rg1 ?_ | refine w_gcons ?_ | refine w_gnil ?_
  | refine w_isNI ?_ | refine w_isNN ?_ | refine w_isNR ?_ | refine w_notNI ?_ | refine w_notNN ?_ | refine w_notNR ?_ | refine w_m1 ?_ | refine w_strand ?_ | refine w_count ?_)
local macro_rules | `(tactic| walk_at "w") => `(tactic| repeat walk_at "w1")
local macro_rules | `(tactic| walk_at "ex") => `(tactic| first | exact Ex.refl _ | assumption | exact Ex.trans (by assumption) (by assumption) | (refine Ex.trans ?_ (by assumption); walk_at "ex"))

def top (i : Nat) : Stmt := PySem.Challenge.pw_swornblocks_k21_tables.main.body.getD i (.Pass ⟨0, 0, 0, 0⟩)
structure Bt (mg : Str → Option Value) : Prop where
  int : mg "int" = none
  bool : mg "bool" = none
  list : mg "list" = none
  range : mg "range" = none
  isinstance : mg "isinstance" = none
  len : mg "len" = none
  abs : mg "abs" = none
abbrev nV (n : Nat) : V := .int (n : Int)
abbrev nL (l : List Nat) : List V := l.map nV
/-- the state of the draws -/
def Dr (K : PySem.W.Frag) (G : Hp) (o : HO) : Prop := ∃ (c : Addr) (p r m : Int) (ns : List Int), o = .lst [.ref c, .int p, .int r, .int m] ∧ SqL K G c (ns.map V.int) ∧ 0 ≤ p ∧ 0 ≤ r ∧ 0 ≤ m
theorem Dr.mono {K : PySem.W.Frag} {G G' : Hp} {o : HO} (h : Dr K G o) (e : Ex G G') : Dr K G' o := by
  obtain ⟨c, p, r, m, ns, h1, h2, h3⟩ := h
  exact ⟨c, p, r, m, ns, h1, ex_l e h2, h3⟩
def spDraw (K : PySem.W.Frag) : Sp := fun vs H Q _ => ∃ (G : Hp) (M : Mem) (i : Nat) (a : Addr) (o : HO) (many : Int), vs = [.ref a, .int many] ∧ Own G H M ∧ M[i]? = some (a, o) ∧ Dr K G o ∧ 0 < many ∧ many < 1073741824 ∧
  ∀ v o' H', 0 ≤ v → v < many → Dr K G o' → Own G H' (M.set i (a, o')) → Q (.int v) H'
abbrev s_law_draw : Stmt := top 9
abbrev n_law_draw : List Str := ["d", "many", "found", "size", "cell"]
theorem sc_law_draw : FnScope n_law_draw ["d", "many"] (defScope s_law_draw) := ⟨rfl, rfl, rfl, by decide +kernel, rfl, by decide +kernel, by decide +kernel⟩

abbrev sfull_table : Stmt := top 1
abbrev nfull_table : List Str := ["n"]
theorem scfull_table : FnScope nfull_table ["n"] (defScope sfull_table) := ⟨rfl, rfl, rfl, by decide +kernel, rfl, by decide +kernel, by decide +kernel⟩
abbrev svariable_table : Stmt := top 2
abbrev nvariable_table : List Str := ["n", "at", "width", "table"]
theorem scvariable_table : FnScope nvariable_table ["n", "at"] (defScope svariable_table) := ⟨rfl, rfl, rfl, by decide +kernel, rfl, by decide +kernel, by decide +kernel⟩
abbrev sleast_state : Stmt := top 3
abbrev nleast_state : List Str := ["table"]
theorem scleast_state : FnScope nleast_state ["table"] (defScope sleast_state) := ⟨rfl, rfl, rfl, by decide +kernel, rfl, by decide +kernel, by decide +kernel⟩
abbrev sbit_in : Stmt := top 5
abbrev nbit_in : List Str := ["table", "state"]
theorem scbit_in : FnScope nbit_in ["table", "state"] (defScope sbit_in) := ⟨rfl, rfl, rfl, by decide +kernel, rfl, by decide +kernel, by decide +kernel⟩
abbrev s_law_is_int : Stmt := top 11
abbrev n_law_is_int : List Str := ["thing"]
theorem sc_law_is_int : FnScope n_law_is_int ["thing"] (defScope s_law_is_int) := ⟨rfl, rfl, rfl, by decide +kernel, rfl, by decide +kernel, by decide +kernel⟩
abbrev s_law_is_table : Stmt := top 14
abbrev n_law_is_table : List Str := ["thing", "many"]
theorem sc_law_is_table : FnScope n_law_is_table ["thing", "many"] (defScope s_law_is_table) := ⟨rfl, rfl, rfl, by decide +kernel, rfl, by decide +kernel, by decide +kernel⟩
abbrev s_law_holding : Stmt := top 15
abbrev n_law_holding : List Str := ["table", "many", "state"]
theorem sc_law_holding : FnScope n_law_holding ["table", "many"] (defScope s_law_holding) := ⟨rfl, rfl, rfl, by decide +kernel, rfl, by decide +kernel, by decide +kernel⟩

section
variable {P : Program} {w : World} {K : PySem.W.Frag} {mg : Str → Option Value} {base : Heap}
theorem ok_draw (D : DefB K mg "_law_draw" s_law_draw ["d", "many"]) (B : Bt mg) : C8.Cal P w K mg base 1 "_law_draw" (spDraw K) [] := by
  obtain ⟨f, fd, F, b⟩ := D
  refine C8.cal0 F b .nil sc_law_draw (fun vs H Q E h => ?_) (fun cdv A outer s H vs Q E hr h => ?_)
  · obtain ⟨_, _, _, _, _, _, rfl, _⟩ := h
    rfl
  · obtain ⟨G, M, i, a, o, many, rfl, W, hi, hD, h0, h1, k⟩ := h
    have nd := sc_law_draw.nd
    refine ⟨_, (pss_cons (ps_if (pt_cmpR op_gt (pe_ix ix_list (pv 0) pe_int (fun _ _ => rfl)) pe_int (nomark _)) (pss_cons (ps_set (i := 2) nd rfl (Or.inl rfl) (pe_ix ix_list (pv 0) pe_int (fun _ _ => rfl)))
      (pss_cons (ps_asg (pe_op op_fdiv (pv 2) (pv 1)) (pg_sub (pv 0) pe_int set_list))
      (pss_one (ps_ret (pe_op op_mod (pe_callTy call_int rfl B.int (by decide +kernel) (pa_cons (pv 2) pa_nil)) (pv 1)))))) pss_nil)
      (pss_cons (ps_set (i := 3) nd rfl (Or.inl rfl) pe_int)
      (C8.pss_cut (ps_if (pt_cmpR op_lt (pe_ix ix_list (pv 0) pe_int (fun _ _ => rfl)) (pe_callB call_lenQ rfl B.len (by decide +kernel) (pa_cons (pe_ix ix_list (pv 0) pe_int (fun _ _ => rfl)) pa_nil)) (nomark _)) (pss_cons (ps_set (i := 4) nd rfl (Or.inl rfl) (pe_ix ix_list (pe_ix ix_list (pv 0) pe_int (fun _ _ => rfl)) (pe_ix ix_list (pv 0) pe_int (fun _ _ => rfl)) (fun _ _ => rfl)))
      (pss_one (ps_set (i := 3) nd rfl (Or.inl rfl) (pe_op op_add (pe_op op_mul pe_int (pe_callB call_absN rfl B.abs (by decide +kernel) (pa_cons (pv 4) pa_nil))) (pe_callTy call_int rfl B.int (by decide +kernel) (pa_cons (pe_cmpR op_lt (pv 4) pe_int (nomark _)) pa_nil)))))) pss_nil)
      (pss_cons (ps_augS (pv 0) pe_int get_list pe_int ip_add set_list)
      (pss_cons (ps_if (pt_cmpR op_ge (pv 3) (pe_op op_mul pe_int (pe_op op_pow pe_int pe_int)) (nomark _)) (pss_cons (ps_set (i := 2) nd rfl (Or.inl rfl) (pe_op op_mod (pe_callTy call_int rfl B.int (by decide +kernel) (pa_cons (pe_op op_fdiv (pv 3) pe_int) pa_nil)) (pe_op op_shl pe_int pe_int)))
      (pss_cons (ps_asg (pe_op op_fdiv (pv 2) (pv 1)) (pg_sub (pv 0) pe_int set_list))
      (pss_one (ps_ret (pe_op op_mod (pe_callTy call_int rfl B.int (by decide +kernel) (pa_cons (pv 2) pa_nil)) (pv 1)))))) pss_nil)
      (pss_cons (ps_asg (pe_op op_mod (pe_callTy call_int rfl B.int (by decide +kernel) (pa_cons (pe_op op_add (pe_op op_add (pe_op op_add (pe_op op_mul (pe_ix ix_list (pv 0) pe_int (fun _ _ => rfl)) pe_int) (pe_op op_mul (pe_op op_mod (pe_callTy call_int rfl B.int (by decide +kernel) (pa_cons (pv 3) pa_nil)) pe_int) pe_int)) (pe_op op_mul (pe_ix ix_list (pv 0) pe_int (fun _ _ => rfl)) pe_int)) pe_int) pa_nil)) pe_int) (pg_sub (pv 0) pe_int set_list))
      (pss_one (ps_ret (pe_op op_mod (pe_callTy call_int rfl B.int (by decide +kernel) (pa_cons (pe_op op_fdiv (pe_ix ix_list (pv 0) pe_int (fun _ _ => rfl)) pe_int) pa_nil)) (pv 1)))))))))), ?_⟩
    dsimp only [cxOf, L2.Cx.nox]
    obtain ⟨c, p, r, m, ns, rfl, hc, hp, hr1, hm⟩ := hD
    have ha := W.get hi
    walk_at "w"
    refine w_ixM ha rfl ?_
    walk_at "w"
    refine w_ite (fun hr0 => ?_) (fun hr0 => ?_)
    · walk_at "w"
      refine w_ixM ha rfl ?_
      walk_at "w"
      refine w_I ⟨h0, h1⟩ ?_
      walk_at "w"
      refine w_setM ha rfl ?_
      walk_at "w"
      refine w_I h0 ?_
      exact k _ _ _ (Int.emod_nonneg _ (by omega)) (Int.emod_lt_of_pos _ h0) ⟨c, p, _, m, ns, rfl, hc, hp, Int.ediv_nonneg hr1 (by omega), hm⟩ (W.set hi)
    · walk_at "w"
      refine w_cut (fun σ' H' => ∃ (sz : Int) (cv : Option V), 0 ≤ sz ∧ σ' = [some (.ref a), some (.int many), none, some (.int sz), cv] ∧ H' = H) ?_ ?_
      · walk_at "w"
        refine w_ixM ha rfl ?_
        walk_at "w"
        refine w_ixM ha rfl ?_
        walk_at "w"
        refine w_lenL (W.l hc) ?_
        walk_at "w"
        refine w_ite (fun hl => ?_) (fun hl => ?_)
        · walk_at "w"
          refine w_ixM ha rfl ?_
          walk_at "w"
          refine w_ixM ha rfl ?_
          rw [List.length_map] at hl
          have hpn : p.toNat < ns.length := by omega
          refine w_ixL (v := .int (ns[p.toNat])) (W.l hc) (at_of (j := p.toNat) (by omega) (by rw [List.getElem?_map, List.getElem?_eq_getElem hpn]; rfl)) ?_
          walk_at "w"
          refine w_I (.inl (by decide)) ?_
          walk_at "w"
          refine ⟨_, _, ?_, rfl, rfl⟩
          generalize ns[p.toNat] = z
          by_cases hz : z < 0
          · rw [if_pos hz, decide_eq_true hz, if_pos rfl]
            omega
          · rw [if_neg hz, decide_eq_false hz, if_neg Bool.false_ne_true]
            omega
        · walk_at "w"
          exact ⟨0, none, by decide, rfl, rfl⟩
      · rintro σ' H' ⟨sz, cv, hsz, rfl, rfl⟩
        walk_at "w"
        walk_at "w"
        refine w_ixM ha rfl ?_
        walk_at "w"
        refine w_setM ha rfl ?_
        have W1 := W.set (o' := .lst [.ref c, .int (p + 1), .int r, .int m]) hi
        have ha1 : upd H' a (.lst [.ref c, .int (p + 1), .int r, .int m]) a = some (.lst [.ref c, .int (p + 1), .int r, .int m]) := upd_same
        walk_at "w"
        refine w_I ⟨by decide, by decide, by decide⟩ ?_
        walk_at "w"
        refine w_I (.inl (by decide)) ?_
        walk_at "w"
        refine w_ite (fun hb => ?_) (fun hb => ?_)
        · walk_at "w"
          refine w_I ⟨by decide, by decide⟩ ?_
          walk_at "w"
          refine w_I ⟨by decide, by decide, by decide⟩ ?_
          walk_at "w"
          refine w_I (one_pow _) ?_
          walk_at "w"
          refine w_I ⟨h0, h1⟩ ?_
          walk_at "w"
          refine w_setM ha1 rfl ?_
          walk_at "w"
          refine w_I h0 ?_
          exact k _ _ _ (Int.emod_nonneg _ (by omega)) (Int.emod_lt_of_pos _ h0) ⟨c, p + 1, _, m, ns, rfl, hc, by omega, Int.ediv_nonneg (Int.emod_nonneg _ (Int.ne_of_gt (one_pow _))) (by omega), hm⟩ (W1.put hi)
        · walk_at "w"
          refine w_ixM ha1 rfl ?_
          walk_at "w"
          refine w_I (.inr (by decide)) ?_
          walk_at "w"
          refine w_I (by decide) ?_
          walk_at "w"
          refine w_I (.inr (by decide)) ?_
          walk_at "w"
          refine w_ixM ha1 rfl ?_
          walk_at "w"
          refine w_I (.inr (by decide)) ?_
          walk_at "w"
          refine w_I (by decide) ?_
          walk_at "w"
          refine w_setM ha1 rfl ?_
          walk_at "w"
          refine w_ixM upd_same rfl ?_
          walk_at "w"
          refine w_I ⟨by decide, by decide⟩ ?_
          walk_at "w"
          refine w_I h0 ?_
          exact k _ _ _ (Int.emod_nonneg _ (by omega)) (Int.emod_lt_of_pos _ h0) ⟨c, p + 1, r, _, ns, rfl, hc, by omega, hr1, Int.emod_nonneg _ (by decide)⟩ (W1.put hi)
def sp_full : Sp := fun vs H Q _ => ∃ n : Nat, vs = [nV n] ∧ n ≤ 14 ∧ Q (nV (2 ^ 2 ^ n - 1)) H
theorem ok_full (D : DefB K mg "full_table" sfull_table ["n"]) (B : Bt mg) : C8.Cal P w K mg base 1 "full_table" sp_full [] := by
  obtain ⟨f, fd, F, b⟩ := D
  refine C8.cal0 F b .nil scfull_table (fun vs H Q E h => ?_) (fun cdv A outer s H vs Q E hr h => ?_)
  · obtain ⟨_, rfl, _⟩ := h
    rfl
  · obtain ⟨n, rfl, hn, k⟩ := h
    have nd := scfull_table.nd
    refine ⟨_, (pss_one (ps_ret (pe_op op_sub (pe_op op_shl pe_int (pe_op op_shl pe_int (pv 0))) pe_int))), ?_⟩
    try dsimp only [cxOf, L2.Cx.nox]
    have h14 := p14 hn
    walk_at "w"
    refine w_I (cpow _ (by omega)) ?_
    rw [c_shl1]
    refine w_I (cpow _ (by omega)) ?_
    rw [c_shl1]
    walk_at "w"
    rw [c_pred _ (Nat.pow_pos (by decide))]
    exact k
def sp_bit : Sp := fun vs H Q _ => ∃ t s : Nat, vs = [nV t, nV s] ∧ Q (nV (t.testBit s).toNat) H
theorem ok_bit (D : DefB K mg "bit_in" sbit_in ["table", "state"]) : C8.Cal P w K mg base 1 "bit_in" sp_bit [] := by
  obtain ⟨f, fd, F, b⟩ := D
  refine C8.cal0 F b .nil scbit_in (fun vs H Q E h => ?_) (fun cdv A outer s H vs Q E hr h => ?_)
  · obtain ⟨_, _, rfl, _⟩ := h
    rfl
  · obtain ⟨t, s, rfl, k⟩ := h
    have nd := scbit_in.nd
    refine ⟨_, (pss_one (ps_ret (pe_op op_and (pe_op op_shr (pv 0) (pv 1)) pe_int))), ?_⟩
    try dsimp only [cxOf, L2.Cx.nox]
    walk_at "w"
    refine w_I (by omega) ?_
    walk_at "w"
    rw [c_shr, show (1 : Int) = ((1 : Nat) : Int) from rfl, c_and, c_bit]
    exact k
def sp_isint : Sp := fun vs H Q _ => ∃ i : Int, vs = [.int i] ∧ Q (.bl true) H
theorem ok_isint (D : DefB K mg "_law_is_int" s_law_is_int ["thing"]) (B : Bt mg) : C8.Cal P w K mg base 1 "_law_is_int" sp_isint [] := by
  obtain ⟨f, fd, F, b⟩ := D
  refine C8.cal0 F b .nil sc_law_is_int (fun vs H Q E h => ?_) (fun cdv A outer s H vs Q E hr h => ?_)
  · obtain ⟨_, rfl, _⟩ := h
    rfl
  · obtain ⟨i, rfl, k⟩ := h
    have nd := sc_law_is_int.nd
    refine ⟨_, (pss_one (ps_ret (pe_and (pe_callB call_isi rfl B.isinstance (by decide +kernel) (pa_cons (pv 0) (pa_cons (pe_bltn (v := .ty "int") (u := .type "int") rfl B.int (by decide +kernel) rfl) pa_nil))) (pe_one (pe_not (pe_callB call_isi rfl B.isinstance (by decide +kernel) (pa_cons (pv 0) (pa_cons (pe_bltn (v := .ty "bool") (u := .type "bool") rfl B.bool (by decide +kernel) rfl) pa_nil)))))))), ?_⟩
    try dsimp only [cxOf, L2.Cx.nox]
    walk_at "w"
    refine w_isiInt (b := true) (by decide +kernel) ?_
    walk_at "w"
    rw [if_pos rfl]
    walk_at "w"
    refine w_isiInt (b := false) (by decide +kernel) ?_
    walk_at "w"
    exact k
def sp_istab : Sp := fun vs H Q _ => ∃ t m : Nat, vs = [nV t, nV m] ∧ m ≤ 16384 ∧ Q (.bl (decide (t < 2 ^ m))) H
theorem ok_istab (D : DefB K mg "_law_is_table" s_law_is_table ["thing", "many"]) (c_law_is_int : C8.Cal P w K mg base 1 "_law_is_int" sp_isint []) : C8.Cal P w K mg base 2 "_law_is_table" sp_istab [] := by
  obtain ⟨f, fd, F, b⟩ := D
  refine C8.cal0 F b .nil sc_law_is_table (fun vs H Q E h => ?_) (fun cdv A outer s H vs Q E hr h => ?_)
  · obtain ⟨_, _, rfl, _⟩ := h
    rfl
  · obtain ⟨t, m, rfl, hm, k⟩ := h
    have nd := sc_law_is_table.nd
    refine ⟨_, (pss_one (ps_ret (pe_and (C8.pe_c c_law_is_int hr (by decide) rfl (pa_cons (pv 0) pa_nil)) (pe_one (pe_chain op_le op_lt pe_int (pv 0) (pe_op op_shl pe_int (pv 1))))))), ?_⟩
    try dsimp only [cxOf, L2.Cx.nox]
    walk_at "w"
    refine ⟨_, rfl, ?_⟩
    walk_at "w"
    rw [if_pos rfl]
    walk_at "w"
    rw [decide_eq_true (Int.natCast_nonneg t), if_pos rfl]
    walk_at "w"
    refine w_I (cpow _ (by omega)) ?_
    rw [c_shl1]
    walk_at "w"
    rw [show decide (((t : Nat) : Int) < ((2 ^ m : Nat) : Int)) = decide (t < 2 ^ m) from decide_eq_decide.mpr Int.ofNat_lt]
    exact k
def sp_hold (K : PySem.W.Frag) : Sp := fun vs H Q _ => ∃ t m : Nat, vs = [nV t, nV m] ∧ m ≤ 16384 ∧ ∀ p H', H p = none → Ex H H' → H' p = some (.lst (nL ((List.range m).filter fun s => t.testBit s))) → Q (.ref p) H'
theorem ok_hold (D : DefB K mg "_law_holding" s_law_holding ["table", "many"]) (B : Bt mg) : C8.Cal P w K mg base 1 "_law_holding" (sp_hold K) [] := by
  obtain ⟨f, fd, F, b⟩ := D
  refine C8.cal0 F b .nil sc_law_holding (fun vs H Q E h => ?_) (fun cdv A outer s H vs Q E hr h => ?_)
  · obtain ⟨_, _, rfl, _⟩ := h
    rfl
  · obtain ⟨t, m, rfl, hm, k⟩ := h
    have nd := sc_law_holding.nd
    refine ⟨_, (pss_one (ps_ret (pe_lc  (own := [("state", 2)]) (g := gName 2) rfl nd  (pi_range1 rfl B.range (pa_cons (pv 1) pa_nil)) (blkOk_by (N := n_law_holding) (sc := defScope s_law_holding) (by decide +kernel)) (fun _ _ _ _ _ => (pg_name (i := 2) nd rfl (Or.inl rfl))) (fun _ _ _ _ _ => (pts_one (pt_cmpR op_eq (pe_op op_and (pe_op op_shr (pv 0) (pv 2)) pe_int) pe_int (nomark _)))) (fun _ _ _ _ _ => (pv 2))))), ?_⟩
    try dsimp only [cxOf, L2.Cx.nox]
    walk_at "w"
    refine cp_rng1 (fun s => t.testBit s) nV (by omega) (fun _ => rfl) (fun i hi H1 e1 => ⟨fun Q1 q => ?_, fun _ Q2 q => ?_⟩) ?_
    · walk_at "w"
      refine w_I (by omega) ?_
      walk_at "w"
      rw [c_shr, show (1 : Int) = ((1 : Nat) : Int) from rfl, c_and, c_bit]
      walk_at "w"
      have e : decide ((((t.testBit i).toNat : Nat) : Int) = ((1 : Nat) : Int)) = t.testBit i := by
        cases t.testBit i <;> rfl
      rw [e]
      exact q _ (Ex.refl _)
    · walk_at "w"
      exact q _ (Ex.refl _)
    · intro p H' hp e1 hl
      refine k p H' hp e1 ?_
      rw [hl]
      rfl
/-- v is the least state of t, or None -/
def IsLeast (t : Nat) (v : V) : Prop := (t = 0 ∧ v = .non) ∨ ∃ l, v = nV l ∧ t.testBit l = true ∧ ∀ j, j < l → t.testBit j = false
def sp_least : Sp := fun vs H Q _ => ∃ t : Nat, vs = [nV t] ∧ ∀ v, IsLeast t v → Q v H
theorem ok_least (D : DefB K mg "least_state" sleast_state ["table"]) : C8.Cal P w K mg base 1 "least_state" sp_least [] := by
  obtain ⟨f, fd, F, b⟩ := D
  refine C8.cal0 F b .nil scleast_state (fun vs H Q E h => ?_) (fun cdv A outer s H vs Q E hr h => ?_)
  · obtain ⟨_, rfl, _⟩ := h
    rfl
  · obtain ⟨t, rfl, k⟩ := h
    have nd := scleast_state.nd
    refine ⟨_, (pss_cons (ps_if (pt_cmpR op_eq (pv 0) pe_int (nomark _)) (pss_one (ps_ret pe_non)) pss_nil)
      (pss_one (ps_ret (pe_op op_sub (pe_bits (pe_op op_and (pv 0) (pe_op op_sub pe_int (pv 0)))) pe_int)))), ?_⟩
    try dsimp only [cxOf, L2.Cx.nox]
    walk_at "w"
    refine w_ite (fun h0 => ?_) (fun h0 => ?_)
    · walk_at "w"
      exact k _ (.inl ⟨by omega, rfl⟩)
    · walk_at "w"
      obtain ⟨l, q, e⟩ := low_bit t (by omega)
      have hl := low_at e
      subst e
      walk_at "w"
      rw [low_int, low_bits]
      rw [c_pred _ (by omega), Nat.add_sub_cancel]
      exact k _ (.inr ⟨l, rfl, hl.1, hl.2⟩)
def sp_var : Sp := fun vs H Q _ => ∃ n a : Nat, vs = [nV n, nV a] ∧ a < n ∧ n ≤ 14 ∧ ∀ T, VT a n T → Q (nV T) H
theorem ok_var (D : DefB K mg "variable_table" svariable_table ["n", "at"]) : C8.Cal P w K mg base 1 "variable_table" sp_var [] := by
  obtain ⟨f, fd, F, b⟩ := D
  refine C8.cal0 F b .nil scvariable_table (fun vs H Q E h => ?_) (fun cdv A outer s H vs Q E hr h => ?_)
  · obtain ⟨_, _, rfl, _⟩ := h
    rfl
  · obtain ⟨n, a, rfl, ha, hn, k⟩ := h
    have nd := scvariable_table.nd
    refine ⟨_, (pss_cons (ps_set (i := 2) nd rfl (Or.inl rfl) (pe_op op_shl pe_int (pv 1)))
      (pss_cons (ps_set (i := 3) nd rfl (Or.inl rfl) (pe_op op_shlW (pe_op op_sub (pe_op op_shl pe_int (pv 2)) pe_int) (pv 2)))
      (pss_cons (ps_set (i := 2) nd rfl (Or.inl rfl) (pe_op op_mul (pv 2) pe_int))
      (pss_cons (ps_while PassesOwn.never (pt_cmpR op_lt (pv 2) (pe_op op_shl pe_int (pv 0)) (nomark _)) (pss_cons (ps_set (i := 3) nd rfl (Or.inl rfl) (pe_op op_or (pv 3) (pe_op op_shlW (pv 3) (pv 2))))
      (pss_one (ps_set (i := 2) nd rfl (Or.inl rfl) (pe_op op_mul (pv 2) pe_int)))))
      (pss_one (ps_ret (pv 3))))))), ?_⟩
    try dsimp only [cxOf, L2.Cx.nox]
    have h14 := p14 hn
    have hpa : 2 ^ a ≤ 16384 := p14 (by omega)
    walk_at "w"
    refine w_I (cpow _ (by omega)) ?_
    rw [c_shl1]
    walk_at "w"
    refine w_I (cpow _ (by omega)) ?_
    rw [c_shl1]
    walk_at "w"
    rw [c_pred _ (Nat.pow_pos (by decide))]
    have hlt : (((2 ^ 2 ^ a - 1 : Nat) : Int)).natAbs < 2 ^ 2 ^ a := by
      rw [Int.natAbs_natCast]
      exact Nat.sub_lt (Nat.pow_pos (by decide)) (by decide)
    refine w_I (shl_ok hlt (by omega)) ?_
    rw [c_shl]
    walk_at "w"
    refine w_I (.inr (by decide)) ?_
    walk_at "w"
    refine ⟨fun m σ' H' => ∃ k T : Nat, m = n - k ∧ a < k ∧ k ≤ n ∧ VT a k T ∧ σ' = [some (nV n), some (nV a), some (nV (2 ^ k)), some (nV T)] ∧ H' = H, ⟨n - (a + 1), a + 1, _, rfl, by omega, by omega, vt_first a, ?_, rfl⟩, ?_⟩
    · rw [show ((2 ^ a : Nat) : Int) * 2 = ((2 ^ (a + 1) : Nat) : Int) by rw [Nat.pow_succ]; omega]
      rfl
    · rintro m σ' H' ⟨k', T, rfl, hk1, hk2, hT, rfl, rfl⟩
      have hpk : 2 ^ k' ≤ 16384 := p14 (by omega)
      walk_at "w"
      refine w_I (cpow _ (by omega)) ?_
      rw [c_shl1]
      walk_at "w"
      refine w_ite (fun hlt => ?_) (fun hlt => ?_)
      · have hkn : k' < n := by
          have h1 : 2 ^ k' < 2 ^ n := by omega
          exact (Nat.pow_lt_pow_iff_right (by decide)).mp h1
        refine ⟨fun σ2 H2 => ∃ m', m' < n - k' ∧ ∃ k T : Nat, m' = n - k ∧ a < k ∧ k ≤ n ∧ VT a k T ∧ σ2 = [some (nV n), some (nV a), some (nV (2 ^ k)), some (nV T)] ∧ H2 = H', fun _ _ h => h, ?_⟩
        walk_at "w"
        have hTb : ((T : Nat) : Int).natAbs < 2 ^ 2 ^ k' := by
          rw [Int.natAbs_natCast]
          exact hT.1
        refine w_I (shl_ok hTb (by omega)) ?_
        rw [c_shl]
        walk_at "w"
        rw [c_or]
        walk_at "w"
        refine w_I (.inr (by decide)) ?_
        walk_at "w"
        refine ⟨n - (k' + 1), by omega, k' + 1, _, rfl, by omega, by omega, vt_next hk1 hT, ?_, rfl⟩
        rw [show ((2 ^ k' : Nat) : Int) * 2 = ((2 ^ (k' + 1) : Nat) : Int) by rw [Nat.pow_succ]; omega]
        rfl
      · walk_at "w"
        have hkn : k' = n := by
          have h1 : ¬ 2 ^ k' < 2 ^ n := by omega
          have h2 := mt (Nat.pow_lt_pow_iff_right (n := k') (m := n) (a := 2) (by decide)).mpr h1
          omega
        subst hkn
        exact k T hT
end
end Sw

set_option Elab.async false
set_option linter.all false
set_option maxRecDepth 100000
set_option maxHeartbeats 4000000

namespace Sw
open PySem PySem.Spec PyProof.Rows L2 Evl PySem.W.SwF
/-! ### the stepper -/
local macro_rules | `(tactic| walk_at "w1") => `(tactic| with_reducible first
  | refine w_seq ?_ | refine w_asg ?_ | refine w_name (by rfl) ?_ | refine w_ret ?_ | refine w_retN ?_ | refine w_drop ?_ | refine w_ifS ?_ | refine w_next ?_
  | refine w_op ?_ | refine w_un ?_ | refine w_var rfl ?_ | refine w_c ?_ | refine w_I0 ?_ | refine w_U ?_
  | refine w_eqI ?_ | refine w_neI ?_ | refine w_eqS ?_ | refine w_neS ?_ | refine w_eqB ?_ | refine w_test ?_ | refine w_B ?_ | refine w_bl ?_ | refine w_not ?_ | refine w_and ?_ | refine w_or ?_ | refine w_if ?_
  | refine w_andV ?_ | refine w_orV ?_ | refine w_notV ?_ | refine w_nil ?_ | refine w_cons ?_ | refine w_call ?_ | refine w_cb ?_ | refine w_bm0 ?_ | refine w_bm ?_ | refine w_chain ?_
  | refine w_aug rfl ?_ | refine w_ip ?_ | refine w_gsub ?_ | refine w_yes ?_ | refine w_ex1 ?_ | refine w_bits ?_ | refine w_int ?_ | refine w_intB ?_ | refine w_abs ?_ | refine w_max ?_ | refine w_min ?_ | refine w_tup ?_ | refine w_lst ?_
  | refine w_for ?_ | refine w_iList ?_ | refine w_iTup ?_ | refine w_iRng1 ?_ | refine w_iRng2 ?_ | refine w_lc ?_ | refine w_augS ?_ | refine w_lstRg ?_ | refine w_rg1 ?_ | refine w_gcons ?_ | refine w_gnil ?_
  | refine w_isNI ?_ | refine w_isNN ?_ | refine w_isNR ?_ | refine w_notNI ?_ | refine w_notNN ?_ | refine w_notNR ?_ | refine w_m1 ?_ | refine w_strand ?_ | refine w_count ?_)
local macro_rules | `(tactic| walk_at "w") => `(tactic| repeat walk_at "w1")
local macro_rules | `(tactic| walk_at "ex") => `(tactic| first | exact Ex.refl _ | assumption | exact Ex.trans (by assumption) (by assumption) | (refine Ex.trans ?_ (by assumption); walk_at "ex"))

abbrev scount_states : Stmt := top 4
abbrev ncount_states : List Str := ["table"]
theorem sccount_states : FnScope ncount_states ["table"] (defScope scount_states) := ⟨rfl, rfl, rfl, by decide +kernel, rfl, by decide +kernel, by decide +kernel⟩
abbrev s_law_begin : Stmt := top 8
abbrev n_law_begin : List Str := ["script", "cell"]
theorem sc_law_begin : FnScope n_law_begin ["script"] (defScope s_law_begin) := ⟨rfl, rfl, rfl, by decide +kernel, rfl, by decide +kernel, by decide +kernel⟩
abbrev s_law_rare : Stmt := top 10
abbrev n_law_rare : List Str := ["d", "many"]
theorem sc_law_rare : FnScope n_law_rare ["d", "many"] (defScope s_law_rare) := ⟨rfl, rfl, rfl, by decide +kernel, rfl, by decide +kernel, by decide +kernel⟩
abbrev s_law_some_number : Stmt := top 12
abbrev n_law_some_number : List Str := ["d", "many", "found", "turn"]
theorem sc_law_some_number : FnScope n_law_some_number ["d", "many"] (defScope s_law_some_number) := ⟨rfl, rfl, rfl, by decide +kernel, rfl, by decide +kernel, by decide +kernel⟩
abbrev s_law_some_table : Stmt := top 13
abbrev n_law_some_table : List Str := ["d", "many", "full", "turn", "one", "found"]
theorem sc_law_some_table : FnScope n_law_some_table ["d", "many"] (defScope s_law_some_table) := ⟨rfl, rfl, rfl, by decide +kernel, rfl, by decide +kernel, by decide +kernel⟩

section
variable {P : Program} {w : World} {K : PySem.W.Frag} {mg : Str → Option Value} {base : Heap}
theorem w_fmtb {σ : L2.St} {H : Hp} {Q : VK} {ta : TE} (k : ta σ H fun x H1 => ∃ n : Nat, x = .int (n : Int) ∧ (binS n).length ≤ sizeLine ∧ Q (.str (binS n)) H1) : tFmtB ta σ H Q := k
def sp_count : Sp := fun vs H Q _ => ∃ t m : Nat, vs = [nV t] ∧ 0 < m ∧ m ≤ 16384 ∧ t < 2 ^ m ∧ Q (nV ((List.range m).filter fun s => t.testBit s).length) H
theorem ok_count (D : DefB K mg "count_states" scount_states ["table"]) : C8.Cal P w K mg base 1 "count_states" sp_count [] := by
  obtain ⟨f, fd, F, b⟩ := D
  refine C8.cal0 F b .nil sccount_states (fun vs H Q E h => ?_) (fun cdv A outer s H vs Q E hr h => ?_)
  · obtain ⟨_, _, rfl, _⟩ := h
    rfl
  · obtain ⟨t, m, rfl, h0, hm, ht, k⟩ := h
    have nd := sccount_states.nd
    refine ⟨_, (pss_one (ps_ret (pe_m1 PySem.F.slot_str_count PySem.F.type_str_count mt_countN (pe_fmtb (pv 0)) pe_str))), ?_⟩
    try dsimp only [cxOf, L2.Cx.nox]
    walk_at "w"
    refine w_fmtb ?_
    walk_at "w"
    refine ⟨t, rfl, sz_of (Nat.le_trans (bin_len ht h0) (by omega)), ?_⟩
    walk_at "w"
    rw [count_bin ht]
    exact k
def sp_begin (K : PySem.W.Frag) : Sp := fun vs H Q _ => ∃ (a : Addr) (ns : List Int), vs = [.ref a] ∧ SqL K H a (ns.map V.int) ∧ ns.length ≤ 63 ∧
  ∀ p c H', H p = none → H c = none → p ≠ c → Ex H H' → H' c = some (.lst (ns.map V.int)) → H' p = some (.lst [.ref c, .int 0, .int 0, .int 7]) → Q (.ref p) H'
theorem ok_begin (D : DefB K mg "_law_begin" s_law_begin ["script"]) (B : Bt mg) : C8.Cal P w K mg base 1 "_law_begin" (sp_begin K) [] := by
  obtain ⟨f, fd, F, b⟩ := D
  refine C8.cal0 F b .nil sc_law_begin (fun vs H Q E h => ?_) (fun cdv A outer s H vs Q E hr h => ?_)
  · obtain ⟨_, _, rfl, _⟩ := h
    rfl
  · obtain ⟨a, ns, rfl, hS, hl, k⟩ := h
    have nd := sc_law_begin.nd
    refine ⟨_, (pss_one (ps_ret (pe_lst (pa_cons (pe_lc  (own := [("cell", 1)]) (g := gName 1) (tt := tYes) rfl nd  (pi_list (pv 0)) (blkOk_by (N := n_law_begin) (sc := defScope s_law_begin) (by decide +kernel)) (fun _ _ _ _ _ => (pg_name (i := 1) nd rfl (Or.inl rfl))) (fun _ _ _ _ _ => pts_nil) (fun _ _ _ _ _ => (pe_callTy call_int rfl B.int (by decide +kernel) (pa_cons (pv 1) pa_nil)))) (pa_cons pe_int (pa_cons pe_int (pa_cons pe_int pa_nil))))))), ?_⟩
    try dsimp only [cxOf, L2.Cx.nox]
    walk_at "w"
    refine cp_list hS (fun _ => true) (fun i => (ns.map V.int).getD i .non) (by rw [List.length_map]; omega) (fun _ => rfl) (fun i x hx H1 e1 => ⟨fun Q1 q => ?_, fun _ Q2 q => ?_⟩) ?_
    · walk_at "w"
      exact q _ (Ex.refl _)
    · obtain ⟨z, rfl⟩ : ∃ z, x = V.int z := by
        rw [List.getElem?_map] at hx
        cases hz : ns[i]? with
        | none => rw [hz] at hx; cases hx
        | some z => rw [hz] at hx; exact ⟨z, (Option.some.inj hx).symm⟩
      have hx' : (ns.map V.int).getD i .non = .int z := by rw [List.getD_eq_getElem?_getD, hx]; rfl
      rw [hx'] at q
      walk_at "w"
      exact q _ (Ex.refl _)
    · intro c H1 hc e1 hl1
      rw [given_all] at hl1
      walk_at "w"
      refine ⟨by show 4 ≤ sizeLine; decide, fun p hp => ?_⟩
      have npc : p ≠ c := fun e => by rw [e, hl1] at hp; cases hp
      refine k p c _ (fresh_back e1 hp) hc npc (e1.trans (Ex.new hp)) ?_ upd_same
      rw [upd_ne npc.symm]
      exact hl1
def sp_rare (K : PySem.W.Frag) : Sp := fun vs H Q _ => ∃ (G : Hp) (M : Mem) (i : Nat) (a : Addr) (o : HO) (many : Int), vs = [.ref a, .int many] ∧ Own G H M ∧ M[i]? = some (a, o) ∧ Dr K G o ∧ 0 < many ∧ many < 1073741824 ∧
  ∀ v o' H', Dr K G o' → Own G H' (M.set i (a, o')) → Q (.bl v) H'
theorem ok_rare (D : DefB K mg "_law_rare" s_law_rare ["d", "many"]) (c_law_draw : C8.Cal P w K mg base 1 "_law_draw" (spDraw K) []) : C8.Cal P w K mg base 2 "_law_rare" (sp_rare K) [] := by
  obtain ⟨f, fd, F, b⟩ := D
  refine C8.cal0 F b .nil sc_law_rare (fun vs H Q E h => ?_) (fun cdv A outer s H vs Q E hr h => ?_)
  · obtain ⟨_, _, _, _, _, _, rfl, _⟩ := h
    rfl
  · obtain ⟨G, M, i, a, o, many, rfl, W, hi, hD, h0, h1, k⟩ := h
    have nd := sc_law_rare.nd
    refine ⟨_, (pss_one (ps_ret (pe_cmpR op_eq (C8.pe_c c_law_draw hr (by decide) rfl (pa_cons (pv 0) (pa_cons (pv 1) pa_nil))) (pe_op op_fdiv (pv 1) pe_int) (nomark _)))), ?_⟩
    try dsimp only [cxOf, L2.Cx.nox]
    walk_at "w"
    refine ⟨G, M, i, a, o, many, rfl, W, hi, hD, h0, h1, fun v o1 H1 _ _ D1 W1 => ?_⟩
    walk_at "w"
    refine w_I ⟨by decide, by decide⟩ ?_
    walk_at "w"
    exact k _ _ _ D1 W1
/-- a number of many bits is drawn -/
def sp_some (K : PySem.W.Frag) : Sp := fun vs H Q _ => ∃ (G : Hp) (M : Mem) (i : Nat) (a : Addr) (o : HO) (m : Nat), vs = [.ref a, nV m] ∧ Own G H M ∧ M[i]? = some (a, o) ∧ Dr K G o ∧ 0 < m ∧ m ≤ 16384 ∧
  ∀ (t : Nat) o' H', t < 2 ^ m → Dr K G o' → Own G H' (M.set i (a, o')) → Q (nV t) H'
theorem ok_some (D : DefB K mg "_law_some_number" s_law_some_number ["d", "many"]) (B : Bt mg) (c_law_draw : C8.Cal P w K mg base 1 "_law_draw" (spDraw K) []) : C8.Cal P w K mg base 2 "_law_some_number" (sp_some K) [] := by
  obtain ⟨f, fd, F, b⟩ := D
  refine C8.cal0 F b .nil sc_law_some_number (fun vs H Q E h => ?_) (fun cdv A outer s H vs Q E hr h => ?_)
  · obtain ⟨_, _, _, _, _, _, rfl, _⟩ := h
    rfl
  · obtain ⟨G, M, i, a, o, m, rfl, W, hi, hD, h0, hm, k⟩ := h
    have nd := sc_law_some_number.nd
    refine ⟨_, (pss_cons (ps_set (i := 2) nd rfl (Or.inl rfl) pe_int)
      (pss_cons (ps_for PassesOwn.never rfl (pi_range1 rfl B.range (pa_cons (pe_op op_add (pe_op op_fdiv (pv 1) pe_int) pe_int) pa_nil)) (pg_name (i := 3) nd rfl (Or.inl rfl)) (pss_one (ps_set (i := 2) nd rfl (Or.inl rfl) (pe_op op_or (pv 2) (pe_op op_shl (C8.pe_c c_law_draw hr (by decide) rfl (pa_cons (pv 0) (pa_cons (pe_op op_shl pe_int pe_int) pa_nil))) (pe_op op_mul pe_int (pv 3)))))))
      (pss_one (ps_ret (pe_op op_and (pv 2) (pe_op op_sub (pe_op op_shl pe_int (pv 1)) pe_int)))))), ?_⟩
    try dsimp only [cxOf, L2.Cx.nox]
    walk_at "w"
    refine w_I ⟨by decide, by decide⟩ ?_
    walk_at "w"
    refine lp_rng1 (by omega) (by omega) (fun _ σ' H' => ∃ (f : Nat) (o' : HO) (y : Option V), σ' = [some (.ref a), some (nV m), some (nV f), y] ∧ Dr K G o' ∧ Own G H' (M.set i (a, o'))) ⟨0, o, none, rfl, hD, by rw [set_same hi]; exact W⟩ ?_ ?_
    · rintro j σ' H' hj ⟨f0, o', y, rfl, D1, W1⟩
      walk_at "w"
      refine w_I ⟨by decide, by decide, by decide⟩ ?_
      walk_at "w"
      have hi1 : (M.set i (a, o'))[i]? = some (a, o') := List.getElem?_set_self (List.getElem?_eq_some_iff.mp hi).1
      refine ⟨G, _, i, a, o', _, rfl, W1, hi1, D1, by decide, by decide, fun v o2 H2 v0 v1 D2 W2 => ?_⟩
      rw [List.set_set] at W2
      obtain ⟨v', rfl⟩ := Int.eq_ofNat_of_zero_le v0
      walk_at "w"
      refine w_I (.inl (by decide)) ?_
      refine w_I ⟨by omega, by omega, by rw [show ((1 : Int) * 2 ^ (20 : Int).toNat) = 1048576 by decide] at v1; omega⟩ ?_
      walk_at "w"
      rw [show (20 : Int) * (j : Int) = ((20 * j : Nat) : Int) by omega, c_shl, c_or]
      walk_at "w"
      exact ⟨_, o2, _, rfl, D2, W2⟩
    · rintro σ' H' ⟨f0, o', y, rfl, D1, W1⟩
      walk_at "w"
      refine w_I (cpow _ (by omega)) ?_
      rw [c_shl1]
      walk_at "w"
      rw [c_pred _ (Nat.pow_pos (by decide)), c_and]
      refine k _ o' _ ?_ D1 W1
      exact Nat.lt_of_le_of_lt Nat.and_le_right (Nat.sub_lt (Nat.pow_pos (by decide)) (by decide))
theorem ok_table (D : DefB K mg "_law_some_table" s_law_some_table ["d", "many"]) (c_law_draw : C8.Cal P w K mg base 1 "_law_draw" (spDraw K) []) (c_law_some_number : C8.Cal P w K mg base 2 "_law_some_number" (sp_some K) []) : C8.Cal P w K mg base 3 "_law_some_table" (sp_some K) [] := by
  obtain ⟨f, fd, F, b⟩ := D
  refine C8.cal0 F b .nil sc_law_some_table (fun vs H Q E h => ?_) (fun cdv A outer s H vs Q E hr h => ?_)
  · obtain ⟨_, _, _, _, _, _, rfl, _⟩ := h
    rfl
  · obtain ⟨G, M, i, a, o, m, rfl, W, hi, hD, h0, hm, k⟩ := h
    have nd := sc_law_some_table.nd
    refine ⟨_, (pss_cons (ps_set (i := 2) nd rfl (Or.inl rfl) (pe_op op_sub (pe_op op_shl pe_int (pv 1)) pe_int))
      (pss_cons (ps_set (i := 3) nd rfl (Or.inl rfl) (C8.pe_c c_law_draw hr (by decide) rfl (pa_cons (pv 0) (pa_cons pe_int pa_nil))))
      (pss_cons (ps_if (pt_cmpR op_eq (pv 3) pe_int (nomark _)) (pss_one (ps_ret (pe_op op_mul (pv 2) (C8.pe_c c_law_draw hr (by decide) rfl (pa_cons (pv 0) (pa_cons pe_int pa_nil)))))) pss_nil)
      (pss_cons (ps_if (pt_cmpR op_lt (pv 3) pe_int (nomark _)) (pss_cons (ps_set (i := 4) nd rfl (Or.inl rfl) (pe_op op_shl pe_int (C8.pe_c c_law_draw hr (by decide) rfl (pa_cons (pv 0) (pa_cons (pv 1) pa_nil)))))
      (pss_one (ps_ret (pe_ifExp (pt_cmpR op_eq (pv 3) pe_int (nomark _)) (pv 4) (pe_op op_sub (pv 2) (pv 4)))))) pss_nil)
      (pss_cons (ps_set (i := 5) nd rfl (Or.inl rfl) (C8.pe_c c_law_some_number hr (by decide) rfl (pa_cons (pv 0) (pa_cons (pv 1) pa_nil))))
      (pss_cons (ps_if (pt_cmpR op_eq (pv 3) pe_int (nomark _)) (pss_one (ps_ret (pe_op op_and (pv 5) (C8.pe_c c_law_some_number hr (by decide) rfl (pa_cons (pv 0) (pa_cons (pv 1) pa_nil)))))) pss_nil)
      (pss_one (ps_ret (pe_ifExp (pt_cmpR op_eq (pv 3) pe_int (nomark _)) (pe_op op_or (pv 5) (C8.pe_c c_law_some_number hr (by decide) rfl (pa_cons (pv 0) (pa_cons (pv 1) pa_nil)))) (pv 5)))))))))), ?_⟩
    try dsimp only [cxOf, L2.Cx.nox]
    have hp : 0 < 2 ^ m := Nat.pow_pos (by decide)
    have hlen := (List.getElem?_eq_some_iff.mp hi).1
    walk_at "w"
    refine w_I (cpow _ (by omega)) ?_
    rw [c_shl1]
    walk_at "w"
    rw [c_pred _ hp]
    walk_at "w"
    refine ⟨G, M, i, a, o, _, rfl, W, hi, hD, by decide, by decide, fun v o1 H1 v0 v1 D1 W1 => ?_⟩
    have hi1 : (M.set i (a, o1))[i]? = some (a, o1) := List.getElem?_set_self hlen
    walk_at "w"
    refine w_ite (fun hv => ?_) (fun hv => ?_)
    · walk_at "w"
      refine ⟨G, _, i, a, o1, _, rfl, W1, hi1, D1, by decide, by decide, fun u o2 H2 u0 u1 D2 W2 => ?_⟩
      rw [List.set_set] at W2
      obtain ⟨u', rfl⟩ := Int.eq_ofNat_of_zero_le u0
      walk_at "w"
      refine w_I (.inr (by omega)) ?_
      rw [show (((2 ^ m - 1 : Nat) : Int) * (u' : Int)) = (((2 ^ m - 1) * u' : Nat) : Int) from (Int.natCast_mul _ _).symm]
      refine k _ o2 _ ?_ D2 W2
      have hu : u' ≤ 1 := by omega
      have : (2 ^ m - 1) * u' ≤ (2 ^ m - 1) * 1 := Nat.mul_le_mul_left _ hu
      omega
    · walk_at "w"
      refine w_ite (fun hv3 => ?_) (fun hv3 => ?_)
      · walk_at "w"
        refine ⟨G, _, i, a, o1, _, rfl, W1, hi1, D1, by omega, by omega, fun u o2 H2 u0 u1 D2 W2 => ?_⟩
        rw [List.set_set] at W2
        obtain ⟨u', rfl⟩ := Int.eq_ofNat_of_zero_le u0
        have hu : 2 ^ u' ≤ 2 ^ m - 1 := by
          have : 2 ^ u' < 2 ^ m := Nat.pow_lt_pow_right (by decide) (by omega)
          omega
        walk_at "w"
        refine w_I (cpow _ (by omega)) ?_
        rw [c_shl1]
        walk_at "w"
        refine w_ite (fun hv1 => ?_) (fun hv1 => ?_)
        · walk_at "w"
          exact k _ o2 _ (by omega) D2 W2
        · walk_at "w"
          rw [show (((2 ^ m - 1 : Nat) : Int) - ((2 ^ u' : Nat) : Int)) = ((2 ^ m - 1 - 2 ^ u' : Nat) : Int) from (Int.ofNat_sub hu).symm]
          exact k _ o2 _ (Nat.lt_of_le_of_lt (Nat.sub_le _ _) (Nat.sub_lt hp (by decide))) D2 W2
      · walk_at "w"
        refine ⟨G, _, i, a, o1, m, rfl, W1, hi1, D1, h0, hm, fun t1 o2 H2 ht1 D2 W2 => ?_⟩
        rw [List.set_set] at W2
        have hi2 : (M.set i (a, o2))[i]? = some (a, o2) := List.getElem?_set_self hlen
        walk_at "w"
        refine w_ite (fun hv3 => ?_) (fun hv3 => ?_)
        · walk_at "w"
          refine ⟨G, _, i, a, o2, m, rfl, W2, hi2, D2, h0, hm, fun t2 o3 H3 ht2 D3 W3 => ?_⟩
          rw [List.set_set] at W3
          walk_at "w"
          rw [c_and]
          exact k _ o3 _ (Nat.lt_of_le_of_lt Nat.and_le_right ht2) D3 W3
        · walk_at "w"
          refine w_ite (fun hv4 => ?_) (fun hv4 => ?_)
          · walk_at "w"
            refine ⟨G, _, i, a, o2, m, rfl, W2, hi2, D2, h0, hm, fun t2 o3 H3 ht2 D3 W3 => ?_⟩
            rw [List.set_set] at W3
            walk_at "w"
            rw [c_or]
            exact k _ o3 _ (Nat.or_lt_two_pow ht1 ht2) D3 W3
          · walk_at "w"
            exact k _ o2 _ ht1 D2 W2
end
end Sw

set_option Elab.async false
set_option linter.all false
set_option maxRecDepth 100000
set_option maxHeartbeats 4000000

namespace Sw
open PySem PySem.Spec PyProof.Rows L2 Evl PySem.W.SwF
/-! ### the stepper -/
local macro_rules | `(tactic| walk_at "w1") => `(tactic| with_reducible first
  | refine w_seq ?_ | refine w_asg ?_ | refine w_name (by rfl) ?_ | refine w_ret ?_ | refine w_retN ?_ | refine w_drop ?_ | refine w_ifS ?_ | refine w_next ?_
  | refine w_op ?_ | refine w_un ?_ | refine w_var rfl ?_ | refine w_c ?_ | refine w_I0 ?_ | refine w_U ?_
  | refine w_eqI ?_ | refine w_neI ?_ | refine w_eqS ?_ | refine w_neS ?_ | refine w_eqB ?_ | refine w_test ?_ | refine w_B ?_ | refine w_bl ?_ | refine w_not ?_ | refine w_and ?_ | refine w_or ?_ | refine w_if ?_
  | refine w_andV ?_ | refine w_orV ?_ | refine w_notV ?_ | refine w_nil ?_ | refine w_cons ?_ | refine w_call ?_ | refine w_cb ?_ | refine w_bm0 ?_ | refine w_bm ?_ | refine w_chain ?_
  | refine w_aug rfl ?_ | refine w_ip ?_ | refine w_gsub ?_ | refine w_yes ?_ | refine w_ex1 ?_ | refine w_bits ?_ | refine w_int ?_ | refine w_intB ?_ | refine w_abs ?_ | refine w_max ?_ | refine w_min ?_ | refine w_tup ?_ | refine w_lst ?_
  | refine w_for ?_ | refine w_iList ?_ | refine w_iTup ?_ | refine w_iRng1 ?_ | refine w_iRng2 ?_ | refine w_lc ?_ | refine w_augS ?_ | refine w_lstRg ?_ | refine w_rg1 ?_ | refine w_gcons ?_ | refine w_gnil ?_
  | refine w_isNI ?_ | refine w_isNN ?_ | refine w_isNR ?_ | refine w_notNI ?_ | refine w_notNN ?_ | refine w_notNR ?_ | refine w_m1 ?_ | refine w_strand ?_ | refine w_count ?_)
local macro_rules | `(tactic| walk_at "w") => `(tactic| repeat walk_at "w1")
local macro_rules | `(tactic| walk_at "ex") => `(tactic| first | exact Ex.refl _ | assumption | exact Ex.trans (by assumption) (by assumption) | (refine Ex.trans ?_ (by assumption); walk_at "ex"))

abbrev s_law_widths_right : Stmt := top 16
abbrev n_law_widths_right : List Str := ["n", "wanted", "many", "told", "at", "state"]
theorem sc_law_widths_right : FnScope n_law_widths_right ["n", "wanted"] (defScope s_law_widths_right) := ⟨rfl, rfl, rfl, by decide +kernel, rfl, by decide +kernel, by decide +kernel⟩
abbrev s_law_questions_right : Stmt := top 17
abbrev n_law_questions_right : List Str := ["table", "many", "looked", "states", "least", "count", "state", "told"]
theorem sc_law_questions_right : FnScope n_law_questions_right ["table", "many", "looked"] (defScope s_law_questions_right) := ⟨rfl, rfl, rfl, by decide +kernel, rfl, by decide +kernel, by decide +kernel⟩
abbrev s_law_table_world : Stmt := top 18
abbrev n_law_table_world : List Str := ["d", "n", "many", "table", "looked", "turn"]
theorem sc_law_table_world : FnScope n_law_table_world ["d"] (defScope s_law_table_world) := ⟨rfl, rfl, rfl, by decide +kernel, rfl, by decide +kernel, by decide +kernel⟩
abbrev slaw : Stmt := top 19
abbrev nlaw : List Str := ["script", "d", "worlds", "at", "n", "tables", "wanted", "looked", "table", "turn"]
theorem sclaw : FnScope nlaw ["script"] (defScope slaw) := ⟨rfl, rfl, rfl, by decide +kernel, rfl, by decide +kernel, by decide +kernel⟩

section
variable {P : Program} {w : World} {K : PySem.W.Frag} {mg : Str → Option Value} {base : Heap}
theorem dpAll_ints {H : Hp} (l : List Nat) : DpAll K H (nL l) (l.map fun n : Nat => PyData.int (n : Int)) := by
  have h := dp_ints (K := K) (H := H) (l.map fun n : Nat => (n : Int))
  rw [List.map_map, List.map_map] at h
  exact h
theorem shaped_ints (l : List Nat) : SeqAt.shaped (.list (l.map fun n : Nat => PyData.int (n : Int))) = true := by
  refine shaped_list (k := 0) (fun d hd => ?_) (fun d hd => ?_) (by decide)
  · obtain ⟨n, _, rfl⟩ := List.mem_map.mp hd
    rfl
  · obtain ⟨n, _, rfl⟩ := List.mem_map.mp hd
    exact Nat.le_refl 0
def sp_widths (K : PySem.W.Frag) : Sp := fun vs H Q _ => ∃ (n : Nat) (p : Addr) (ws : List Nat), vs = [nV n, .ref p] ∧ n ≤ 14 ∧ SqL K H p (nL ws) ∧ (∀ a ∈ ws, a < n) ∧ ∀ H', Ex H H' → Q (.bl true) H'
theorem ok_widths (D : DefB K mg "_law_widths_right" s_law_widths_right ["n", "wanted"]) (B : Bt mg) (cfull_table : C8.Cal P w K mg base 1 "full_table" sp_full []) (c_law_is_int : C8.Cal P w K mg base 1 "_law_is_int" sp_isint [])
    (cvariable_table : C8.Cal P w K mg base 1 "variable_table" sp_var []) (c_law_is_table : C8.Cal P w K mg base 2 "_law_is_table" sp_istab []) (c_law_holding : C8.Cal P w K mg base 1 "_law_holding" (sp_hold K) []) :
    C8.Cal P w K mg base 3 "_law_widths_right" (sp_widths K) [] := by
  obtain ⟨f, fd, F, b⟩ := D
  refine C8.cal0 F b .nil sc_law_widths_right (fun vs H Q E h => ?_) (fun cdv A outer s H vs Q E hr h => ?_)
  · obtain ⟨_, _, _, rfl, _⟩ := h
    rfl
  · obtain ⟨n, p, ws, rfl, hn, hS, hw, k⟩ := h
    have nd := sc_law_widths_right.nd
    refine ⟨_, (pss_cons (ps_set (i := 2) nd rfl (Or.inl rfl) (pe_op op_shl pe_int (pv 0)))
      (pss_cons (ps_set (i := 3) nd rfl (Or.inl rfl) (C8.pe_c cfull_table hr (by decide) rfl (pa_cons (pv 0) pa_nil)))
      (pss_cons (ps_if (PW.pt (pw_or (pt_not (pt_val (C8.pe_c c_law_is_int hr (by decide) rfl (pa_cons (pv 3) pa_nil)))) (pw_or1 (pt_cmpR op_ne (pv 3) (pe_op op_sub (pe_op op_shl pe_int (pv 2)) pe_int) (nomark _))))) (pss_one (ps_ret pe_bl)) pss_nil)
      (pss_cons (ps_for PassesOwn.never rfl (pi_list (pv 1)) (pg_name (i := 4) nd rfl (Or.inr rfl)) (pss_cons (ps_set (i := 3) nd rfl (Or.inl rfl) (C8.pe_c cvariable_table hr (by decide) rfl (pa_cons (pv 0) (pa_cons (pv 4) pa_nil))))
      (pss_cons (ps_if (pt_not (pt_val (C8.pe_c c_law_is_table hr (by decide) rfl (pa_cons (pv 3) (pa_cons (pv 2) pa_nil))))) (pss_one (ps_ret pe_bl)) pss_nil)
      (pss_one (ps_if (pt_cmpR (op_neD hr.units) (C8.pe_c c_law_holding hr (by decide) rfl (pa_cons (pv 3) (pa_cons (pv 2) pa_nil))) (pe_lc  (own := [("state", 5)]) (g := gName 5) rfl nd  (pi_range1 rfl B.range (pa_cons (pv 2) pa_nil)) (blkOk_by (N := n_law_widths_right) (sc := defScope s_law_widths_right) (by decide +kernel)) (fun _ _ _ _ _ => (pg_name (i := 5) nd rfl (Or.inl rfl))) (fun _ _ _ _ _ => (pts_one (pt_cmpR op_eq (pe_op op_and (pe_op op_shr (pv 5) (pv 4)) pe_int) pe_int (nomark _)))) (fun _ _ _ _ _ => (pv 5))) (nomark _)) (pss_one (ps_ret pe_bl)) pss_nil)))))
      (pss_one (ps_ret pe_bl)))))), ?_⟩
    try dsimp only [cxOf, L2.Cx.nox]
    have h14 := p14 hn
    walk_at "w"
    refine w_I (cpow _ (by omega)) ?_
    rw [c_shl1]
    walk_at "w"
    refine ⟨n, rfl, hn, ?_⟩
    walk_at "w"
    refine ⟨_, rfl, ?_⟩
    walk_at "w"
    rw [Bool.not_true, if_neg Bool.false_ne_true]
    walk_at "w"
    refine w_I (cpow _ (by omega)) ?_
    rw [c_shl1]
    walk_at "w"
    rw [c_pred _ (Nat.pow_pos (by decide)), decide_eq_true rfl, Bool.not_true, if_neg Bool.false_ne_true]
    walk_at "w"
    refine lp_list hS (fun _ σ' H' => ∃ y1 y2 y3, σ' = [some (nV n), some (.ref p), some (nV (2 ^ n)), y1, y2, y3] ∧ Ex H H') ⟨_, _, _, rfl, Ex.refl H⟩ (fun i σ' H' _ ⟨_, _, _, _, e⟩ => ex_l e hS) ?_ ?_
    · rintro i x σ' H' hx ⟨y1, y2, y3, rfl, e1⟩
      obtain ⟨a, ha, rfl⟩ : ∃ a, a ∈ ws ∧ x = nV a := by
        rw [List.getElem?_map] at hx
        cases hz : ws[i]? with
        | none => rw [hz] at hx; cases hx
        | some z => rw [hz] at hx; exact ⟨z, List.mem_of_getElem? hz, (Option.some.inj hx).symm⟩
      walk_at "w"
      refine ⟨n, a, rfl, hw a ha, hn, fun T hT => ?_⟩
      walk_at "w"
      refine ⟨T, 2 ^ n, rfl, by omega, ?_⟩
      walk_at "w"
      rw [decide_eq_true hT.1, Bool.not_true, if_neg Bool.false_ne_true]
      walk_at "w"
      refine ⟨T, 2 ^ n, rfl, by omega, fun q1 H1 hq1 eq1 hl1 => ?_⟩
      walk_at "w"
      refine cp_rng1 (fun s => s.testBit a) nV ⟨Int.natCast_nonneg _, by omega⟩ (fun _ => rfl) (fun j hj H2 e2 => ⟨fun Q1 q => ?_, fun _ Q2 q => ?_⟩) ?_
      · walk_at "w"
        refine w_I (by omega) ?_
        walk_at "w"
        rw [c_shr, show (1 : Int) = ((1 : Nat) : Int) from rfl, c_and, c_bit]
        walk_at "w"
        have e : decide ((((j.testBit a).toNat : Nat) : Int) = ((1 : Nat) : Int)) = j.testBit a := by
          cases j.testBit a <;> rfl
        rw [e]
        exact q _ (Ex.refl _)
      · walk_at "w"
        exact q _ (Ex.refl _)
      · intro q2 H2 hq2 e2 hl2
        have el : H2 q2 = some (.lst (nL ((List.range (2 ^ n)).filter fun s => T.testBit s))) := by
          rw [hl2]
          show some (HO.lst (((List.range (2 ^ n)).filter _).map nV)) = _
          rw [List.filter_congr (fun s hs => hT.2 s (List.mem_range.mp hs))]
        refine w_neSame (.lst (sq_of (e2 _ _ hl1)) (dpAll_ints _)) (.lst (sq_of el) (dpAll_ints _)) (shaped_ints _) ?_
        walk_at "w"
        rw [if_neg Bool.false_ne_true]
        walk_at "w"
        exact ⟨_, _, _, rfl, (e1.trans eq1).trans e2⟩
    · rintro σ' H' ⟨y1, y2, y3, rfl, e1⟩
      walk_at "w"
      exact k _ e1
def sp_quest (K : PySem.W.Frag) : Sp := fun vs H Q _ => ∃ (t n : Nat) (p : Addr) (ls : List Nat), vs = [nV t, nV (2 ^ n), .ref p] ∧ n ≤ 14 ∧ t < 2 ^ 2 ^ n ∧ SqL K H p (nL ls) ∧ ∀ H', Ex H H' → Q (.bl true) H'
theorem ok_quest (D : DefB K mg "_law_questions_right" s_law_questions_right ["table", "many", "looked"]) (B : Bt mg) (c_law_is_int : C8.Cal P w K mg base 1 "_law_is_int" sp_isint [])
    (cleast_state : C8.Cal P w K mg base 1 "least_state" sp_least []) (ccount_states : C8.Cal P w K mg base 1 "count_states" sp_count []) (c_law_holding : C8.Cal P w K mg base 1 "_law_holding" (sp_hold K) []) (cbit_in : C8.Cal P w K mg base 1 "bit_in" sp_bit []) :
    C8.Cal P w K mg base 2 "_law_questions_right" (sp_quest K) [] := by
  obtain ⟨f, fd, F, b⟩ := D
  refine C8.cal0 F b .nil sc_law_questions_right (fun vs H Q E h => ?_) (fun cdv A outer s H vs Q E hr h => ?_)
  · obtain ⟨_, _, _, _, rfl, _⟩ := h
    rfl
  · obtain ⟨t, n, p, ls, rfl, hn, ht, hS, k⟩ := h
    have nd := sc_law_questions_right.nd
    refine ⟨_, (pss_cons (ps_set (i := 3) nd rfl (Or.inl rfl) (C8.pe_c c_law_holding hr (by decide) rfl (pa_cons (pv 0) (pa_cons (pv 1) pa_nil))))
      (pss_cons (ps_set (i := 4) nd rfl (Or.inl rfl) (C8.pe_c cleast_state hr (by decide) rfl (pa_cons (pv 0) pa_nil)))
      (C8.pss_cut (ps_if (PW.pt (pw_and (pt_cmpR op_eq (pe_callB call_lenQ rfl B.len (by decide +kernel) (pa_cons (pv 3) pa_nil)) pe_int (nomark _)) (pw_and1 (pt_cmpR op_notN1 (pv 4) pe_non (nomark _))))) (pss_one (ps_ret pe_bl)) pss_nil)
      (C8.pss_cut (ps_if (PW.pt (pw_and (pt_cmpR op_gt (pe_callB call_lenQ rfl B.len (by decide +kernel) (pa_cons (pv 3) pa_nil)) pe_int (nomark _)) (pw_and1 (PW.pt (pw_or (pt_not (pt_val (C8.pe_c c_law_is_int hr (by decide) rfl (pa_cons (pv 4) pa_nil)))) (pw_or1 (pt_cmpR op_ne (pv 4) (pe_ix ix_list (pv 3) pe_int (fun _ _ => rfl)) (nomark _)))))))) (pss_one (ps_ret pe_bl)) pss_nil)
      (pss_cons (ps_set (i := 5) nd rfl (Or.inl rfl) (C8.pe_c ccount_states hr (by decide) rfl (pa_cons (pv 0) pa_nil)))
      (pss_cons (ps_if (PW.pt (pw_or (pt_not (pt_val (C8.pe_c c_law_is_int hr (by decide) rfl (pa_cons (pv 5) pa_nil)))) (pw_or1 (pt_cmpR op_ne (pv 5) (pe_callB call_lenQ rfl B.len (by decide +kernel) (pa_cons (pv 3) pa_nil)) (nomark _))))) (pss_one (ps_ret pe_bl)) pss_nil)
      (pss_cons (ps_for PassesOwn.never rfl (pi_list (pv 2)) (pg_name (i := 6) nd rfl (Or.inl rfl)) (pss_cons (ps_set (i := 7) nd rfl (Or.inl rfl) (C8.pe_c cbit_in hr (by decide) rfl (pa_cons (pv 0) (pa_cons (pv 6) pa_nil))))
      (pss_one (ps_if (PW.pt (pw_or (pt_not (pt_val (C8.pe_c c_law_is_int hr (by decide) rfl (pa_cons (pv 7) pa_nil)))) (pw_or1 (pt_cmpR op_ne (pv 7) (pe_op op_and (pe_op op_shr (pv 0) (pv 6)) pe_int) (nomark _))))) (pss_one (ps_ret pe_bl)) pss_nil))))
      (pss_one (ps_ret pe_bl))))))))), ?_⟩
    try dsimp only [cxOf, L2.Cx.nox]
    have h14 := p14 hn
    walk_at "w"
    refine ⟨t, 2 ^ n, rfl, by omega, fun q1 H1 hq1 eq1 hl1 => ?_⟩
    walk_at "w"
    refine ⟨t, rfl, fun least hL => ?_⟩
    walk_at "w"
    have hst : SqL K H1 q1 (nL ((List.range (2 ^ n)).filter fun s => t.testBit s)) := sq_of hl1
    have hcl : ((nL ((List.range (2 ^ n)).filter fun s => t.testBit s)).length : Int) = ((((List.range (2 ^ n)).filter fun s => t.testBit s).length : Nat) : Int) := by rw [List.length_map]
    refine w_cut (fun σ' H' => σ' = [some (nV t), some (nV (2 ^ n)), some (.ref p), some (.ref q1), some least, none, none, none] ∧ H' = H1) ?_ ?_
    · walk_at "w"
      refine w_lenL hst ?_
      walk_at "w"
      refine w_ite (fun h0 => ?_) (fun h0 => ?_)
      · have ht0 : least = .non := by
          rcases hL with ⟨_, e⟩ | ⟨l, _, hl, hj⟩
          · exact e
          · exfalso
            have hlt : l < 2 ^ n := by
              refine Classical.byContradiction fun hc => ?_
              rw [Nat.testBit_lt_two_pow (Nat.lt_of_lt_of_le ht (Nat.pow_le_pow_right (by decide) (Nat.le_of_not_lt hc)))] at hl
              cases hl
            have hm := head_filter hlt hl hj
            rw [hcl] at h0
            have hnil : ((List.range (2 ^ n)).filter fun s => t.testBit s) = [] := List.eq_nil_of_length_eq_zero (by omega)
            rw [hnil] at hm
            cases hm
        subst ht0
        walk_at "w"
        rw [if_neg Bool.false_ne_true]
        walk_at "w"
        exact ⟨rfl, rfl⟩
      · rw [if_neg Bool.false_ne_true]
        walk_at "w"
        exact ⟨rfl, rfl⟩
    rintro σ' H' ⟨rfl, rfl⟩
    refine w_cut (fun σ' H2 => σ' = [some (nV t), some (nV (2 ^ n)), some (.ref p), some (.ref q1), some least, none, none, none] ∧ H2 = H') ?_ ?_
    · walk_at "w"
      refine w_lenL hst ?_
      walk_at "w"
      refine w_ite (fun h0 => ?_) (fun h0 => ?_)
      · rcases hL with ⟨rfl, e⟩ | ⟨l, rfl, hl, hj⟩
        · exfalso
          have e0 : ((List.range (2 ^ n)).filter fun s => (0 : Nat).testBit s) = [] := by
            rw [List.filter_eq_nil_iff]
            intro a _
            rw [Nat.zero_testBit]
            decide
          rw [e0] at h0
          exact absurd h0 (by decide)
        · have hlt : l < 2 ^ n := by
            refine Classical.byContradiction fun hc => ?_
            rw [Nat.testBit_lt_two_pow (Nat.lt_of_lt_of_le ht (Nat.pow_le_pow_right (by decide) (Nat.le_of_not_lt hc)))] at hl
            cases hl
          have hm := head_filter hlt hl hj
          walk_at "w"
          refine ⟨_, rfl, ?_⟩
          walk_at "w"
          rw [Bool.not_true, if_neg Bool.false_ne_true]
          walk_at "w"
          refine w_ixL hst (at_of (j := 0) rfl (v := nV l) (by rw [List.getElem?_map, hm]; rfl)) ?_
          walk_at "w"
          rw [decide_eq_true rfl, Bool.not_true, if_neg Bool.false_ne_true]
          walk_at "w"
          exact ⟨rfl, rfl⟩
      · rw [if_neg Bool.false_ne_true]
        walk_at "w"
        exact ⟨rfl, rfl⟩
    rintro σ2 H2 ⟨rfl, rfl⟩
    walk_at "w"
    refine ⟨t, 2 ^ n, rfl, Nat.pow_pos (by decide), by omega, ht, ?_⟩
    walk_at "w"
    refine ⟨_, rfl, ?_⟩
    walk_at "w"
    rw [Bool.not_true, if_neg Bool.false_ne_true]
    walk_at "w"
    refine w_lenL hst ?_
    walk_at "w"
    rw [hcl, decide_eq_true rfl, Bool.not_true, if_neg Bool.false_ne_true]
    walk_at "w"
    refine lp_list (ex_l eq1 hS) (fun _ σ' H' => ∃ y1 y2, σ' = [some (nV t), some (nV (2 ^ n)), some (.ref p), some (.ref q1), some least, some (nV ((List.range (2 ^ n)).filter fun s => t.testBit s).length), y1, y2] ∧ Ex H H') ⟨_, _, rfl, eq1⟩ (fun i σ' H' _ ⟨_, _, _, e⟩ => ex_l e hS) ?_ ?_
    · rintro i x σ' H' hx ⟨y1, y2, rfl, e1⟩
      obtain ⟨a, ha, rfl⟩ : ∃ a, a ∈ ls ∧ x = nV a := by
        rw [List.getElem?_map] at hx
        cases hz : ls[i]? with
        | none => rw [hz] at hx; cases hx
        | some z => rw [hz] at hx; exact ⟨z, List.mem_of_getElem? hz, (Option.some.inj hx).symm⟩
      walk_at "w"
      refine ⟨t, a, rfl, ?_⟩
      walk_at "w"
      refine ⟨_, rfl, ?_⟩
      walk_at "w"
      rw [Bool.not_true, if_neg Bool.false_ne_true]
      walk_at "w"
      refine w_I (by omega) ?_
      walk_at "w"
      rw [c_shr, show (1 : Int) = ((1 : Nat) : Int) from rfl, c_and, c_bit]
      walk_at "w"
      rw [decide_eq_true rfl, Bool.not_true, if_neg Bool.false_ne_true]
      walk_at "w"
      exact ⟨_, _, rfl, e1⟩
    · rintro σ' H' ⟨y1, y2, rfl, e1⟩
      walk_at "w"
      exact k _ e1
/-- a drawn world: its width, its tables, the asked bits, the looked-at states -/
def World21 (K : PySem.W.Frag) (G : Hp) (v : V) : Prop := ∃ (q tp wp lp : Addr) (n : Nat) (ts ws ls : List Nat), v = .ref q ∧ SqT K G q [nV n, .ref tp, .ref wp, .ref lp] ∧ n ≤ 14 ∧ SqL K G tp (nL ts) ∧ (∀ t ∈ ts, t < 2 ^ 2 ^ n) ∧
  SqL K G wp (nL ws) ∧ (∀ a ∈ ws, a < n) ∧ SqL K G lp (nL ls)
theorem World21.mono {G G' : Hp} {v : V} (h : World21 K G v) (e : Ex G G') : World21 K G' v := by
  obtain ⟨q, tp, wp, lp, n, ts, ws, ls, h1, h2, h3, h4, h5, h6, h7, h8⟩ := h
  exact ⟨q, tp, wp, lp, n, ts, ws, ls, h1, ex_t e h2, h3, ex_l e h4, h5, ex_l e h6, h7, ex_l e h8⟩
def sp_world (K : PySem.W.Frag) : Sp := fun vs H Q _ => ∃ (G : Hp) (M : Mem) (i : Nat) (a : Addr) (o : HO), vs = [.ref a] ∧ Own G H M ∧ M[i]? = some (a, o) ∧ Dr K G o ∧
  ∀ v G' o' H', Ex G G' → World21 K G' v → Dr K G' o' → Own G' H' (M.set i (a, o')) → Q v H'
theorem ok_world (D : DefB K mg "_law_table_world" s_law_table_world ["d"]) (B : Bt mg) (c_law_draw : C8.Cal P w K mg base 1 "_law_draw" (spDraw K) []) (c_law_rare : C8.Cal P w K mg base 2 "_law_rare" (sp_rare K) []) (c_law_some_table : C8.Cal P w K mg base 3 "_law_some_table" (sp_some K) []) :
    C8.Cal P w K mg base 4 "_law_table_world" (sp_world K) [] := by
  obtain ⟨f, fd, F, b⟩ := D
  refine C8.cal0 F b .nil sc_law_table_world (fun vs H Q E h => ?_) (fun cdv A outer s H vs Q E hr h => ?_)
  · obtain ⟨_, _, _, _, _, rfl, _⟩ := h
    rfl
  · obtain ⟨G, M, i, a, o, rfl, W, hi, hD, k⟩ := h
    have nd := sc_law_table_world.nd
    refine ⟨_, (C8.pss_cut (ps_set (i := 1) nd rfl (Or.inl rfl) (pe_ifExp (pt_val (C8.pe_c c_law_rare hr (by decide) rfl (pa_cons (pv 0) (pa_cons pe_int pa_nil)))) pe_int (C8.pe_c c_law_draw hr (by decide) rfl (pa_cons (pv 0) (pa_cons pe_int pa_nil)))))
      (pss_cons (ps_set (i := 2) nd rfl (Or.inr rfl) (pe_op op_shl pe_int (pv 1)))
      (pss_cons (ps_set (i := 3) nd rfl (Or.inl rfl) (C8.pe_c c_law_some_table hr (by decide) rfl (pa_cons (pv 0) (pa_cons (pv 2) pa_nil))))
      (pss_cons (ps_if (pt_cmpR op_lt (pv 1) pe_int (nomark _)) (pss_one (ps_ret (pe_tup (pa_cons (pv 1) (pa_cons (pe_lst (pa_cons (pv 3) (pa_cons pe_int (pa_cons (pe_op op_sub (pe_op op_shl pe_int (pv 2)) pe_int) pa_nil)))) (pa_cons (pe_listRg rfl rfl B.list (prg_1 rfl B.range (pv 1))) (pa_cons (pe_listRg rfl rfl B.list (prg_1 rfl B.range (pv 2))) pa_nil))))))) pss_nil)
      (pss_cons (ps_set (i := 4) nd rfl (Or.inl rfl) (pe_op op_cat (pe_lst (pa_cons pe_int (pa_cons (pe_op op_sub (pv 2) pe_int) pa_nil))) (pe_lc  (own := [("turn", 5)]) (g := gName 5) (tt := tYes) rfl nd  (pi_range1 rfl B.range (pa_cons pe_int pa_nil)) (blkOk_by (N := n_law_table_world) (sc := defScope s_law_table_world) (by decide +kernel)) (fun _ _ _ _ _ => (pg_name (i := 5) nd rfl (Or.inl rfl))) (fun _ _ _ _ _ => pts_nil) (fun _ _ _ _ _ => (C8.pe_c c_law_draw hr (by decide) rfl (pa_cons (pv 0) (pa_cons (pv 2) pa_nil)))))))
      (pss_one (ps_ret (pe_tup (pa_cons (pv 1) (pa_cons (pe_lst (pa_cons (pv 3) pa_nil)) (pa_cons (pe_lst (pa_cons pe_int (pa_cons (C8.pe_c c_law_draw hr (by decide) rfl (pa_cons (pv 0) (pa_cons (pv 1) pa_nil))) (pa_cons (pe_op op_sub (pv 1) pe_int) pa_nil)))) (pa_cons (pv 4) pa_nil)))))))))))), ?_⟩
    try dsimp only [cxOf, L2.Cx.nox]
    have hlen := (List.getElem?_eq_some_iff.mp hi).1
    refine w_cut (fun σ' H' => ∃ (n : Nat) (o' : HO), (n ≤ 8 ∨ n = 14) ∧ σ' = [some (.ref a), some (nV n), none, none, none, none] ∧ Dr K G o' ∧ Own G H' (M.set i (a, o'))) ?_ ?_
    · walk_at "w"
      refine ⟨G, M, i, a, o, _, rfl, W, hi, hD, by decide, by decide, fun v o1 H1 D1 W1 => ?_⟩
      have hi1 : (M.set i (a, o1))[i]? = some (a, o1) := List.getElem?_set_self hlen
      walk_at "w"
      refine w_iteb (fun hv => ?_) (fun hv => ?_)
      · walk_at "w"
        exact ⟨14, o1, .inr rfl, rfl, D1, W1⟩
      · walk_at "w"
        refine ⟨G, _, i, a, o1, _, rfl, W1, hi1, D1, by decide, by decide, fun u o2 H2 u0 u1 D2 W2 => ?_⟩
        rw [List.set_set] at W2
        obtain ⟨u', rfl⟩ := Int.eq_ofNat_of_zero_le u0
        walk_at "w"
        exact ⟨u', o2, .inl (by omega), rfl, D2, W2⟩
    rintro σ' H' ⟨n, o1, hn, rfl, D1, W1⟩
    have hi1 : (M.set i (a, o1))[i]? = some (a, o1) := List.getElem?_set_self hlen
    have hn14 : n ≤ 14 := by omega
    have h14 := p14 hn14
    have hp : 0 < 2 ^ n := Nat.pow_pos (by decide)
    walk_at "w"
    refine w_I (cpow _ (by omega)) ?_
    rw [c_shl1]
    walk_at "w"
    refine ⟨G, _, i, a, o1, 2 ^ n, rfl, W1, hi1, D1, hp, by omega, fun t o2 H2 ht D2 W2 => ?_⟩
    rw [List.set_set] at W2
    have hi2 : (M.set i (a, o2))[i]? = some (a, o2) := List.getElem?_set_self hlen
    walk_at "w"
    refine w_ite (fun hlt => ?_) (fun hlt => ?_)
    · -- all is asked
      walk_at "w"
      refine w_I (cpow _ (by omega)) ?_
      rw [c_shl1]
      walk_at "w"
      rw [c_pred _ (Nat.pow_pos (by decide))]
      refine ⟨by show 3 ≤ sizeLine; decide, fun tp htp => ?_⟩
      obtain ⟨e3, W3⟩ := W2.new (.lst [nV t, .int 0, nV (2 ^ 2 ^ n - 1)]) htp
      walk_at "w"
      refine ⟨RgOk.of_le (by decide) (by omega) (by decide) (by omega), ?_⟩
      rw [rg_nat]
      intro wp hwp
      obtain ⟨e4, W4⟩ := W3.new (.lst (nL (List.range n))) hwp
      walk_at "w"
      refine ⟨RgOk.of_le (by decide) (by omega) (by decide) (by omega), ?_⟩
      rw [rg_nat]
      intro lp hlp
      obtain ⟨e5, W5⟩ := W4.new (.lst (nL (List.range (2 ^ n)))) hlp
      walk_at "w"
      refine ⟨by show 4 ≤ sizeLine; decide, fun q hq => ?_⟩
      obtain ⟨e6, W6⟩ := W5.new (.tup [nV n, .ref tp, .ref wp, .ref lp]) hq
      have e56 := e5.trans e6
      have e46 := e4.trans e56
      have e36 := e3.trans e46
      refine k _ _ o2 _ e36 ⟨q, tp, wp, lp, n, [t, 0, 2 ^ 2 ^ n - 1], List.range n, List.range (2 ^ n), rfl, st_of upd_same, hn14, ex_l e46 (sq_of upd_same), ?_, ex_l e56 (sq_of upd_same), fun a ha => List.mem_range.mp ha, ex_l e6 (sq_of upd_same)⟩ (D2.mono e36) W6
      have hp2 : 0 < 2 ^ 2 ^ n := Nat.pow_pos (by decide)
      intro x hx
      simp only [List.mem_cons, List.not_mem_nil, or_false] at hx
      rcases hx with rfl | rfl | rfl
      · exact ht
      · exact hp2
      · omega
    · -- the first, the last and sixty drawn states
      have hn1 : n = 14 := by omega
      subst hn1
      walk_at "w"
      refine ⟨by show 2 ≤ sizeLine; decide, fun h1 hh1 => ?_⟩
      have W3 := W2.newM (o := .lst [.int 0, .int (((2 ^ 14 : Nat) : Int) - 1)]) hh1
      walk_at "w"
      have hi2' : ((h1, HO.lst [.int 0, .int (((2 ^ 14 : Nat) : Int) - 1)]) :: M.set i (a, o2))[i + 1]? = some (a, o2) := hi2
      refine cp_rng1O (fun k acc G' M' => ∃ (o' : HO) (l : List Nat), G' = G ∧ M' = (h1, .lst [.int 0, .int (((2 ^ 14 : Nat) : Int) - 1)]) :: M.set i (a, o') ∧ Dr K G o' ∧ acc = nL l ∧ l.length = k) W3 (by decide) ⟨o2, [], rfl, rfl, D2, rfl, rfl⟩ (fun _ => rfl) ?_ ?_
      · rintro k' D acc G' M' H' hk' e4 W4 ⟨o3, l, rfl, rfl, D3, rfl, rfl⟩ hl
        walk_at "w"
        rw [if_pos rfl]
        walk_at "w"
        have hi3 : ((D, HO.lst (nL l)) :: (h1, HO.lst [.int 0, .int (((2 ^ 14 : Nat) : Int) - 1)]) :: M.set i (a, o3))[i + 2]? = some (a, o3) := List.getElem?_set_self hlen
        refine ⟨G', _, i + 2, a, o3, _, rfl, W4, hi3, D3, by omega, by omega, fun v o4 H4 v0 v1 D4 W5 => ?_⟩
        obtain ⟨v', rfl⟩ := Int.eq_ofNat_of_zero_le v0
        have W6 : Own G' H4 ((D, .lst (nL l)) :: (h1, .lst [.int 0, .int (((2 ^ 14 : Nat) : Int) - 1)]) :: M.set i (a, o4)) := by
          have z : ((D, HO.lst (nL l)) :: (h1, HO.lst [.int 0, .int (((2 ^ 14 : Nat) : Int) - 1)]) :: M.set i (a, o3)).set (i + 2) (a, o4) = (D, HO.lst (nL l)) :: (h1, HO.lst [.int 0, .int (((2 ^ 14 : Nat) : Int) - 1)]) :: (M.set i (a, o3)).set i (a, o4) := rfl
          rw [z, List.set_set] at W5
          exact W5
        refine addO W6 (Ex.refl _) ⟨o4, l ++ [v'], rfl, rfl, D4, ?_, ?_⟩ (by rw [List.length_map]; exact Nat.le_refl _) (by omega)
        · show nL l ++ [nV v'] = (l ++ [v']).map nV
          rw [List.map_append]
          rfl
        · rw [List.length_append]
          rfl
      · rintro lq H4 acc G' M' e4 W4 ⟨o3, l, rfl, rfl, D3, rfl, hl⟩
        refine w_cat (W4.get (i := 1) rfl) (W4.get (i := 0) rfl) (by rw [List.length_map, hl]; decide) fun lp hlp => ?_
        obtain ⟨e5, W5⟩ := W4.drop.drop.new (.lst ([.int 0, .int (((2 ^ 14 : Nat) : Int) - 1)] ++ nL l)) hlp
        have hi3 : (M.set i (a, o3))[i]? = some (a, o3) := List.getElem?_set_self hlen
        walk_at "w"
        refine ⟨by show 1 ≤ sizeLine; decide, fun tp htp => ?_⟩
        obtain ⟨e6, W6⟩ := W5.new (.lst [nV t]) htp
        walk_at "w"
        refine ⟨_, _, i, a, o3, _, rfl, W6, hi3, (D3.mono e5).mono e6, by decide, by decide, fun v o4 H5 v0 v1 D4 W7 => ?_⟩
        rw [List.set_set] at W7
        obtain ⟨v', rfl⟩ := Int.eq_ofNat_of_zero_le v0
        walk_at "w"
        refine ⟨by show 3 ≤ sizeLine; decide, fun wp hwp => ?_⟩
        obtain ⟨e7, W8⟩ := W7.new (.lst [.int 0, nV v', .int (((14 : Nat) : Int) - 1)]) hwp
        walk_at "w"
        refine ⟨by show 4 ≤ sizeLine; decide, fun q hq => ?_⟩
        obtain ⟨e8, W9⟩ := W8.new (.tup [nV 14, .ref tp, .ref wp, .ref lp]) hq
        have e78 := e7.trans e8
        have e68 := e6.trans e78
        refine k _ _ o4 _ (e5.trans e68) ⟨q, tp, wp, lp, 14, [t], [0, v', 13], 0 :: (2 ^ 14 - 1) :: l, rfl, st_of upd_same, Nat.le_refl _, ex_l e78 (sq_of upd_same), ?_, ex_l e8 (sq_of upd_same), ?_, ex_l e68 (sq_of upd_same)⟩ (D4.mono e78) W9
        · intro x hx
          rw [List.mem_singleton] at hx
          subst hx
          exact ht
        · intro x hx
          simp only [List.mem_cons, List.not_mem_nil, or_false] at hx
          omega
def spLaw (K : PySem.W.Frag) : Sp := fun vs H Q _ => ∃ (a : Addr) (ns : List Int), vs = [.ref a] ∧ SqL K H a (ns.map V.int) ∧ ns.length ≤ 63 ∧ ∀ H', Q (.bl true) H'
structure Gt (mg : Str → Option Value) : Prop where
  gMOST_TABLE : ∃ u, mg "MOST_TABLE" = some u ∧ RelV (.int 14) u
theorem ok_law {f : Addr} {fd : FuncData} (F : C8.Def K mg "law" slaw f fd) (B : Bt mg) (T : Gt mg) (c_law_is_int : C8.Cal P w K mg base 1 "_law_is_int" sp_isint []) (c_law_begin : C8.Cal P w K mg base 1 "_law_begin" (sp_begin K) [])
    (c_law_table_world : C8.Cal P w K mg base 4 "_law_table_world" (sp_world K) []) (c_law_widths_right : C8.Cal P w K mg base 3 "_law_widths_right" (sp_widths K) []) (c_law_questions_right : C8.Cal P w K mg base 2 "_law_questions_right" (sp_quest K) []) :
    FnOk P w K mg base C8.CX0 5 f fd ["script"] (spLaw K) := by
  refine C8.fn0 F.fn sclaw (fun vs H Q E h => ?_) (fun cdv A outer s H vs Q E hr h => ?_)
  · obtain ⟨_, _, rfl, _⟩ := h
    rfl
  · obtain ⟨a, ns, rfl, hS, hl, k⟩ := h
    have nd := sclaw.nd
    refine ⟨_, (pss_cons (ps_if (PW.pt (pw_or (pt_not (pt_val (C8.pe_c c_law_is_int hr (by decide) rfl (pa_cons (C8.pe_gc rfl T.gMOST_TABLE) pa_nil)))) (pw_or1 (pt_cmpR op_ne (C8.pe_gc rfl T.gMOST_TABLE) pe_int (nomark _))))) (pss_one (ps_ret pe_bl)) pss_nil)
      (pss_cons (ps_set (i := 1) nd rfl (Or.inr rfl) (C8.pe_c c_law_begin hr (by decide) rfl (pa_cons (pv 0) pa_nil)))
      (pss_cons (ps_setLc (i := 2)  (own := [("turn", 9)]) (g := gName 9) (tt := tYes) rfl nd rfl rfl (sw_true rfl rfl rfl (by decide +kernel))  (pi_range1 rfl B.range (pa_cons pe_int pa_nil)) (blkOk_by (N := nlaw) (sc := defScope slaw) (by decide +kernel)) (fun _ _ _ _ _ => (pg_name (i := 9) nd rfl (Or.inl rfl))) (fun _ _ _ _ _ => pts_nil) (fun _ _ _ _ _ => (C8.pe_c c_law_table_world hr (by decide) rfl (pa_cons (pv 1) pa_nil))))
      (pss_cons (ps_for PassesOwn.never rfl (pi_tup (pe_tup (pa_cons pe_int (pa_cons pe_int (pa_cons pe_int pa_nil))))) (pg_name (i := 3) nd rfl (Or.inl rfl)) (pss_cons (ps_asg (pe_ix ix_list (pv 2) (pv 3) (fun _ _ => rfl)) (pg_tup rfl (pgs_cons (pg_name (i := 4) nd rfl (Or.inl rfl)) (pgs_cons (pg_name (i := 5) nd rfl (Or.inl rfl)) (pgs_cons (pg_name (i := 6) nd rfl (Or.inl rfl)) (pgs_cons (pg_name (i := 7) nd rfl (Or.inl rfl)) pgs_nil))))))
      (pss_cons (ps_if (pt_not (pt_val (C8.pe_c c_law_widths_right hr (by decide) rfl (pa_cons (pv 4) (pa_cons (pv 6) pa_nil))))) (pss_one (ps_ret pe_bl)) pss_nil)
      (pss_one (ps_for PassesOwn.never rfl (pi_list (pv 5)) (pg_name (i := 8) nd rfl (Or.inl rfl)) (pss_one (ps_if (pt_not (pt_val (C8.pe_c c_law_questions_right hr (by decide) rfl (pa_cons (pv 8) (pa_cons (pe_op op_shl pe_int (pv 4)) (pa_cons (pv 7) pa_nil)))))) (pss_one (ps_ret pe_bl)) pss_nil)))))))
      (pss_one (ps_ret pe_bl)))))), ?_⟩
    try dsimp only [cxOf, L2.Cx.nox]
    walk_at "w"
    refine ⟨_, rfl, ?_⟩
    walk_at "w"
    rw [Bool.not_true, if_neg Bool.false_ne_true]
    walk_at "w"
    rw [decide_eq_true rfl, Bool.not_true, if_neg Bool.false_ne_true]
    walk_at "w"
    refine ⟨a, ns, rfl, hS, hl, fun d c H1 hd hc ndc e1 hlc hld => ?_⟩
    -- the state of the draws is owned
    have hcd : SqL K (upd H c (.lst (ns.map V.int))) c (ns.map V.int) := sq_of upd_same
    have W0 : Own (upd H c (.lst (ns.map V.int))) H1 [(d, .lst [.ref c, .int 0, .int 0, .int 7])] := by
      refine ⟨fun x o hx => ?_, fun q hq => ?_, fun q hq => ?_, by simp⟩
      · by_cases hxc : x = c
        · subst hxc
          rw [upd_same] at hx
          rw [hlc]
          exact hx
        · rw [upd_ne hxc] at hx
          exact e1 x o hx
      · rw [List.mem_singleton] at hq
        rw [hq]
        exact hld
      · rw [List.mem_singleton] at hq
        rw [hq, upd_ne ndc]
        exact hd
    have D0 : Dr K (upd H c (.lst (ns.map V.int))) (.lst [.ref c, .int 0, .int 0, .int 7]) := ⟨c, 0, 0, 7, ns, rfl, hcd, by decide, by decide, by decide⟩
    walk_at "w"
    refine cp_rng1O (fun k acc G' M' => ∃ o', M' = [(d, o')] ∧ Dr K G' o' ∧ acc.length = k ∧ ∀ v ∈ acc, World21 K G' v) W0 (by decide) ⟨_, rfl, D0, rfl, fun _ h => (List.not_mem_nil h).elim⟩ (fun _ => rfl) ?_ ?_
    · rintro k' D acc G' M' H' hk' e4 W4 ⟨o3, rfl, D3, hacc, hall⟩ hl
      walk_at "w"
      rw [if_pos rfl]
      walk_at "w"
      refine ⟨G', _, 1, d, o3, rfl, W4, rfl, D3, fun v G2 o4 H4 e5 hv D4 W5 => ?_⟩
      refine addO W5 (e4.trans e5) ⟨o4, rfl, D4, ?_, ?_⟩ hl (by omega)
      · rw [List.length_append, hacc]
        rfl
      · intro u hu
        rcases List.mem_append.mp hu with hu | hu
        · exact (hall u hu).mono e5
        · rw [List.mem_singleton] at hu
          rw [hu]
          exact hv
    · rintro wl H2 acc G2 M2 e5 W2 ⟨o3, rfl, D3, hacc, hall⟩
      have W3 := W2.freeze.drop
      have hwl : SqL K H2 wl acc := W2.ml (i := 0) rfl
      walk_at "w"
      refine ⟨by show 3 ≤ sizeLine; decide, fun tq htq => ?_⟩
      have x0 : Ex H2 (upd H2 tq (.tup [.int 0, .int 1, .int 0])) := Ex.new htq
      have hG : Ex G2 (upd H2 tq (.tup [.int 0, .int 1, .int 0])) := W2.ex.trans x0
      have hwl3 := ex_l x0 hwl
      have htq3 : SqT K (upd H2 tq (.tup [.int 0, .int 1, .int 0])) tq [.int 0, .int 1, .int 0] := st_of upd_same
      generalize upd H2 tq (.tup [.int 0, .int 1, .int 0]) = H3 at hG hwl3 htq3 ⊢
      refine lp_tup htq3 (fun _ σ' H' => ∃ y3 y4 y5 y6 y7 y8 y9, σ' = [some (.ref a), some (.ref d), some (.ref wl), y3, y4, y5, y6, y7, y8, y9] ∧ Ex H3 H') ⟨_, _, _, _, _, _, _, rfl, Ex.refl _⟩ (fun i σ' H' _ ⟨_, _, _, _, _, _, _, _, e⟩ => ex_t e htq3) ?_ ?_
      · rintro i x σ' H' hx ⟨y3, y4, y5, y6, y7, y8, y9, rfl, e6⟩
        obtain ⟨z, hz, rfl⟩ : ∃ z : Nat, z < acc.length ∧ x = nV z := by
          match i, hx with
          | 0, hx => exact ⟨0, by rw [hacc]; decide, (Option.some.inj hx).symm⟩
          | 1, hx => exact ⟨1, by rw [hacc]; decide, (Option.some.inj hx).symm⟩
          | 2, hx => exact ⟨0, by rw [hacc]; decide, (Option.some.inj hx).symm⟩
        obtain ⟨q, tp, wp, lp, n, ts, ws, ls, hv, g2, g3, g4, g5, g6, g7, g8⟩ := (hall (acc[z]) (List.getElem_mem hz)).mono (hG.trans e6)
        walk_at "w"
        refine w_ixL (ex_l e6 hwl3) (at_of (j := z) rfl (v := .ref q) (by rw [List.getElem?_eq_getElem hz, hv])) ?_
        refine w_gtup g2 rfl ?_
        walk_at "w"
        refine ⟨n, wp, ws, rfl, g3, g6, g7, fun H4 e7 => ?_⟩
        walk_at "w"
        rw [Bool.not_true, if_neg Bool.false_ne_true]
        walk_at "w"
        refine lp_list (ex_l e7 g4) (fun _ σ' H' => ∃ y8, σ' = [some (.ref a), some (.ref d), some (.ref wl), some (nV z), some (nV n), some (.ref tp), some (.ref wp), some (.ref lp), y8, y9] ∧ Ex H4 H') ⟨_, rfl, Ex.refl _⟩ (fun i σ' H' _ ⟨_, _, e⟩ => ex_l (e7.trans e) g4) ?_ ?_
        · rintro i2 x σ2 H5 hx2 ⟨y8, rfl, e8⟩
          obtain ⟨t, ht, rfl⟩ : ∃ t, t ∈ ts ∧ x = nV t := by
            rw [List.getElem?_map] at hx2
            cases hz : ts[i2]? with
            | none => rw [hz] at hx2; cases hx2
            | some z => rw [hz] at hx2; exact ⟨z, List.mem_of_getElem? hz, (Option.some.inj hx2).symm⟩
          walk_at "w"
          refine w_I (cpow _ (by omega)) ?_
          rw [c_shl1]
          walk_at "w"
          refine ⟨t, n, lp, ls, rfl, g3, g5 t ht, ex_l (e7.trans e8) g8, fun H6 e9 => ?_⟩
          walk_at "w"
          rw [Bool.not_true, if_neg Bool.false_ne_true]
          walk_at "w"
          exact ⟨_, rfl, e8.trans e9⟩
        · rintro σ2 H5 ⟨y8, rfl, e8⟩
          exact ⟨_, _, _, _, _, _, _, rfl, (e6.trans e7).trans e8⟩
      · rintro σ' H' ⟨y3, y4, y5, y6, y7, y8, y9, rfl, e6⟩
        walk_at "w"
        exact k _
end
end Sw

set_option Elab.async false
set_option linter.all false
set_option maxRecDepth 100000
set_option maxHeartbeats 4000000

namespace Sw
open PySem PySem.Spec PyProof.Rows L2 Evl PySem.W.SwF
theorem law_mk {P : Program} {w : World} {K : PySem.W.Frag} {h : Heap} {mg : Str → Option Value} {fa f : Addr} {oc kV doc pm cd ct : Value} {od an : Option Addr} {sl : Array (Option Value)} (X : K.In h) (G : h.Ns mainGlobals mg) (hfa : mg "law" = some (.ref fa))
    (B : Bt mg) (T : Gt mg) (D1 : DefB K mg "full_table" sfull_table ["n"]) (D2 : DefB K mg "variable_table" svariable_table ["n", "at"]) (D3 : DefB K mg "least_state" sleast_state ["table"]) (D4 : DefB K mg "count_states" scount_states ["table"])
    (D5 : DefB K mg "bit_in" sbit_in ["table", "state"]) (D6 : DefB K mg "_law_begin" s_law_begin ["script"]) (D7 : DefB K mg "_law_draw" s_law_draw ["d", "many"]) (D8 : DefB K mg "_law_rare" s_law_rare ["d", "many"]) (D9 : DefB K mg "_law_is_int" s_law_is_int ["thing"])
    (D10 : DefB K mg "_law_some_number" s_law_some_number ["d", "many"]) (D11 : DefB K mg "_law_some_table" s_law_some_table ["d", "many"]) (D12 : DefB K mg "_law_is_table" s_law_is_table ["thing", "many"]) (D13 : DefB K mg "_law_holding" s_law_holding ["table", "many"])
    (D14 : DefB K mg "_law_widths_right" s_law_widths_right ["n", "wanted"]) (D15 : DefB K mg "_law_questions_right" s_law_questions_right ["table", "many", "looked"]) (D16 : DefB K mg "_law_table_world" s_law_table_world ["d"])
    (a : PySem.W.nsIn K mainGlobals "law" = some (some (.ref f))) (l : K.lookup f = some ⟨oc, od, .func (PySem.W.fnOf "law" "law" (C8.fnArgs slaw) (C8.fnBody slaw) (C8.fnScope slaw) .none kV doc pm an cd ct), sl⟩) (c : PySem.W.codeIn K cd "law" = true) (k : PySem.W.keepIn K (.ref f) = true) :
    ∃ fd : FuncData, (∀ (s : Shared) (v : Value), BindsTo s fd ⟨[v], []⟩ [("script", v)]) ∧ ∀ base : Heap, K.In base → base.Ns mainGlobals mg → FnOk P w K mg base C8.CX0 5 fa fd ["script"] (spLaw K) := by
  have e := hfa.symm.trans (PySem.W.mg_of X G a)
  cases e
  refine ⟨PySem.W.fnOf "law" "law" (C8.fnArgs slaw) (C8.fnBody slaw) (C8.fnScope slaw) .none kV doc pm an cd ct, fun s v => .of_eq rfl, fun base _ _ => ?_⟩
  have cd := ok_draw (P := P) (w := w) (base := base) D7 B
  have ci := ok_isint (P := P) (w := w) (base := base) D9 B
  have ch := ok_hold (P := P) (w := w) (base := base) D13 B
  have cr := ok_rare (P := P) (w := w) (base := base) D8 cd
  have cs := ok_some (P := P) (w := w) (base := base) D10 B cd
  have ct := ok_table (P := P) (w := w) (base := base) D11 cd cs
  exact ok_law (def_mk X G a l c k) B T ci (ok_begin D6 B) (ok_world D16 B cd cr ct) (ok_widths D14 B (ok_full D1 B) ci (ok_var D2) (ok_istab D12 ci) ch) (ok_quest D15 B ci (ok_least D3) (ok_count D4) ch (ok_bit D5))
end Sw
open PySem PySem.W PyProof.Rows
set_option maxHeartbeats 0 in
theorem PySem.Challenge.cw_swornblocks_k21_tables_holds : PySem.Challenge.rw_swornblocks_k21_tables.Holds := by
  w_on; o_law; k_head; (case hw => w_witness2)
  k_fill
  refine L2.walk_of (l := PySem.Challenge.rw_swornblocks_k21_tables) (n := 63) (k := 5) (x := "script") (CX := fun _ => C8.CX0) (sp := fun w => Sw.spLaw _) rfl (by decide) rfl ⟨rfl, by decide, by decide⟩ (fun w h Y => PySem.W.kIn_of Y) ?F (fun _ _ a ns hl _ hS => ⟨a, ns, rfl, hS, hl, fun _ => rfl⟩) (fun _ _ _ _ _ h => h)
  case F =>
    intro w mg fa h KX G hmg
    refine' (fun (D1 : Sw.DefB _ mg "full_table" Sw.sfull_table ["n"]) => ?restD1) (Sw.defB_mk KX G ?a ?l ?c ?k ?b)
    (case a => k_is); (case l => k_is); (case c => k_is); (case k => k_is); (case b => exact fun _ _ _ _ _ _ us hl => match us, hl with | [_], _ => rfl)
    refine' (fun (D2 : Sw.DefB _ mg "variable_table" Sw.svariable_table ["n", "at"]) => ?restD2) (Sw.defB_mk KX G ?a ?l ?c ?k ?b)
    (case a => k_is); (case l => k_is); (case c => k_is); (case k => k_is); (case b => exact fun _ _ _ _ _ _ us hl => match us, hl with | [_, _], _ => rfl)
    refine' (fun (D3 : Sw.DefB _ mg "least_state" Sw.sleast_state ["table"]) => ?restD3) (Sw.defB_mk KX G ?a ?l ?c ?k ?b)
    (case a => k_is); (case l => k_is); (case c => k_is); (case k => k_is); (case b => exact fun _ _ _ _ _ _ us hl => match us, hl with | [_], _ => rfl)
    refine' (fun (D4 : Sw.DefB _ mg "count_states" Sw.scount_states ["table"]) => ?restD4) (Sw.defB_mk KX G ?a ?l ?c ?k ?b)
    (case a => k_is); (case l => k_is); (case c => k_is); (case k => k_is); (case b => exact fun _ _ _ _ _ _ us hl => match us, hl with | [_], _ => rfl)
    refine' (fun (D5 : Sw.DefB _ mg "bit_in" Sw.sbit_in ["table", "state"]) => ?restD5) (Sw.defB_mk KX G ?a ?l ?c ?k ?b)
    (case a => k_is); (case l => k_is); (case c => k_is); (case k => k_is); (case b => exact fun _ _ _ _ _ _ us hl => match us, hl with | [_, _], _ => rfl)
    refine' (fun (D6 : Sw.DefB _ mg "_law_begin" Sw.s_law_begin ["script"]) => ?restD6) (Sw.defB_mk KX G ?a ?l ?c ?k ?b)
    (case a => k_is); (case l => k_is); (case c => k_is); (case k => k_is); (case b => exact fun _ _ _ _ _ _ us hl => match us, hl with | [_], _ => rfl)
    refine' (fun (D7 : Sw.DefB _ mg "_law_draw" Sw.s_law_draw ["d", "many"]) => ?restD7) (Sw.defB_mk KX G ?a ?l ?c ?k ?b)
    (case a => k_is); (case l => k_is); (case c => k_is); (case k => k_is); (case b => exact fun _ _ _ _ _ _ us hl => match us, hl with | [_, _], _ => rfl)
    refine' (fun (D8 : Sw.DefB _ mg "_law_rare" Sw.s_law_rare ["d", "many"]) => ?restD8) (Sw.defB_mk KX G ?a ?l ?c ?k ?b)
    (case a => k_is); (case l => k_is); (case c => k_is); (case k => k_is); (case b => exact fun _ _ _ _ _ _ us hl => match us, hl with | [_, _], _ => rfl)
    refine' (fun (D9 : Sw.DefB _ mg "_law_is_int" Sw.s_law_is_int ["thing"]) => ?restD9) (Sw.defB_mk KX G ?a ?l ?c ?k ?b)
    (case a => k_is); (case l => k_is); (case c => k_is); (case k => k_is); (case b => exact fun _ _ _ _ _ _ us hl => match us, hl with | [_], _ => rfl)
    refine' (fun (D10 : Sw.DefB _ mg "_law_some_number" Sw.s_law_some_number ["d", "many"]) => ?restD10) (Sw.defB_mk KX G ?a ?l ?c ?k ?b)
    (case a => k_is); (case l => k_is); (case c => k_is); (case k => k_is); (case b => exact fun _ _ _ _ _ _ us hl => match us, hl with | [_, _], _ => rfl)
    refine' (fun (D11 : Sw.DefB _ mg "_law_some_table" Sw.s_law_some_table ["d", "many"]) => ?restD11) (Sw.defB_mk KX G ?a ?l ?c ?k ?b)
    (case a => k_is); (case l => k_is); (case c => k_is); (case k => k_is); (case b => exact fun _ _ _ _ _ _ us hl => match us, hl with | [_, _], _ => rfl)
    refine' (fun (D12 : Sw.DefB _ mg "_law_is_table" Sw.s_law_is_table ["thing", "many"]) => ?restD12) (Sw.defB_mk KX G ?a ?l ?c ?k ?b)
    (case a => k_is); (case l => k_is); (case c => k_is); (case k => k_is); (case b => exact fun _ _ _ _ _ _ us hl => match us, hl with | [_, _], _ => rfl)
    refine' (fun (D13 : Sw.DefB _ mg "_law_holding" Sw.s_law_holding ["table", "many"]) => ?restD13) (Sw.defB_mk KX G ?a ?l ?c ?k ?b)
    (case a => k_is); (case l => k_is); (case c => k_is); (case k => k_is); (case b => exact fun _ _ _ _ _ _ us hl => match us, hl with | [_, _], _ => rfl)
    refine' (fun (D14 : Sw.DefB _ mg "_law_widths_right" Sw.s_law_widths_right ["n", "wanted"]) => ?restD14) (Sw.defB_mk KX G ?a ?l ?c ?k ?b)
    (case a => k_is); (case l => k_is); (case c => k_is); (case k => k_is); (case b => exact fun _ _ _ _ _ _ us hl => match us, hl with | [_, _], _ => rfl)
    refine' (fun (D15 : Sw.DefB _ mg "_law_questions_right" Sw.s_law_questions_right ["table", "many", "looked"]) => ?restD15) (Sw.defB_mk KX G ?a ?l ?c ?k ?b)
    (case a => k_is); (case l => k_is); (case c => k_is); (case k => k_is); (case b => exact fun _ _ _ _ _ _ us hl => match us, hl with | [_, _, _], _ => rfl)
    refine' (fun (D16 : Sw.DefB _ mg "_law_table_world" Sw.s_law_table_world ["d"]) => ?restD16) (Sw.defB_mk KX G ?a ?l ?c ?k ?b)
    (case a => k_is); (case l => k_is); (case c => k_is); (case k => k_is); (case b => exact fun _ _ _ _ _ _ us hl => match us, hl with | [_], _ => rfl)
    have B : Sw.Bt mg := ⟨PySem.W.mg_none_of KX G (by k_is), PySem.W.mg_none_of KX G (by k_is), PySem.W.mg_none_of KX G (by k_is), PySem.W.mg_none_of KX G (by k_is), PySem.W.mg_none_of KX G (by k_is), PySem.W.mg_none_of KX G (by k_is), PySem.W.mg_none_of KX G (by k_is)⟩
    refine' (fun hT => ?restT) (PySem.W.mg_of (n := "MOST_TABLE") KX G ?a)
    (case a => k_is)
    have T : Sw.Gt mg := ⟨⟨_, hT, ⟨_, rfl⟩⟩⟩
    refine' Sw.law_mk KX G hmg B T D1 D2 D3 D4 D5 D6 D7 D8 D9 D10 D11 D12 D13 D14 D15 D16 ?a ?l ?c ?k
    (case a => k_is); (case l => k_is); (case c => k_is); (case k => k_is)
#print axioms PySem.Challenge.cw_swornblocks_k21_tables_holds
