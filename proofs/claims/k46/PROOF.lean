import PyProof.Rows.All
import Wide.All
import OpenK.AllK
import Wide.FinOn
import HandS.ForMost
import HandS.ForExc
import HandS.Evl
import HandS.IsInst
import HandS.Defaults
import HandS.Conv
import HandS.Deep
import HandS.SortInts
import HandS.SortRule
import HandS.TupAny
import HandS.TupMul
import HandS.OwnEq
import HandS.Strs
import HandS.SetFor
import HandS.ExcInit
import HandS.ExcIs
import HandS.ExcField
import HandS.ClsMeth
import HandS.Zip
import HandS.MakeKwOnly
import HandS.Lambda
import HandS.EndTab
import KE.KExcIs
import HandS.TupLen
import KE.GoesEnumKw
import HandS.Style
import PySem.Challenge.RW_nextchannel_k46_invalid_questions_of_sea
set_option Elab.async false
set_option linter.all false
set_option maxRecDepth 100000
set_option maxHeartbeats 4000000
/-! Own layer over HandS: owned local objects (Own), readings step by step (g_..). -/
namespace NX
open PySem PySem.Spec PyProof.Rows L2
open Evl (Ex ex_l ex_t fresh_back)

/-! ### heaps -/
/-- H without the addresses of L -/
def cut (H : Hp) (L : List (Addr × HO)) : Hp := fun a => if a ∈ L.map Prod.fst then none else H a
theorem cut_in {H : Hp} {L : List (Addr × HO)} {a : Addr} (h : a ∈ L.map Prod.fst) : cut H L a = none := by unfold cut; rw [if_pos h]
theorem cut_out {H : Hp} {L : List (Addr × HO)} {a : Addr} (h : a ∉ L.map Prod.fst) : cut H L a = H a := by unfold cut; rw [if_neg h]
def noTup : HO → Bool
  | .tup _ => false
  | .frz _ _ => false
  | _ => true
/-- G: what stands still; L: what the body may change, as it is now -/
structure Own (G : Hp) (L : List (Addr × HO)) (H : Hp) : Prop where
  ex : Ex G H
  at_ : ∀ p ∈ L, G p.1 = none ∧ H p.1 = some p.2
  nd : (L.map Prod.fst).Nodup
  nt : ∀ p ∈ L, noTup p.2 = true
section
variable {G H H' : Hp} {L : List (Addr × HO)} {p q r s : Addr} {o o' o1 o2 o3 o4 : HO}
theorem Own.start (H : Hp) : Own H [] H := ⟨Ex.refl H, fun _ h => (nomatch h), by simp, fun _ h => (nomatch h)⟩
theorem Own.grow (S : Own G L H) (e : Ex H H') : Own G L H' := ⟨S.ex.trans e, fun p h => ⟨(S.at_ p h).1, e _ _ (S.at_ p h).2⟩, S.nd, S.nt⟩
theorem Own.fresh (S : Own G L H) (h : H p = none) : p ∉ L.map Prod.fst := fun m => by
  obtain ⟨x, hx, e⟩ := List.mem_map.mp m
  have z := (S.at_ x hx).2
  rw [e, h] at z
  cases z
theorem Own.new (S : Own G L H) (e : Ex H H') (hp : H p = none) (h : H' p = some o) (ht : noTup o = true := by rfl) : Own G ((p, o) :: L) H' :=
  ⟨S.ex.trans e, fun x hx => by
    rcases List.mem_cons.mp hx with rfl | hx
    · exact ⟨fresh_back S.ex hp, h⟩
    · exact ⟨(S.at_ x hx).1, e _ _ (S.at_ x hx).2⟩, by
    rw [List.map_cons, List.nodup_cons]
    exact ⟨S.fresh hp, S.nd⟩, fun x hx => by
    rcases List.mem_cons.mp hx with rfl | hx
    · exact ht
    · exact S.nt x hx⟩
theorem ex_upd (hp : H p = none) : Ex H (upd H p o) := Ex.new hp
theorem Own.lay (S : Own G L H) (hp : H p = none) (ht : noTup o = true := by rfl) : Own G ((p, o) :: L) (upd H p o) := S.new (Ex.new hp) hp upd_same ht
theorem Own.forget (S : Own G ((p, o) :: L) H) : Own G L H := ⟨S.ex, fun x hx => S.at_ x (List.mem_cons_of_mem _ hx), by
  have z := S.nd
  rw [List.map_cons, List.nodup_cons] at z
  exact z.2, fun x hx => S.nt x (List.mem_cons_of_mem _ hx)⟩
theorem Own.get0 (S : Own G ((p, o) :: L) H) : H p = some o := (S.at_ _ List.mem_cons_self).2
theorem Own.get1 (S : Own G ((q, o1) :: (p, o) :: L) H) : H p = some o := S.forget.get0
theorem Own.get2 (S : Own G ((r, o2) :: (q, o1) :: (p, o) :: L) H) : H p = some o := S.forget.get1
theorem Own.get3 (S : Own G ((s, o3) :: (r, o2) :: (q, o1) :: (p, o) :: L) H) : H p = some o := S.forget.get2
theorem Own.no0 (S : Own G ((p, o) :: L) H) : G p = none := (S.at_ _ List.mem_cons_self).1
theorem Own.nin (S : Own G ((p, o) :: L) H) : p ∉ L.map Prod.fst := by
  have z := S.nd
  rw [List.map_cons, List.nodup_cons] at z
  exact z.1
theorem ex_mut (e : Ex G H) (h : G p = none) : Ex G (upd H p o) := fun a u ha => by
  rw [upd_ne (ne_of_none ha h)]
  exact e a u ha
theorem Own.put0 (S : Own G ((p, o) :: L) H) (ht : noTup o' = true := by rfl) : Own G ((p, o') :: L) (upd H p o') :=
  ⟨ex_mut S.ex S.no0, fun x hx => by
    rcases List.mem_cons.mp hx with rfl | hx
    · exact ⟨S.no0, upd_same⟩
    · have ne : x.1 ≠ p := fun e => S.nin (e ▸ List.mem_map_of_mem hx)
      rw [upd_ne ne]
      exact S.at_ x (List.mem_cons_of_mem _ hx), S.nd, fun x hx => by
    rcases List.mem_cons.mp hx with rfl | hx
    · exact ht
    · exact S.nt x (List.mem_cons_of_mem _ hx)⟩
theorem Own.perm {L' : List (Addr × HO)} (S : Own G L H) (h : L'.Perm L) : Own G L' H :=
  ⟨S.ex, fun x hx => S.at_ x (h.mem_iff.mp hx), (h.map Prod.fst).nodup_iff.mpr S.nd, fun x hx => S.nt x (h.mem_iff.mp hx)⟩
theorem Own.getM (S : Own G L H) (h : (p, o) ∈ L) : H p = some o := (S.at_ _ h).2
theorem nd_ne {L : List (Addr × HO)} (nd : (L.map Prod.fst).Nodup) {i j : Nat} {a b : Addr × HO} (hi : L[i]? = some a) (hj : L[j]? = some b) (ne : i ≠ j) : a.1 ≠ b.1 := fun e => by
  have h1 : (L.map Prod.fst)[i]? = some a.1 := by rw [List.getElem?_map, hi] <;> rfl
  have h2 : (L.map Prod.fst)[j]? = some a.1 := by rw [List.getElem?_map, hj, e] <;> rfl
  obtain ⟨l1, e1⟩ := List.getElem?_eq_some_iff.mp h1
  obtain ⟨l2, e2⟩ := List.getElem?_eq_some_iff.mp h2
  exact ne ((List.getElem_inj nd).mp (e1.trans e2.symm))
theorem Own.putM {j : Nat} (S : Own G L H) (h : L[j]? = some (p, o)) (ht : noTup o' = true := by rfl) : Own G (L.set j (p, o')) (upd H p o') := by
  have hm : (p, o) ∈ L := List.mem_of_getElem? h
  have hj : j < L.length := (List.getElem?_eq_some_iff.mp h).1
  have np : G p = none := (S.at_ _ hm).1
  have em : (L.set j (p, o')).map Prod.fst = L.map Prod.fst := by
    rw [List.map_set]
    refine List.ext_getElem? fun i => ?_
    by_cases c : j = i
    · subst c
      rw [List.getElem?_set_self (by rw [List.length_map]; exact hj), List.getElem?_map, h] <;> rfl
    · rw [List.getElem?_set_ne c]
  have cases_ : ∀ x ∈ L.set j (p, o'), x = (p, o') ∨ (x ∈ L ∧ x.1 ≠ p) := fun x hx => by
    obtain ⟨i, hi, e⟩ := List.mem_iff_getElem.mp hx
    have e' : (L.set j (p, o'))[i]? = some x := by rw [List.getElem?_eq_getElem hi, e]
    by_cases c : j = i
    · subst c
      rw [List.getElem?_set_self hj] at e'
      exact .inl (Option.some.inj e').symm
    · rw [List.getElem?_set_ne c] at e'
      exact .inr ⟨List.mem_of_getElem? e', nd_ne S.nd e' h (Ne.symm c)⟩
  refine ⟨ex_mut S.ex np, fun x hx => ?_, by rw [em]; exact S.nd, fun x hx => ?_⟩
  · rcases cases_ x hx with rfl | ⟨m, ne⟩
    · exact ⟨np, upd_same⟩
    · rw [upd_ne ne]
      exact S.at_ x m
  · rcases cases_ x hx with rfl | ⟨m, ne⟩
    · exact ht
    · exact S.nt x m
theorem Own.swap (S : Own G ((p, o) :: (q, o1) :: L) H) : Own G ((q, o1) :: (p, o) :: L) H := S.perm (List.Perm.swap _ _ _)
theorem Own.put1 (S : Own G ((q, o1) :: (p, o) :: L) H) (ht : noTup o' = true := by rfl) : Own G ((q, o1) :: (p, o') :: L) (upd H p o') := (S.swap.put0 ht).swap
theorem rot_perm {α : Type} (a b c : α) (l : List α) : (c :: a :: b :: l).Perm (a :: b :: c :: l) := (List.Perm.swap a c _).trans ((List.Perm.swap b c _).cons _)
theorem Own.rot (S : Own G ((r, o2) :: (q, o1) :: (p, o) :: L) H) : Own G ((p, o) :: (r, o2) :: (q, o1) :: L) H := S.perm (rot_perm _ _ _ _)
theorem Own.unrot (S : Own G ((p, o) :: (r, o2) :: (q, o1) :: L) H) : Own G ((r, o2) :: (q, o1) :: (p, o) :: L) H := S.perm (rot_perm _ _ _ _).symm
theorem Own.put2 (S : Own G ((r, o2) :: (q, o1) :: (p, o) :: L) H) (ht : noTup o' = true := by rfl) : Own G ((r, o2) :: (q, o1) :: (p, o') :: L) (upd H p o') := (S.rot.put0 ht).unrot
/-- what is new in H' (and the tuples of H) -/
def nw (H H' : Hp) : Hp := fun a => match H a with
  | none => H' a
  | some o => if noTup o then none else H' a
theorem nw_new {a : Addr} (h : H a = none) : nw H H' a = H' a := by unfold nw; rw [h]
theorem nw_tup {a : Addr} {o : HO} (h : H a = some o) (ht : noTup o = false) : nw H H' a = H' a := by
  unfold nw; rw [h]
  show (if noTup o = true then none else H' a) = H' a
  rw [ht] <;> rfl
theorem nw_mono {G H H' : Hp} (e : Ex G H) : Ex (nw H H') (nw G H') := fun a u h => by
  cases q : H a with
  | none =>
    rw [nw_new q] at h
    rw [nw_new (fresh_back e q)]
    exact h
  | some o =>
    cases t : noTup o with
    | true => unfold nw at h; rw [q] at h; simp [t] at h
    | false =>
      rw [nw_tup q t] at h
      cases z : G a with
      | none => rw [nw_new z]; exact h
      | some o' =>
        have y := e _ _ z
        rw [q] at y
        cases y
        rw [nw_tup z t]
        exact h
/-- what is new stands still from now on -/
theorem Own.absorb (S : Own G L H) (e : Ex H H') : Own (cut H' L) L H' ∧ Ex G (cut H' L) ∧ Ex (nw H H') (cut H' L) :=
  ⟨⟨fun a u h => by
      by_cases m : a ∈ L.map Prod.fst
      · rw [cut_in m] at h; cases h
      · rw [cut_out m] at h; exact h, fun x hx => ⟨cut_in (List.mem_map_of_mem hx), e _ _ (S.at_ x hx).2⟩, S.nd, S.nt⟩,
    fun a u h => by
      have m : a ∉ L.map Prod.fst := fun m => by
        obtain ⟨x, hx, z⟩ := List.mem_map.mp m
        have y := (S.at_ x hx).1
        rw [z, h] at y
        cases y
      rw [cut_out m]
      exact e _ _ (S.ex _ _ h),
    fun a o h => by
      cases q : H a with
      | none => rw [cut_out (S.fresh q), ← nw_new (H' := H') q]; exact h
      | some u =>
        cases t : noTup u with
        | true => unfold nw at h; rw [q] at h; simp [t] at h
        | false =>
          have m : a ∉ L.map Prod.fst := fun m => by
            obtain ⟨x, hx, z⟩ := List.mem_map.mp m
            have y := (S.at_ x hx).2
            rw [z, q] at y
            have n := S.nt x hx
            rw [← Option.some.inj y, t] at n
            cases n
          rw [cut_out m, ← nw_tup (H' := H') q t]
          exact h⟩
/-- the head of L stands still from now on -/
theorem Own.freeze (S : Own G ((p, o) :: L) H) : Own (upd G p o) L H ∧ Ex G (upd G p o) ∧ upd G p o p = some o :=
  ⟨⟨fun a u h => by
      by_cases e : a = p
      · subst e
        rw [upd_same] at h
        cases h
        exact S.get0
      · rw [upd_ne e] at h
        exact S.ex _ _ h, fun x hx => ⟨by
      have ne : x.1 ≠ p := fun e => S.nin (e ▸ List.mem_map_of_mem hx)
      rw [upd_ne ne]
      exact (S.at_ x (List.mem_cons_of_mem _ hx)).1, (S.at_ x (List.mem_cons_of_mem _ hx)).2⟩, S.forget.nd, S.forget.nt⟩, Ex.new S.no0, upd_same⟩
/-- from all that is known: a call that may change the object at p -/
theorem Own.give (h : H p = some o) (ht : noTup o = true := by rfl) : Own (cut H [(p, o)]) [(p, o)] H :=
  ⟨fun a u e => by
      by_cases m : a ∈ ([(p, o)] : List (Addr × HO)).map Prod.fst
      · rw [cut_in m] at e; cases e
      · rw [cut_out m] at e; exact e, fun x hx => by
      have z : x = (p, o) := by simpa using hx
      subst z
      exact ⟨cut_in (by simp), h⟩, by simp, fun x hx => by
      have z : x = (p, o) := by simpa using hx
      subst z
      exact ht⟩
/-- behind such a call -/
theorem Own.back {L' : List (Addr × HO)} (S : Own G ((p, o) :: L) H) (T : Own (cut H [(p, o)]) ((p, o') :: L') H') : Own G ((p, o') :: L' ++ L) H' := by
  have k : ∀ a u, a ≠ p → H a = some u → H' a = some u := fun a u ne e => T.ex _ _ (by rw [cut_out (by simpa using ne)]; exact e)
  refine ⟨fun a u e => k a u (ne_of_none e S.no0) (S.ex _ _ e), fun x hx => ?_, ?_, fun x hx => (List.mem_append.mp hx).elim (T.nt x) (S.forget.nt x)⟩
  · rcases List.mem_append.mp hx with hx | hx
    · refine ⟨?_, (T.at_ x hx).2⟩
      have z := (T.at_ x hx).1
      by_cases e : x.1 = p
      · rw [e]; exact S.no0
      · rw [cut_out (by simpa using e)] at z
        exact fresh_back S.ex z
    · have ne : x.1 ≠ p := fun e => S.nin (e ▸ List.mem_map_of_mem hx)
      exact ⟨(S.at_ x (List.mem_cons_of_mem _ hx)).1, k _ _ ne (S.at_ x (List.mem_cons_of_mem _ hx)).2⟩
  · rw [List.map_append, List.nodup_append]
    refine ⟨T.nd, S.forget.nd, fun a ha b hb e => ?_⟩
    subst e
    obtain ⟨x, hx, ex⟩ := List.mem_map.mp ha
    obtain ⟨y, hy, ey⟩ := List.mem_map.mp hb
    have ne : y.1 ≠ p := fun e => S.nin (e ▸ List.mem_map_of_mem hy)
    have z := (T.at_ x hx).1
    rw [ex, ← ey, cut_out (by simpa using ne), (S.at_ y (List.mem_cons_of_mem _ hy)).2] at z
    cases z
/-- what stood still, without the object that a call may change -/
theorem Own.keep (S : Own G ((p, o) :: L) H) : Ex G (cut H [(p, o)]) := fun a u e => by
  rw [cut_out (by simpa using ne_of_none e S.no0)]
  exact S.ex _ _ e
end

/-! ### readings, one step back at a time -/
/-- a new list, a new tuple is laid -/
def NewL (xs : List V) (H : Hp) (Q : VK) : Prop := xs.length ≤ sizeLine ∧ ∀ p, H p = none → Q (.ref p) (upd H p (.lst xs))
def NewT (xs : List V) (H : Hp) (Q : VK) : Prop := xs.length ≤ sizeLine ∧ ∀ p, H p = none → Q (.ref p) (upd H p (.tup xs))
def NewR (a b : Int) (H : Hp) (Q : VK) : Prop := RgOk a b ∧ ∀ q, H q = none → Q (.ref q) (upd H q (.lst (rgV a b)))
def rTupS (K : PySem.W.Frag) : List V → Hp → VK → Prop := fun xs H Q => ∃ p ys, xs = [.ref p] ∧ ((SqL K H p ys ∧ ∀ l, H l = none → Q (.ref l) (upd H l (.tup ys))) ∨ (SqT K H p ys ∧ Q (.ref p) H))
def rInt1 : List V → Hp → VK → Prop := fun xs H Q => (∃ i, xs = [.int i] ∧ Q (.int i) H) ∨ ∃ k, xs = [.bl k] ∧ Q (.int (if k then 1 else 0)) H
def rMin2 : List V → Hp → VK → Prop := fun xs H Q => ∃ i j, xs = [.int i, .int j] ∧ Q (.int (if j < i then j else i)) H
def rMax2 : List V → Hp → VK → Prop := fun xs H Q => ∃ i j, xs = [.int i, .int j] ∧ Q (.int (if j > i then j else i)) H
def rIsN : R2 := fun x y H Q => y = .non ∧ Q (.bl (decide (x = .non))) H
def rNotN : R2 := fun x y H Q => y = .non ∧ Q (.bl (!decide (x = .non))) H
section
variable {X : Cx}
theorem call_lenN : CallR X (.builtin "len") (Evl.rLenS X.K) := call_len_seq
theorem call_listN : CallR X (.type "list") (Evl.rListS X.K) := call_list_of
theorem call_tupN : CallR X (.type "tuple") (rTupS X.K) := call_tuple_of
theorem call_intN : CallR X (.type "int") rInt1 := call_int1
theorem call_minN (hc : X.calm = true) : CallR X (.builtin "min") rMin2 := call_min2 hc
theorem call_maxN (hc : X.calm = true) : CallR X (.builtin "max") rMax2 := call_max2 hc
theorem op_isNone : OpR X (compareOp .Is) rIsN := op_isN
theorem op_notNone : OpR X (compareOp .IsNot) rNotN := op_notN
end
section
variable {K : PySem.W.Frag} {σ : L2.St} {H : Hp} {ta tb tc te : TE} {t u : TT} {tr : TA} {Q : VK} {v x y : V} {r : R2}
theorem g_var {i : Nat} (h : σ[i]? = some (some v)) (k : Q v H) : tVar i σ H Q := ⟨v, h, k⟩
theorem g_c (k : Q v H) : tC v σ H Q := k
theorem g_op (k : ta σ H fun x H1 => tb σ H1 fun y H2 => r x y H2 Q) : tOp r ta tb σ H Q := k
theorem g_un {r : V → Hp → VK → Prop} (k : ta σ H fun x H1 => r x H1 Q) : tUn r ta σ H Q := k
theorem g_I0 {g : Int → Int → V} {i j : Int} (k : Q (g i j) H) : rI0 g (.int i) (.int j) H Q := ⟨i, j, rfl, rfl, k⟩
theorem g_I {C : Int → Int → Prop} {g : Int → Int → V} {i j : Int} (c : C i j) (k : Q (g i j) H) : rI C g (.int i) (.int j) H Q := ⟨i, j, rfl, rfl, c, k⟩
theorem g_U {g : Int → V} {i : Int} (k : Q (g i) H) : rU g (.int i) H Q := ⟨i, rfl, k⟩
theorem g_eqI {i j : Int} (k : Q (.bl (decide (i = j))) H) : rEq (.int i) (.int j) H Q := ⟨rfl, by
  have e : decide (V.int i = V.int j) = decide (i = j) := by
    by_cases z : i = j
    · rw [decide_eq_true z, decide_eq_true (by rw [z])]
    · rw [decide_eq_false z, decide_eq_false (fun q => z (V.int.inj q))]
  rw [e]; exact k⟩
theorem g_neI {i j : Int} (k : Q (.bl (!decide (i = j))) H) : rNe (.int i) (.int j) H Q := ⟨rfl, by
  have e : decide (V.int i = V.int j) = decide (i = j) := by
    by_cases z : i = j
    · rw [decide_eq_true z, decide_eq_true (by rw [z])]
    · rw [decide_eq_false z, decide_eq_false (fun q => z (V.int.inj q))]
  rw [e]; exact k⟩
theorem g_neB {i j : Bool} (k : Q (.bl (!decide (i = j))) H) : rNe (.bl i) (.bl j) H Q := ⟨rfl, by
  have e : decide (V.bl i = V.bl j) = decide (i = j) := by
    by_cases z : i = j
    · rw [decide_eq_true z, decide_eq_true (by rw [z])]
    · rw [decide_eq_false z, decide_eq_false (fun q => z (V.bl.inj q))]
  rw [e]; exact k⟩
theorem g_eqB {i j : Bool} (k : Q (.bl (decide (i = j))) H) : rEq (.bl i) (.bl j) H Q := ⟨rfl, by
  have e : decide (V.bl i = V.bl j) = decide (i = j) := by
    by_cases z : i = j
    · rw [decide_eq_true z, decide_eq_true (by rw [z])]
    · rw [decide_eq_false z, decide_eq_false (fun q => z (V.bl.inj q))]
  rw [e]; exact k⟩
theorem g_cb {r : List V → Hp → VK → Prop} (k : tr σ H fun vs H1 => r vs H1 Q) : tCB r tr σ H Q := k
theorem g_call {sp : Sp} {dvs : List V} {E : XK} (k : tr σ H fun vs H1 => sp (vs ++ dvs) H1 Q E) : tCall sp dvs E tr σ H Q := k
theorem g_nil {Q : List V → Hp → Prop} (k : Q [] H) : tNil σ H Q := k
theorem g_cons {Q : List V → Hp → Prop} (k : ta σ H fun x H1 => tr σ H1 fun xs H2 => Q (x :: xs) H2) : tCons ta tr σ H Q := k
theorem g_test {Q : Bool → Hp → Prop} (k : te σ H fun x H1 => ∃ b, x = .bl b ∧ Q b H1) : tTest te σ H Q := k
theorem g_B {Q : Bool → Hp → Prop} (k : te σ H fun x H1 => ∃ b, x = .bl b ∧ Q b H1) : tB te σ H Q := k
theorem g_bl {b : Bool} {Q : Bool → Hp → Prop} (k : Q b H) : ∃ c, V.bl b = .bl c ∧ Q c H := ⟨b, rfl, k⟩
theorem g_and {Q : Bool → Hp → Prop} (k : t σ H fun c H1 => if c = true then u σ H1 Q else Q false H1) : tAnd t u σ H Q := k
theorem g_or {Q : Bool → Hp → Prop} (k : t σ H fun c H1 => if c = true then Q true H1 else u σ H1 Q) : tOr t u σ H Q := k
theorem g_not {Q : Bool → Hp → Prop} (k : t σ H fun c H1 => Q (!c) H1) : tNot t σ H Q := k
theorem g_andV (k : ta σ H fun x H1 => ∃ c, x = .bl c ∧ if c = true then tb σ H1 Q else Q (.bl false) H1) : tAndV ta tb σ H Q := k
theorem g_orV (k : ta σ H fun x H1 => ∃ c, x = .bl c ∧ if c = true then Q (.bl true) H1 else tb σ H1 Q) : tOrV ta tb σ H Q := k
theorem g_notV (k : ta σ H fun x H1 => ∃ c, x = .bl c ∧ Q (.bl (!c)) H1) : tNotV ta σ H Q := k
theorem g_exV {b : Bool} {P : Bool → Prop} (k : P b) : ∃ c, V.bl b = .bl c ∧ P c := ⟨b, rfl, k⟩
theorem g_if (k : t σ H fun c H1 => if c = true then ta σ H1 Q else tb σ H1 Q) : tIf t ta tb σ H Q := k
theorem g_chain {r' : R2} (k : ta σ H fun x H1 => tb σ H1 fun y H2 => r x y H2 fun z H3 => ∃ k, z = .bl k ∧ (if k = true then tc σ H3 fun w' H4 => r' y w' H4 Q else Q (.bl false) H3)) : tChain r r' ta tb tc σ H Q := k
theorem g_tup (k : tr σ H fun xs H1 => NewT xs H1 Q) : tTup tr σ H Q := k
theorem g_lst (k : tr σ H fun xs H1 => NewL xs H1 Q) : tLst tr σ H Q := k
theorem g_sl {rs : V → Option Int → Option Int → Hp → VK → Prop} {tl th : TO} (k : te σ H fun x H1 => tl σ H1 fun l H2 => th σ H2 fun u H3 => rs x l u H3 Q) : tSl rs te tl th σ H Q := k
theorem g_noPart {Q : Option Int → Hp → Prop} (k : Q none H) : tNoPart σ H Q := k
theorem g_part {Q : Option Int → Hp → Prop} (k : te σ H fun x H1 => ∃ i, x = .int i ∧ Q (some i) H1) : tPart te σ H Q := k
theorem g_exI {i : Int} {P : Int → Prop} (k : P i) : ∃ j, V.int i = .int j ∧ P j := ⟨i, rfl, k⟩
theorem g_bm {T : String} {rm : V → List V → Hp → VK → Prop} (k : te σ H fun x H1 => tyV K T x H1 ∧ tr σ H1 fun xs H2 => rm x xs H2 Q) : tBM K T rm te tr σ H Q := k
theorem g_bm0 {T : String} {rm : V → List V → Hp → VK → Prop} (k : te σ H fun x H1 => tyV K T x H1 ∧ rm x [] H1 Q) : tBM0 K T rm te σ H Q := k
end
section
variable {K : PySem.W.Frag} {σ : L2.St} {H : Hp} {te : TE} {tt : TT} {ts us : TS} {tr : TA} {v : V} {n b c : L2.St → Hp → Prop} {rt : VK} {g : TG}
theorem s_seq (k : ts ⟨us ⟨n, rt, b, c⟩, rt, b, c⟩ σ H) : tSeq ts us ⟨n, rt, b, c⟩ σ H := k
theorem s_next (k : n σ H) : tNext ⟨n, rt, b, c⟩ σ H := k
theorem s_brk (k : b σ H) : tBreak ⟨n, rt, b, c⟩ σ H := k
theorem s_cont (k : c σ H) : tCont ⟨n, rt, b, c⟩ σ H := k
theorem s_drop (k : te σ H fun _ H1 => n σ H1) : tDrop te ⟨n, rt, b, c⟩ σ H := k
theorem s_ret (k : te σ H rt) : tRet te ⟨n, rt, b, c⟩ σ H := k
theorem s_retN (k : rt .non H) : tRetN ⟨n, rt, b, c⟩ σ H := k
theorem s_if (k : tt σ H fun x H1 => if x = true then ts ⟨n, rt, b, c⟩ σ H1 else us ⟨n, rt, b, c⟩ σ H1) : tIfS tt ts us ⟨n, rt, b, c⟩ σ H := k
theorem s_asg (k : te σ H fun x H1 => g x σ H1 n) : tAsg te g ⟨n, rt, b, c⟩ σ H := k
theorem s_name {i : Nat} {Q : L2.St → Hp → Prop} (k : Q (σ.set i (some v)) H) : gName i v σ H Q := k
theorem s_par {i j : Nat} (k : tr σ H fun vs H1 => ∃ v w, vs = [v, w] ∧ n ((σ.set i (some v)).set j (some w)) H1) : tPar i j tr ⟨n, rt, b, c⟩ σ H := k
theorem s_two {v w : V} {P : V → V → Prop} (k : P v w) : ∃ v' w', [v, w] = [v', w'] ∧ P v' w' := ⟨v, w, rfl, k⟩
theorem s_aug {i : Nat} {ti : TIp} {x : V} (h : σ[i]? = some (some x)) (k : te σ H fun y H1 => ti x y H1 fun z H2 => n (σ.set i (some z)) H2) : tAug i te ti ⟨n, rt, b, c⟩ σ H := ⟨x, h, k⟩
theorem s_ipI {f : Int → Int → Int} {i j : Int} {Q : VK} (k : Q (.int (f i j)) H) : ipI f (.int i) (.int j) H Q := ⟨i, j, rfl, rfl, k⟩
theorem s_sub {to ti : TE} {t : TSet} {Q : L2.St → Hp → Prop} (k : to σ H fun o H1 => ti σ H1 fun i H2 => t o i v H2 fun H3 => Q σ H3) : gSub to ti t v σ H Q := k
theorem s_gtup {K : PySem.W.Frag} {m : Nat} {t : TGs} {a : Addr} {xs : List V} {Q : L2.St → Hp → Prop} (h : SqT K H a xs) (e : xs.length = m) (k : t xs σ H Q) : gTup K m t (.ref a) σ H Q := ⟨a, xs, rfl, h, e, k⟩
theorem s_gcons {t : TG} {u : TGs} {r : List V} {Q : L2.St → Hp → Prop} (k : t v σ H fun σ' H' => u r σ' H' Q) : gCons t u (v :: r) σ H Q := ⟨v, r, rfl, k⟩
theorem s_gnil {Q : L2.St → Hp → Prop} (k : Q σ H) : gNil [] σ H Q := ⟨rfl, k⟩
end
/-! ### what is read of the heap: G stands still -/
section
variable {K : PySem.W.Frag} {G H : Hp} {L : List (Addr × HO)} {p : Addr} {xs : List V} {v : V} {Q : VK}
theorem Own.sl (S : Own G L H) (h : SqL K G p xs) : SqL K H p xs := ex_l S.ex h
theorem Own.st (S : Own G L H) (h : SqT K G p xs) : SqT K H p xs := ex_t S.ex h
theorem g_ixL {i : Int} (h : SqL K H p xs) (a : atI xs i = some v) (k : Q v H) : rIxL K (.ref p) (.int i) H Q := ⟨p, xs, i, v, rfl, rfl, h, a, k⟩
theorem g_ixT {i : Int} (h : SqT K H p xs) (a : atI xs i = some v) (k : Q v H) : rIxT K (.ref p) (.int i) H Q := ⟨p, xs, i, v, rfl, rfl, h, a, k⟩
end
/-! ### calls of defs -/
/-- the def x: its promise, how its arguments come -/
def Cal (P : Program) (w : World) (K : PySem.W.Frag) (mg : Str → Option Value) (base : Heap) (k : Nat) (x : Str) (ps : List Str) (dvs : List V) (sp : Sp) : Prop :=
  ∃ (f : Addr) (fd : FuncData) (ds : List Value), FnOk P w K mg base (L2.CX P w) k f fd ps sp ∧ mg x = some (.ref f) ∧ PySem.W.keepIn K (.ref f) = true ∧ Binds K fd ps ds ∧ Vals dvs ds
/-- .. called with n positional arguments and the keywords ks -/
def CalK (P : Program) (w : World) (K : PySem.W.Frag) (mg : Str → Option Value) (base : Heap) (k : Nat) (x : Str) (ps : List Str) (n : Nat) (ks : List Str) (gV : List V → List V → List V) (sp : Sp) : Prop :=
  ∃ (f : Addr) (fd : FuncData) (g : List Value → List Value → List Value), FnOk P w K mg base (L2.CX P w) k f fd ps sp ∧ mg x = some (.ref f) ∧ PySem.W.keepIn K (.ref f) = true ∧ KBn K fd ps n ks g gV
theorem fn_up {P : Program} {w : World} {K : PySem.W.Frag} {mg : Str → Option Value} {base : Heap} {k : Nat} {f : Addr} {fd : FuncData} {ps : List Str} {sp : Sp} (F : FnOk P w K mg base CX0 k f fd ps sp) : FnOk P w K mg base (L2.CX P w) k f fd ps sp :=
  ⟨F.len, fun A outer s H args us vs Q E hr he hb hv hs => codeAny_mono (F.run A outer s H args us vs Q E hr he hb hv hs) fun r s' h => by
    cases r with
    | error e => exact (show False from h).elim
    | ok fl => cases fl <;> exact h⟩
section
variable {X : Cx} {k n : Nat} {ps ks : List Str} {sp : Sp} {dvs : List V} {E : XK} {x : Str} {p pos : Pos} {e : Expr} {es : List Expr} {kws : List Keyword} {t tk : TA} {gV : List V → List V → List V}
theorem passN : Passes (L2.CX X.prog X.w) X E0 := L2.passL
/-- f(e, ..): what is written, no defaults -/
def tCal (sp : Sp) (E : XK) (t : TA) : TE := fun σ H Q => t σ H fun vs H1 => sp vs H1 Q E
theorem pe_cal (C : Cal X.prog X.w X.K X.mg X.base k x ps [] sp) (hr : Room k X.A) (hx : Passes (L2.CX X.prog X.w) X E) (ha : PA X (e :: es) t) (hg : Gl X x := by rfl) (hdb : (x == ("__debug__" : Str)) = false := by decide)
    (he : starEach (e :: es) X.env = (false, eval e X.env) :: starEach es X.env := by rfl) (hpl : (backTo pos (starEach es X.env)).any (·.1) = false := by rfl) : PE X (.Call (.Name x p) (e :: es) [] pos) (tCal sp E t) := by
  obtain ⟨f, fd, ds, F, hm, hk, hb, hd⟩ := C
  have q : PE X (.Call (.Name x p) (e :: es) [] pos) (tCall sp [] E t) := pe_call F hr hg hm hk hb hd hx ha hdb he hpl
  refine ⟨fun pins s σ H Q I h => q.run pins s σ H Q I ?_⟩
  have e : (fun (vs : List V) (H1 : Hp) => sp (vs ++ []) H1 Q E) = (fun vs H1 => sp vs H1 Q E) := by
    funext vs H1
    rw [List.append_nil]
  show t σ H fun vs H1 => sp (vs ++ []) H1 Q E
  rw [e]
  exact h
theorem pe_calD (C : Cal X.prog X.w X.K X.mg X.base k x ps dvs sp) (hr : Room k X.A) (hx : Passes (L2.CX X.prog X.w) X E) (ha : PA X (e :: es) t) (hg : Gl X x := by rfl) (hdb : (x == ("__debug__" : Str)) = false := by decide)
    (he : starEach (e :: es) X.env = (false, eval e X.env) :: starEach es X.env := by rfl) (hpl : (backTo pos (starEach es X.env)).any (·.1) = false := by rfl) : PE X (.Call (.Name x p) (e :: es) [] pos) (tCall sp dvs E t) := by
  obtain ⟨f, fd, ds, F, hm, hk, hb, hd⟩ := C
  exact pe_call F hr hg hm hk hb hd hx ha hdb he hpl
theorem g_cal {sp : Sp} {E : XK} {tr : TA} {σ : L2.St} {H : Hp} {Q : VK} (k : tr σ H fun vs H1 => sp vs H1 Q E) : tCal sp E tr σ H Q := k
theorem g_calN {sp : Sp} {E : XK} {tr tk : TA} {n m : Nat} {gV : List V → List V → List V} {σ : L2.St} {H : Hp} {Q : VK} (k : tr σ H fun vs H1 => tk σ H1 fun zs H2 => vs.length = n ∧ zs.length = m ∧ sp (gV vs zs) H2 Q E) : tCallN n m sp gV E tr tk σ H Q := k
theorem pe_calK (C : CalK X.prog X.w X.K X.mg X.base k x ps n ks gV sp) (hr : Room k X.A) (hx : Passes (L2.CX X.prog X.w) X E) (ha : PA X (e :: es) t) (hkw : PK X kws tk) (hg : Gl X x := by rfl)
    (hall : (backToKw pos (keywordEach kws X.env)).all (·.1.isSome) = true := by rfl) (hks : (backToKw pos (keywordEach kws X.env)).filterMap (·.1) = ks := by rfl)
    (hdb : (x == ("__debug__" : Str)) = false := by decide) (he : starEach (e :: es) X.env = (false, eval e X.env) :: starEach es X.env := by rfl)
    (hpl : ((backTo pos (starEach (e :: es) X.env)).any (·.1) || (backToKw pos (keywordEach kws X.env)).any (·.1.isNone)) = false := by rfl) :
    PE X (.Call (.Name x p) (e :: es) kws pos) (tCallN n ks.length sp gV E t tk) := by
  obtain ⟨f, fd, g, F, hm, hk, hb⟩ := C
  exact pe_callN F hr hg hm hk hb hx ha hkw hall hks hdb he hpl
theorem pe_calK0 (C : CalK X.prog X.w X.K X.mg X.base k x ps 0 ks gV sp) (hr : Room k X.A) (hx : Passes (L2.CX X.prog X.w) X E) (hkw : PK X kws tk) (hg : Gl X x := by rfl)
    (hall : (backToKw pos (keywordEach kws X.env)).all (·.1.isSome) = true := by rfl) (hks : (backToKw pos (keywordEach kws X.env)).filterMap (·.1) = ks := by rfl)
    (hdb : (x == ("__debug__" : Str)) = false := by decide)
    (hpl : ((backTo pos (starEach [] X.env)).any (·.1) || (backToKw pos (keywordEach kws X.env)).any (·.1.isNone)) = false := by rfl) :
    PE X (.Call (.Name x p) [] kws pos) (tCallN 0 ks.length sp gV E tNil tk) := by
  obtain ⟨f, fd, g, F, hm, hk, hb⟩ := C
  refine ⟨fun pins s σ H Q I h => ?_⟩
  refine wpAny_Call_Name_kw (ld_glob I hg hm ?_ hdb)
  refine PySem.W.callWith_KW0 (h₀ := X.base) I.ok.mod.kin hk hall ?_ hpl
  refine thn (hkw.run pos pins s σ H _ I h) fun ws s2 ⟨zs, H2, I2, rz, l1, l2, q2⟩ => ⟨I2.kIn, ?_⟩
  rw [hks]
  exact run_fnN (us := []) (vs := []) F hr hb hx I2 .nil rz rfl l2 q2
/-- a module's whole number -/
theorem pe_cst {i : Int} (hg : Gl X x) (hm : ∃ t, X.mg x = some (.int i t)) (hd : (x == ("__debug__" : Str)) = false := by decide) : PE X (.Name x pos) (tC (.int i)) := by
  obtain ⟨t, hm⟩ := hm
  exact pe_glob hg hm ⟨t, rfl⟩ hd
/-- a op1 b op2 c op3 d -/
def tChain3 (r r' r'' : R2) (ta tb tc td : TE) : TE := fun σ H Q => ta σ H fun x H1 => tb σ H1 fun y H2 => r x y H2 fun z H3 => ∃ k, z = .bl k ∧
  (if k = true then tc σ H3 fun w H4 => r' y w H4 fun z' H5 => ∃ k', z' = .bl k' ∧ (if k' = true then td σ H5 fun w' H6 => r'' w w' H6 Q else Q (.bl false) H5) else Q (.bl false) H3)
theorem pe_chain3 {op op' op'' : CmpOp} {r r' r'' : R2} {a b c d : Expr} {ta tb tc td : TE} (ho : OpR X (compareOp op) r) (ho' : OpR X (compareOp op') r') (ho'' : OpR X (compareOp op'') r'') (ha : PE X a ta) (hb : PE X b tb) (hc : PE X c tc) (hd : PE X d td)
    (hm : lastMarks [op, op', op''] [b, c, d] = false := by with_unfolding_all rfl) : PE X (.Compare a [op, op', op''] [b, c, d] pos) (tChain3 r r' r'' ta tb tc td) := by
  refine ⟨fun pins s σ H Q I h => ?_⟩
  refine Compare_chain (thn (ha.run pins s σ H _ I h) fun v s1 ⟨x, H1, I1, r1, q1⟩ => chain_link (thn (hb.run pins s1 σ H1 _ I1 q1) fun u s2 ⟨y, H2, I2, r2, q2⟩ =>
    thn (ho pins s2 σ H2 x y v u _ I2 r1 r2 q2) fun w s3 ⟨z, H3, I3, r3, k, e, q3⟩ => ?_)) hm
  subst e
  cases r3
  refine wpAny_truthy_bool ?_
  cases k with
  | false => exact ite_ff ⟨.bl false, H3, I3, rfl, q3⟩
  | true =>
    refine ite_tt (chain_link (thn (hc.run pins s3 σ H3 _ I3 q3) fun w' s4 ⟨z', H4, I4, r4, q4⟩ => thn (ho' pins s4 σ H4 y z' u w' _ I4 r2 r4 q4) fun w5 s5 ⟨z5, H5, I5, r5, k5, e5, q5⟩ => ?_))
    subst e5
    cases r5
    refine wpAny_truthy_bool ?_
    cases k5 with
    | false => exact ite_ff ⟨.bl false, H5, I5, rfl, q5⟩
    | true => exact ite_tt (chain_last (thn (hd.run pins s5 σ H5 _ I5 q5) fun w6 s6 ⟨z6, H6, I6, r6, q6⟩ => ho'' pins s6 σ H6 z' z6 w' w6 Q I6 r4 r6 q6))
theorem g_chain3 {σ : L2.St} {H : Hp} {Q : VK} {r r' r'' : R2} {ta tb tc td : TE} (k : ta σ H fun x H1 => tb σ H1 fun y H2 => r x y H2 fun z H3 => ∃ k, z = .bl k ∧
  (if k = true then tc σ H3 fun w H4 => r' y w H4 fun z' H5 => ∃ k', z' = .bl k' ∧ (if k' = true then td σ H5 fun w' H6 => r'' w w' H6 Q else Q (.bl false) H5) else Q (.bl false) H3)) : tChain3 r r' r'' ta tb tc td σ H Q := k
end
/-! ### loops -/
/-- what a for asks of the iterator J -/
def FORJ (J : It) (g : TG) (tb : TS) (D : Ends) (σ : L2.St) (H1 : Hp) : Prop := ∃ W : Nat → Nat → L2.St → Hp → Prop, (∃ m, W 0 m σ H1) ∧ ∀ i m σ H, W i m σ H →
  (J.stop i H ∧ D.nx σ H) ∨ (J.go i H ∧ ∃ N : L2.St → Hp → Prop, (∀ σ' H', N σ' H' → ∃ m', m' < m ∧ W (i + 1) m' σ' H') ∧ ∀ x H', J.yld i H x H' → g x σ H' fun σ2 H2 => tb { D with nx := N, ct := N, bk := D.nx } σ2 H2)
/-- what a comprehension asks -/
def LCJ (J : It) (g : TG) (tt : TT) (te : TE) (vs : List Nat) (σ : L2.St) (H1 : Hp) (Q : VK) : Prop := ∀ D, H1 D = none → ∃ W : Nat → Nat → Hp → Prop, (∃ m, W 0 m (upd H1 D (.lst []))) ∧ ∀ i m H, W i m H →
  (J.stop i H ∧ Q (.ref D) H) ∨ (J.go i H ∧ ∃ Nx : Hp → Prop, (∀ H', Nx H' → ∃ m', m' < m ∧ W (i + 1) m' H') ∧ ∀ x H', J.yld i H x H' → g x (wipe σ vs) H' fun σ2 H2 => wipe σ2 vs = wipe σ vs ∧ tt σ2 H2 fun b H3 =>
    if b = true then te σ2 H3 fun y H4 => ∃ acc, H4 D = some (.lst acc) ∧ acc.length < sizeLine ∧ Nx (upd H4 D (.lst (acc ++ [y]))) else Nx H3)
section
variable {K : PySem.W.Frag} {σ : L2.St} {G H : Hp} {L : List (Addr × HO)} {te ta : TE} {tt tc : TT} {tb : TS} {tr : TA} {g : TG} {wi : TI} {vs : List Nat} {Q : VK} {n b c : L2.St → Hp → Prop} {rt : VK} {a : Addr} {xs : List V}
theorem s_for (k : wi σ H fun J H1 => FORJ J g tb ⟨n, rt, b, c⟩ σ H1) : tFor wi g tb ⟨n, rt, b, c⟩ σ H := k
theorem g_lc (k : wi σ H fun J H1 => LCJ J g tt te vs σ H1 Q) : tLc wi g tt te vs σ H Q := k
theorem g_iList {R : It → Hp → Prop} (k : te σ H fun x H1 => ∃ a, x = .ref a ∧ (∃ xs, SqL K H1 a xs) ∧ R (Itl K a) H1) : iList K te σ H R := k
theorem g_iTup {R : It → Hp → Prop} (k : te σ H fun x H1 => ∃ a, x = .ref a ∧ (∃ xs, SqT K H1 a xs) ∧ R (Itt K a) H1) : iTup K te σ H R := k
theorem g_iRng1 {R : It → Hp → Prop} (k : tr σ H fun vs H1 => ∃ j : Int, vs = [.int j] ∧ -(2 ^ 62) ≤ j ∧ j < 2 ^ 62 ∧ R (Itr 0 j.toNat) H1) : iRng1 tr σ H R := k
theorem g_iRng2 {R : It → Hp → Prop} (k : tr σ H fun vs H1 => ∃ i j : Int, vs = [.int i, .int j] ∧ (-(2 ^ 62) ≤ i ∧ i < 2 ^ 62 ∧ -(2 ^ 62) ≤ j ∧ j < 2 ^ 62) ∧ R (Itr i (j - i).toNat) H1) : iRng2 tr σ H R := k
theorem g_iEnum {R : It → Hp → Prop} (k : tr σ H fun vs H1 => ∃ a xs, vs = [.ref a] ∧ SqL K H1 a xs ∧ R (Ite K a) H1) : iEnum K tr σ H R := k
theorem s_while (W : Nat → L2.St → Hp → Prop) (m0 : Nat) (h0 : W m0 σ H)
    (hs : ∀ m σ' H', W m σ' H' → tc σ' H' fun x H1 => if x = true then ∃ N : L2.St → Hp → Prop, (∀ σ2 H2, N σ2 H2 → ∃ m', m' < m ∧ W m' σ2 H2) ∧ tb ⟨N, rt, n, N⟩ σ' H1 else n σ' H1) : tWhile tc tb ⟨n, rt, b, c⟩ σ H :=
  ⟨W, ⟨m0, h0⟩, hs⟩
theorem s_turn {m : Nat} {W : Nat → L2.St → Hp → Prop} (k : tb ⟨fun σ2 H2 => ∃ m', m' < m ∧ W m' σ2 H2, rt, n, fun σ2 H2 => ∃ m', m' < m ∧ W m' σ2 H2⟩ σ H) :
    ∃ N : L2.St → Hp → Prop, (∀ σ2 H2, N σ2 H2 → ∃ m', m' < m ∧ W m' σ2 H2) ∧ tb ⟨N, rt, n, N⟩ σ H := ⟨_, fun _ _ h => h, k⟩
theorem w_list (Pv : Nat → L2.St → Hp → Prop) (hx : SqL K H a xs) (h0 : Pv 0 σ H) (hl : ∀ i σ H, Pv i σ H → SqL K H a xs)
    (hs : ∀ i x σ H, xs[i]? = some x → Pv i σ H → g x σ H fun σ2 H2 => tb ⟨Pv (i + 1), rt, n, Pv (i + 1)⟩ σ2 H2) (hd : ∀ σ H, Pv xs.length σ H → n σ H) :
    ∃ p, V.ref a = .ref p ∧ (∃ xs, SqL K H p xs) ∧ FORJ (Itl K p) g tb ⟨n, rt, b, c⟩ σ H := ⟨a, rfl, ⟨xs, hx⟩, for_list Pv h0 (fun i σ H _ p => hl i σ H p) hs hd⟩
theorem w_tup (Pv : Nat → L2.St → Hp → Prop) (hx : SqT K H a xs) (h0 : Pv 0 σ H) (hl : ∀ i σ H, Pv i σ H → SqT K H a xs)
    (hs : ∀ i x σ H, xs[i]? = some x → Pv i σ H → g x σ H fun σ2 H2 => tb ⟨Pv (i + 1), rt, n, Pv (i + 1)⟩ σ2 H2) (hd : ∀ σ H, Pv xs.length σ H → n σ H) :
    ∃ p, V.ref a = .ref p ∧ (∃ xs, SqT K H p xs) ∧ FORJ (Itt K p) g tb ⟨n, rt, b, c⟩ σ H := ⟨a, rfl, ⟨xs, hx⟩, for_tup Pv h0 (fun i σ H _ p => hl i σ H p) hs hd⟩
theorem w_rng1 {j : Int} (Pv : Nat → L2.St → Hp → Prop) (hj : -(2 ^ 62) ≤ j ∧ j < 2 ^ 62) (h0 : Pv 0 σ H)
    (hs : ∀ (i : Nat) σ H, (i : Int) < j → Pv i σ H → g (.int (i : Int)) σ H fun σ2 H2 => tb ⟨Pv (i + 1), rt, n, Pv (i + 1)⟩ σ2 H2) (hd : ∀ σ H, Pv j.toNat σ H → n σ H) :
    ∃ j' : Int, [V.int j] = [.int j'] ∧ -(2 ^ 62) ≤ j' ∧ j' < 2 ^ 62 ∧ FORJ (Itr 0 j'.toNat) g tb ⟨n, rt, b, c⟩ σ H :=
  ⟨j, rfl, hj.1, hj.2, for_range (lo := 0) Pv h0 (fun i σ H hi p => by
    have e : (0 : Int) + (i : Int) = (i : Int) := Int.zero_add _
    rw [e]
    exact hs i σ H (by omega) p) hd⟩
theorem w_rng2 {lo j : Int} (Pv : Nat → L2.St → Hp → Prop) (hj : -(2 ^ 62) ≤ lo ∧ lo < 2 ^ 62 ∧ -(2 ^ 62) ≤ j ∧ j < 2 ^ 62) (h0 : Pv 0 σ H)
    (hs : ∀ (i : Nat) σ H, lo + (i : Int) < j → Pv i σ H → g (.int (lo + (i : Int))) σ H fun σ2 H2 => tb ⟨Pv (i + 1), rt, n, Pv (i + 1)⟩ σ2 H2) (hd : ∀ σ H, Pv (j - lo).toNat σ H → n σ H) :
    ∃ i' j' : Int, [V.int lo, V.int j] = [.int i', .int j'] ∧ (-(2 ^ 62) ≤ i' ∧ i' < 2 ^ 62 ∧ -(2 ^ 62) ≤ j' ∧ j' < 2 ^ 62) ∧ FORJ (Itr i' (j' - i').toNat) g tb ⟨n, rt, b, c⟩ σ H :=
  ⟨lo, j, rfl, hj, for_range (lo := lo) Pv h0 (fun i σ H hi p => hs i σ H (by omega) p) hd⟩
/-- over enumerate(a list): each turn's pair is a new tuple -/
theorem w_enum (Pv : Nat → L2.St → Hp → Prop) (hx : SqL K H a xs) (h0 : Pv 0 σ H) (hl : ∀ i σ H, Pv i σ H → SqL K H a xs)
    (hs : ∀ (i : Nat) x T σ H, xs[i]? = some x → Pv i σ H → H T = none → g (.ref T) σ (upd H T (.tup [.int (i : Int), x])) fun σ2 H2 => tb ⟨Pv (i + 1), rt, n, Pv (i + 1)⟩ σ2 H2) (hd : ∀ σ H, Pv xs.length σ H → n σ H) :
    ∃ p xs, [V.ref a] = [.ref p] ∧ SqL K H p xs ∧ FORJ (Ite K p) g tb ⟨n, rt, b, c⟩ σ H := by
  refine ⟨a, xs, rfl, hx, fun i m σ H => m = xs.length - i ∧ i ≤ xs.length ∧ Pv i σ H, ⟨xs.length, rfl, Nat.zero_le _, h0⟩, ?_⟩
  rintro i m σ H ⟨rfl, hi, p⟩
  have q := hl i σ H p
  by_cases hlt : i < xs.length
  · refine .inr ⟨⟨xs, xs[i], q, by simp [hlt]⟩, Pv (i + 1), fun σ' H' p' => ⟨xs.length - (i + 1), by omega, rfl, hlt, p'⟩, fun v H' y => ?_⟩
    obtain ⟨T, x, rfl, hT, rfl, hxx⟩ := y
    exact hs i x T σ H (hxx xs q) p hT
  · have e : i = xs.length := by omega
    subst e
    exact .inl ⟨⟨xs, q, Nat.le_refl _⟩, hd _ _ p⟩
/-! ### comprehensions: F says what holds behind i turns of what has been given (acc) and of what may be changed -/
def CP (G : Hp) (D : Addr) (F : Nat → List V → Hp → List (Addr × HO) → Prop) (i : Nat) (H : Hp) : Prop := ∃ acc G1 L1, Ex G G1 ∧ acc.length ≤ i ∧ F i acc G1 L1 ∧ Own G1 ((D, .lst acc) :: L1) H
def CE (G : Hp) (D : Addr) (F : Nat → List V → Hp → List (Addr × HO) → Prop) (i : Nat) (y : V) (H : Hp) : Prop := ∃ acc, H D = some (.lst acc) ∧ acc.length < sizeLine ∧ CP G D F (i + 1) (upd H D (.lst (acc ++ [y])))
theorem c_yes {F : Nat → List V → Hp → List (Addr × HO) → Prop} {D : Addr} {i : Nat} {acc : List V} {G1 : Hp} {L1 : List (Addr × HO)} {y : V} (S : Own G1 ((D, .lst acc) :: L1) H) (e : Ex G G1) (hl : acc.length ≤ i) (hi : i < 1000000) (f : F (i + 1) (acc ++ [y]) G1 L1) : CE G D F i y H :=
  ⟨acc, S.get0, Nat.lt_of_le_of_lt hl (Nat.lt_trans hi (by decide)), acc ++ [y], G1, L1, e, by rw [List.length_append]; exact Nat.succ_le_succ hl, f, S.put0⟩
theorem c_no {F : Nat → List V → Hp → List (Addr × HO) → Prop} {D : Addr} {i : Nat} {acc : List V} {G1 : Hp} {L1 : List (Addr × HO)} (S : Own G1 ((D, .lst acc) :: L1) H) (e : Ex G G1) (hl : acc.length ≤ i) (f : F (i + 1) acc G1 L1) : CP G D F (i + 1) H :=
  ⟨acc, G1, L1, e, Nat.le_succ_of_le hl, f, S⟩
theorem v_list (F : Nat → List V → Hp → List (Addr × HO) → Prop) (S : Own G L H) (hx : SqL K G a xs) (hz : xs.length ≤ 1000000) (h0 : F 0 [] G L)
    (hs : ∀ D i x acc G1 L1 H1, xs[i]? = some x → i < 1000000 → Ex G G1 → acc.length ≤ i → F i acc G1 L1 → Own G1 ((D, .lst acc) :: L1) H1 → g x (wipe σ vs) H1 fun σ2 H2 => wipe σ2 vs = wipe σ vs ∧ tt σ2 H2 fun b H3 =>
      if b = true then te σ2 H3 fun y H4 => CE G D F i y H4 else CP G D F (i + 1) H3)
    (hd : ∀ p acc G1 L1 H1, Ex G G1 → acc.length ≤ xs.length → F xs.length acc G1 L1 → Own G1 ((p, .lst acc) :: L1) H1 → Q (.ref p) H1) :
    ∃ p, V.ref a = .ref p ∧ (∃ xs, SqL K H p xs) ∧ LCJ (Itl K p) g tt te vs σ H Q :=
  ⟨a, rfl, ⟨xs, S.sl hx⟩, fun D hD => lc_list (K := K) (a := a) (xs := xs) (CP G D F) ⟨[], G, L, Ex.refl G, Nat.le_refl _, h0, S.lay hD⟩ (fun i H1 _ ⟨acc, G1, L1, e, _, _, S1⟩ => S1.sl (ex_l e hx))
    (fun i x H1 hi ⟨acc, G1, L1, e, hl, f, S1⟩ => hs D i x acc G1 L1 H1 hi (Nat.lt_of_lt_of_le (List.getElem?_eq_some_iff.mp hi).1 hz) e hl f S1) (fun H1 ⟨acc, G1, L1, e, hl, f, S1⟩ => hd D acc G1 L1 H1 e hl f S1)⟩
theorem v_tup (F : Nat → List V → Hp → List (Addr × HO) → Prop) (S : Own G L H) (hx : SqT K G a xs) (hz : xs.length ≤ 1000000) (h0 : F 0 [] G L)
    (hs : ∀ D i x acc G1 L1 H1, xs[i]? = some x → i < 1000000 → Ex G G1 → acc.length ≤ i → F i acc G1 L1 → Own G1 ((D, .lst acc) :: L1) H1 → g x (wipe σ vs) H1 fun σ2 H2 => wipe σ2 vs = wipe σ vs ∧ tt σ2 H2 fun b H3 =>
      if b = true then te σ2 H3 fun y H4 => CE G D F i y H4 else CP G D F (i + 1) H3)
    (hd : ∀ p acc G1 L1 H1, Ex G G1 → acc.length ≤ xs.length → F xs.length acc G1 L1 → Own G1 ((p, .lst acc) :: L1) H1 → Q (.ref p) H1) :
    ∃ p, V.ref a = .ref p ∧ (∃ xs, SqT K H p xs) ∧ LCJ (Itt K p) g tt te vs σ H Q :=
  ⟨a, rfl, ⟨xs, S.st hx⟩, fun D hD => lc_tup (K := K) (a := a) (xs := xs) (CP G D F) ⟨[], G, L, Ex.refl G, Nat.le_refl _, h0, S.lay hD⟩ (fun i H1 _ ⟨acc, G1, L1, e, _, _, S1⟩ => S1.st (ex_t e hx))
    (fun i x H1 hi ⟨acc, G1, L1, e, hl, f, S1⟩ => hs D i x acc G1 L1 H1 hi (Nat.lt_of_lt_of_le (List.getElem?_eq_some_iff.mp hi).1 hz) e hl f S1) (fun H1 ⟨acc, G1, L1, e, hl, f, S1⟩ => hd D acc G1 L1 H1 e hl f S1)⟩
theorem v_rng1 {j : Int} (F : Nat → List V → Hp → List (Addr × HO) → Prop) (S : Own G L H) (hj : 0 ≤ j ∧ j ≤ 1000000) (h0 : F 0 [] G L)
    (hs : ∀ D (i : Nat) acc G1 L1 H1, (i : Int) < j → i < 1000000 → Ex G G1 → acc.length ≤ i → F i acc G1 L1 → Own G1 ((D, .lst acc) :: L1) H1 → g (.int (i : Int)) (wipe σ vs) H1 fun σ2 H2 => wipe σ2 vs = wipe σ vs ∧ tt σ2 H2 fun b H3 =>
      if b = true then te σ2 H3 fun y H4 => CE G D F i y H4 else CP G D F (i + 1) H3)
    (hd : ∀ p acc G1 L1 H1, Ex G G1 → acc.length ≤ j.toNat → F j.toNat acc G1 L1 → Own G1 ((p, .lst acc) :: L1) H1 → Q (.ref p) H1) :
    ∃ j' : Int, [V.int j] = [.int j'] ∧ -(2 ^ 62) ≤ j' ∧ j' < 2 ^ 62 ∧ LCJ (Itr 0 j'.toNat) g tt te vs σ H Q :=
  ⟨j, rfl, by omega, by omega, fun D hD => lc_range (lo := 0) (n := j.toNat) (CP G D F) ⟨[], G, L, Ex.refl G, Nat.le_refl _, h0, S.lay hD⟩
    (fun i H1 hi ⟨acc, G1, L1, e, hl, f, S1⟩ => by
      have z : (0 : Int) + (i : Int) = (i : Int) := Int.zero_add _
      rw [z]
      exact hs D i acc G1 L1 H1 (by omega) (by omega) e hl f S1) (fun H1 ⟨acc, G1, L1, e, hl, f, S1⟩ => hd D acc G1 L1 H1 e hl f S1)⟩
theorem v_rng2 {lo j : Int} (F : Nat → List V → Hp → List (Addr × HO) → Prop) (S : Own G L H) (hj : -1000 ≤ lo ∧ lo ≤ 1000000 ∧ -1000 ≤ j ∧ j ≤ 900000) (h0 : F 0 [] G L)
    (hs : ∀ D (i : Nat) acc G1 L1 H1, lo + (i : Int) < j → i < 1000000 → Ex G G1 → acc.length ≤ i → F i acc G1 L1 → Own G1 ((D, .lst acc) :: L1) H1 → g (.int (lo + (i : Int))) (wipe σ vs) H1 fun σ2 H2 => wipe σ2 vs = wipe σ vs ∧ tt σ2 H2 fun b H3 =>
      if b = true then te σ2 H3 fun y H4 => CE G D F i y H4 else CP G D F (i + 1) H3)
    (hd : ∀ p acc G1 L1 H1, Ex G G1 → acc.length ≤ (j - lo).toNat → F (j - lo).toNat acc G1 L1 → Own G1 ((p, .lst acc) :: L1) H1 → Q (.ref p) H1) :
    ∃ i' j' : Int, [V.int lo, V.int j] = [.int i', .int j'] ∧ (-(2 ^ 62) ≤ i' ∧ i' < 2 ^ 62 ∧ -(2 ^ 62) ≤ j' ∧ j' < 2 ^ 62) ∧ LCJ (Itr i' (j' - i').toNat) g tt te vs σ H Q :=
  ⟨lo, j, rfl, ⟨by omega, by omega, by omega, by omega⟩, fun D hD => lc_range (lo := lo) (n := (j - lo).toNat) (CP G D F) ⟨[], G, L, Ex.refl G, Nat.le_refl _, h0, S.lay hD⟩
    (fun i H1 hi ⟨acc, G1, L1, e, hl, f, S1⟩ => hs D i acc G1 L1 H1 (by omega) (by omega) e hl f S1) (fun H1 ⟨acc, G1, L1, e, hl, f, S1⟩ => hd D acc G1 L1 H1 e hl f S1)⟩
theorem g_yes {Q : Bool → Hp → Prop} (k : Q true H) : tYes σ H Q := k
end
/-! ### tests -/
theorem if_tt {c : Bool} {A B : Prop} (e : c = true) (h : A) : if c = true then A else B := by rw [if_pos e]; exact h
theorem if_ff {c : Bool} {A B : Prop} (e : c = false) (h : B) : if c = true then A else B := by rw [if_neg (by rw [e]; exact Bool.false_ne_true)]; exact h
theorem if_2 {c : Bool} {A B : Prop} (h1 : c = true → A) (h2 : c = false → B) : if c = true then A else B := by
  cases c with
  | true => exact if_tt rfl (h1 rfl)
  | false => exact if_ff rfl (h2 rfl)
theorem dtrue' {p : Prop} [Decidable p] (h : p) : decide p = true := decide_eq_true h
theorem dfalse' {p : Prop} [Decidable p] (h : ¬p) : decide p = false := decide_eq_false h
theorem if_nt {A B : Prop} (h : B) : if (!true) = true then A else B := if_ff rfl h
theorem if_nf {A B : Prop} (h : A) : if (!false) = true then A else B := if_tt rfl h
theorem ntrue {p : Prop} [Decidable p] (h : p) : (!decide p) = false := by rw [dtrue' h]; rfl
theorem nfalse {p : Prop} [Decidable p] (h : ¬p) : (!decide p) = true := by rw [dfalse' h]; rfl
theorem dtrue {p : Prop} [Decidable p] (h : p) : decide p = true := decide_eq_true h
theorem dfalse {p : Prop} [Decidable p] (h : ¬p) : decide p = false := decide_eq_false h
theorem small {n : Nat} (h : n ≤ 10000000) : n ≤ sizeLine := Nat.le_trans h (by decide)
theorem smallL {n : Nat} (h : n ≤ 10000000) : n < sizeLine := Nat.lt_of_le_of_lt h (by decide)
section
variable {K : PySem.W.Frag} {G H : Hp} {L : List (Addr × HO)} {p : Addr} {xs : List V} {v : V} {Q : VK}
/-- a new list | a new tuple has been laid -/
theorem n_lst (S : Own G L H) (hz : xs.length ≤ 10000000) (k : ∀ p H1, H p = none → Own G ((p, .lst xs) :: L) H1 → Q (.ref p) H1) : NewL xs H Q :=
  ⟨small hz, fun p hp => k p _ hp (S.lay hp)⟩
/-- a new object stands still from now on -/
theorem Own.still {o : HO} (S : Own G L H) (hp : H p = none) : Own (upd G p o) L (upd H p o) ∧ Ex G (upd G p o) ∧ upd G p o p = some o :=
  ⟨⟨fun a u h => by
      by_cases e : a = p
      · subst e
        rw [upd_same] at h ⊢
        exact h
      · rw [upd_ne e] at h ⊢
        exact S.ex _ _ h, fun x hx => by
      have ne : x.1 ≠ p := fun e => S.fresh hp (e ▸ List.mem_map_of_mem hx)
      rw [upd_ne ne, upd_ne ne]
      exact S.at_ x hx, S.nd, S.nt⟩, Ex.new (fresh_back S.ex hp), upd_same⟩
theorem n_tup (S : Own G L H) (hz : xs.length ≤ 10000000) (k : ∀ p G1 H1, H p = none → Ex G G1 → Ex H H1 → G1 p = some (.tup xs) → Own G1 L H1 → Q (.ref p) H1) : NewT xs H Q :=
  ⟨small hz, fun p hp => k p _ _ hp (S.still hp).2.1 (Ex.new hp) (S.still hp).2.2 (S.still hp).1⟩
/-- a new list that is only read from now on -/
theorem n_lstG (S : Own G L H) (hz : xs.length ≤ 10000000) (k : ∀ p G1 H1, H p = none → Ex G G1 → Ex H H1 → G1 p = some (.lst xs) → Own G1 L H1 → Q (.ref p) H1) : NewL xs H Q :=
  ⟨small hz, fun p hp => k p _ _ hp (S.lay hp).freeze.2.1 (Ex.new hp) (S.lay hp).freeze.2.2 (S.lay hp).freeze.1⟩
/-- list(range(a, b)) -/
theorem n_rg {a b : Int} (S : Own G L H) (h : -1000 ≤ a ∧ a ≤ 1000000 ∧ -1000 ≤ b ∧ b ≤ 1000000) (k : ∀ p H1, H p = none → Own G ((p, .lst (rgV a b)) :: L) H1 → Q (.ref p) H1) : NewR a b H Q :=
  ⟨⟨by omega, by omega, by omega, by omega, by omega⟩, fun p hp => k p _ hp (S.lay hp)⟩
theorem n_rgG {a b : Int} (S : Own G L H) (h : -1000 ≤ a ∧ a ≤ 1000000 ∧ -1000 ≤ b ∧ b ≤ 1000000) (k : ∀ p G1 H1, H p = none → Ex G G1 → Ex H H1 → G1 p = some (.lst (rgV a b)) → Own G1 L H1 → Q (.ref p) H1) : NewR a b H Q :=
  ⟨⟨by omega, by omega, by omega, by omega, by omega⟩, fun p hp => k p _ _ hp (S.lay hp).freeze.2.1 (Ex.new hp) (S.lay hp).freeze.2.2 (S.lay hp).freeze.1⟩
theorem g_lrg {te : L2.St → Hp → (Int → Int → Hp → Prop) → Prop} {σ : L2.St} (k : te σ H fun a b H1 => NewR a b H1 Q) : tLstRg te σ H Q := k
theorem g_rg1 {ta : TE} {σ : L2.St} {R : Int → Int → Hp → Prop} (k : ta σ H fun x H1 => ∃ n, x = .int n ∧ R 0 n H1) : tRg1 ta σ H R := k
theorem g_rg2 {ta tb : TE} {σ : L2.St} {R : Int → Int → Hp → Prop} (k : ta σ H fun x H1 => tb σ H1 fun y H2 => ∃ i j, x = .int i ∧ y = .int j ∧ R i j H2) : tRg2 ta tb σ H R := k
theorem g_ex2I {i j : Int} {R : Int → Int → Prop} (k : R i j) : ∃ i' j', V.int i = .int i' ∧ V.int j = .int j' ∧ R i' j' := ⟨i, j, rfl, rfl, k⟩
/-- len(a list) -/
theorem n_len (h : SqL K H p xs) (k : Q (.int xs.length) H) : Evl.rLenS K [.ref p] H Q := ⟨p, xs, rfl, .inl h, k⟩
theorem n_lenT (h : SqT K H p xs) (k : Q (.int xs.length) H) : Evl.rLenS K [.ref p] H Q := ⟨p, xs, rfl, .inr h, k⟩
theorem n_int {i : Int} (k : Q (.int i) H) : rInt1 [.int i] H Q := .inl ⟨i, rfl, k⟩
theorem n_intB {b : Bool} (k : Q (.int (if b then 1 else 0)) H) : rInt1 [.bl b] H Q := .inr ⟨b, rfl, k⟩
theorem n_min {i j : Int} (k : Q (.int (min i j)) H) : rMin2 [.int i, .int j] H Q := ⟨i, j, rfl, by
  have e : (if j < i then j else i) = min i j := by split <;> omega
  rw [e]; exact k⟩
theorem n_max {i j : Int} (k : Q (.int (max i j)) H) : rMax2 [.int i, .int j] H Q := ⟨i, j, rfl, by
  have e : (if j > i then j else i) = max i j := by split <;> omega
  rw [e]; exact k⟩
/-- list(a list), tuple(a list) -/
theorem n_list (S : Own G L H) (h : SqL K H p xs) (k : ∀ p H1, H p = none → Own G ((p, .lst xs) :: L) H1 → Q (.ref p) H1) : Evl.rListS K [.ref p] H Q := ⟨p, xs, rfl, .inl h, fun p hp => k p _ hp (S.lay hp)⟩
theorem n_listT (S : Own G L H) (h : SqT K H p xs) (k : ∀ p H1, H p = none → Own G ((p, .lst xs) :: L) H1 → Q (.ref p) H1) : Evl.rListS K [.ref p] H Q := ⟨p, xs, rfl, .inr h, fun p hp => k p _ hp (S.lay hp)⟩
theorem n_tupL (S : Own G L H) (h : SqL K H p xs) (k : ∀ p G1 H1, H p = none → Ex G G1 → Ex H H1 → G1 p = some (.tup xs) → Own G1 L H1 → Q (.ref p) H1) : rTupS K [.ref p] H Q :=
  ⟨p, xs, rfl, .inl ⟨h, fun p hp => k p _ _ hp (S.still hp).2.1 (Ex.new hp) (S.still hp).2.2 (S.still hp).1⟩⟩
theorem n_isN (k : Q (.bl (decide (v = .non))) H) : rIsN v .non H Q := ⟨rfl, k⟩
theorem n_notN (k : Q (.bl (!decide (v = .non))) H) : rNotN v .non H Q := ⟨rfl, k⟩
/-- xs.append(v), the list at the head of what may be changed -/
theorem n_app (S : Own G ((p, .lst xs) :: L) H) (hz : xs.length ≤ 1000000) (k : ∀ H1, Own G ((p, .lst (xs ++ [v])) :: L) H1 → Q .non H1) : rAppend (.ref p) [v] H Q :=
  ⟨p, xs, v, rfl, rfl, S.get0, smallL (Nat.le_trans hz (by decide)), k _ S.put0⟩
theorem n_app1 {q : Addr} {o : HO} (S : Own G ((q, o) :: (p, .lst xs) :: L) H) (hz : xs.length ≤ 1000000) (k : ∀ H1, Own G ((q, o) :: (p, .lst (xs ++ [v])) :: L) H1 → Q .non H1) : rAppend (.ref p) [v] H Q :=
  ⟨p, xs, v, rfl, rfl, S.get1, smallL (Nat.le_trans hz (by decide)), k _ S.put1⟩
theorem n_app2 {q r : Addr} {o o2 : HO} (S : Own G ((r, o2) :: (q, o) :: (p, .lst xs) :: L) H) (hz : xs.length ≤ 1000000) (k : ∀ H1, Own G ((r, o2) :: (q, o) :: (p, .lst (xs ++ [v])) :: L) H1 → Q .non H1) : rAppend (.ref p) [v] H Q :=
  ⟨p, xs, v, rfl, rfl, S.get2, smallL (Nat.le_trans hz (by decide)), k _ S.put2⟩
/-- append to the j-th of what may be changed -/
theorem n_appM {j : Nat} (S : Own G L H) (h : L[j]? = some (p, .lst xs)) (hz : xs.length ≤ 1000000) (k : ∀ H1, Own G (L.set j (p, .lst (xs ++ [v]))) H1 → Q .non H1) : rAppend (.ref p) [v] H Q :=
  ⟨p, xs, v, rfl, rfl, S.getM (List.mem_of_getElem? h), smallL (Nat.le_trans hz (by decide)), k _ (S.putM h)⟩
theorem cutV_to (xs : List V) (i : Nat) : cutV xs none (some (i : Int)) = xs.take i := by
  unfold cutV
  rw [HT.sIx_none, HT.sIx_nat, List.drop_zero, Nat.sub_zero]
  by_cases h : i ≤ xs.length
  · rw [Nat.min_eq_left h]
  · rw [Nat.min_eq_right (by omega), List.take_length, List.take_of_length_le (by omega)]
theorem cutV_from (xs : List V) (i : Nat) : cutV xs (some (i : Int)) none = xs.drop i := by
  unfold cutV
  rw [HT.sIx_none, HT.sIx_nat]
  by_cases h : i ≤ xs.length
  · rw [Nat.min_eq_left h]
    exact List.take_of_length_le (by rw [List.length_drop]; omega)
  · rw [Nat.min_eq_right (by omega), List.drop_length, List.drop_of_length_le (by omega), List.take_nil]
theorem cutV_all (xs : List V) : cutV xs none none = xs := by
  unfold cutV
  rw [HT.sIx_none, HT.sIx_none, List.drop_zero, Nat.sub_zero, List.take_length]
/-- xs[lo:hi] of a list, read from now on -/
theorem n_sl {lo hi : Option Int} (S : Own G L H) (h : SqL K H p xs) (k : ∀ p G1 H1, H p = none → Ex G G1 → Ex H H1 → G1 p = some (.lst (cutV xs lo hi)) → Own G1 L H1 → Q (.ref p) H1) : rSlL K (.ref p) lo hi H Q :=
  ⟨p, xs, rfl, h, fun p hp => k p _ _ hp (S.still hp).2.1 (Ex.new hp) (S.still hp).2.2 (S.still hp).1⟩
theorem n_slL {lo hi : Option Int} (S : Own G L H) (h : SqL K H p xs) (k : ∀ p H1, H p = none → Own G ((p, .lst (cutV xs lo hi)) :: L) H1 → Q (.ref p) H1) : rSlL K (.ref p) lo hi H Q :=
  ⟨p, xs, rfl, h, fun p hp => k p _ hp (S.lay hp)⟩
theorem tyL (h : SqL K H p xs) : tyV K "list" (.ref p) H := .inl ⟨rfl, xs, h⟩
theorem Own.l0 (S : Own G ((p, .lst xs) :: L) H) : SqL K H p xs := SqL.of S.get0
theorem Own.l1 {q : Addr} {o : HO} (S : Own G ((q, o) :: (p, .lst xs) :: L) H) : SqL K H p xs := SqL.of S.get1
theorem Own.l2 {q r : Addr} {o o2 : HO} (S : Own G ((r, o2) :: (q, o) :: (p, .lst xs) :: L) H) : SqL K H p xs := SqL.of S.get2
end
/-! ### attributes -/
def GETF (K : PySem.W.Frag) (x : V) (f : Str) (H : Hp) (Q : VK) : Prop := ∃ a C dx fs v, x = .ref a ∧ H a = some (.ins C dx fs) ∧ Cls K C ∧ NoAttr K C f ∧ fs.lookup f = some v ∧ Q v H
def SETF (K : PySem.W.Frag) (x : V) (f : Str) (y : V) (H : Hp) (R : Hp → Prop) : Prop := ∃ a C dx fs, x = .ref a ∧ H a = some (.ins C dx fs) ∧ Cls K C ∧ NoAttr K C f ∧ fs.length < 1000 ∧ R (upd H a (.ins C dx (putF f y fs)))
section
variable {K : PySem.W.Frag} {σ : L2.St} {G H : Hp} {L : List (Addr × HO)} {ta tv : TE} {f : Str} {Q : VK} {n b c : L2.St → Hp → Prop} {rt : VK} {a C dx : Addr} {fs : List (Str × V)} {v y : V}
theorem g_fld (k : ta σ H fun x H1 => GETF K x f H1 Q) : tFld K ta f σ H Q := k
theorem s_fld (k : tv σ H fun y H1 => ta σ H1 fun x H2 => SETF K x f y H2 (n σ)) : sFld K ta tv f ⟨n, rt, b, c⟩ σ H := k
theorem n_fld (h : H a = some (.ins C dx fs)) (c : Cls K C) (n : NoAttr K C f) (l : fs.lookup f = some v) (k : Q v H) : GETF K (.ref a) f H Q := ⟨a, C, dx, fs, v, rfl, h, c, n, l, k⟩
theorem n_setF {R : Hp → Prop} (S : Own G ((a, .ins C dx fs) :: L) H) (c : Cls K C) (n : NoAttr K C f) (hl : fs.length < 1000) (k : ∀ H1, Own G ((a, .ins C dx (putF f y fs)) :: L) H1 → R H1) : SETF K (.ref a) f y H R := ⟨a, C, dx, fs, rfl, S.get0, c, n, hl, k _ S.put0⟩
end
/-! ### list + list, also of lists that are only known -/
def rCatL (K : PySem.W.Frag) : R2 := fun x y H Q => ∃ l b xs zs, x = .ref l ∧ y = .ref b ∧ SqL K H l xs ∧ SqL K H b zs ∧ xs.length + zs.length ≤ sizeLine ∧ ∀ p, H p = none → Q (.ref p) (upd H p (.lst (xs ++ zs)))
theorem op_catL {X : Cx} : OpR X (binaryOp .Add) (rCatL X.K) := by
  intro pins s σ H x y v u Q I rx ry h
  obtain ⟨l, b, xs, zs, rfl, rfl, hH, hB, hz, q⟩ := h
  cases rx
  cases ry
  obtain ⟨its, r, hl, h1⟩ := I.list hH
  obtain ⟨its2, r2, hb, h2⟩ := I.list hB
  obtain ⟨⟨cls, dd, data, sl⟩, ho, hc, n, hd⟩ := id hl.isList
  obtain ⟨⟨cls2, dd2, data2, sl2⟩, ho2, hc2, n2, hd2⟩ := id hb.isList
  simp only at hc hd hc2 hd2
  subst hc hd hc2 hd2
  have e : its.toArray ++ its2.toArray = (its ++ its2).toArray := by simp
  have hl1 := r.length
  have hl2 := r2.length
  refine concat_meets ⟨_, ho, rfl⟩ ⟨_, ho2, rfl⟩ noFill_list_add seq_list_add PySem.F.slot_list_add PySem.F.entry_list_add (PySem.F.args_list_add_2 _ _) (list_addW l b its.toArray its2.toArray n n2 dd dd2 sl sl2 (by simp; omega)) ⟨ho, ho2, ?_⟩
  rw [e]
  exact ⟨.ref _, _, I.lnew (t' := s.toks) (r.append r2) (by rw [List.length_append]; exact hz), rfl, q _ I.fresh⟩
theorem n_cat {K : PySem.W.Frag} {G H : Hp} {L : List (Addr × HO)} {l b : Addr} {xs zs : List V} {Q : VK} (S : Own G L H) (hx : SqL K H l xs) (hz : SqL K H b zs) (h : xs.length + zs.length ≤ 10000000) (k : ∀ p H1, H p = none → Own G ((p, .lst (xs ++ zs)) :: L) H1 → Q (.ref p) H1) : rCatL K (.ref l) (.ref b) H Q :=
  ⟨l, b, xs, zs, rfl, rfl, hx, hz, small h, fun p hp => k p _ hp (S.lay hp)⟩
theorem n_catG {K : PySem.W.Frag} {G H : Hp} {L : List (Addr × HO)} {l b : Addr} {xs zs : List V} {Q : VK} (S : Own G L H) (hx : SqL K H l xs) (hz : SqL K H b zs) (h : xs.length + zs.length ≤ 10000000) (k : ∀ p G1 H1, H p = none → Ex G G1 → Ex H H1 → G1 p = some (.lst (xs ++ zs)) → Own G1 L H1 → Q (.ref p) H1) : rCatL K (.ref l) (.ref b) H Q :=
  ⟨l, b, xs, zs, rfl, rfl, hx, hz, small h, fun p hp => k p _ _ hp (S.still hp).2.1 (Ex.new hp) (S.still hp).2.2 (S.still hp).1⟩
/-! ### methods, new instances -/
/-- the method m of the class at C -/
def Mth (P : Program) (w : World) (K : PySem.W.Frag) (mg : Str → Option Value) (base : Heap) (k : Nat) (C : Addr) (m : Str) (ps : List Str) (sp : Sp) : Prop :=
  ∃ (f : Addr) (fd : FuncData), Meth K C m f ∧ FnOk P w K mg base (L2.CX P w) k f fd ps sp ∧ Binds K fd ps []
/-- the class x at C, made by an __init__ that keeps sp -/
def Cnw (P : Program) (w : World) (K : PySem.W.Frag) (mg : Str → Option Value) (base : Heap) (k : Nat) (x : Str) (C : Addr) (ps : List Str) (sp : Sp) : Prop :=
  ∃ (f : Addr) (fd : FuncData), Mk K C f ∧ FnOk P w K mg base (L2.CX P w) k f fd ps sp ∧ mg x = some (.ref C) ∧ Binds K fd ps []
def INS (C : Addr) (m : Str) (x : V) (H : Hp) : Prop := ∃ a dx fs, x = .ref a ∧ H a = some (.ins C dx fs) ∧ fs.lookup m = none
def tMth (C : Addr) (m : Str) (sp : Sp) (E : XK) (ta : TE) (t : TA) : TE := fun σ H Q => ta σ H fun x H1 => INS C m x H1 ∧ t σ H1 fun vs H2 => sp (x :: vs) H2 Q E
def MAKE (C : Addr) (sp : Sp) (E : XK) (vs : List V) (H1 : Hp) (Q : VK) : Prop := ∀ x dx, H1 x = none → H1 dx = none → dx ≠ x → sp (.ref x :: vs) (upd (upd H1 dx (.own x)) x (.ins C dx [])) (fun v H2 => v = .non ∧ Q (.ref x) H2) E
def tNew (C : Addr) (sp : Sp) (E : XK) (t : TA) : TE := fun σ H Q => t σ H fun vs H1 => MAKE C sp E vs H1 Q
section
variable {X : Cx} {k : Nat} {C : Addr} {m x : Str} {ps : List Str} {sp : Sp} {E : XK} {o e : Expr} {es : List Expr} {ta : TE} {t : TA} {p apos pos : Pos}
theorem pe_mth {pl : Sem Bool} (he : PE X o ta) (M : Mth X.prog X.w X.K X.mg X.base k C m ps sp) (c : Cls X.K C) (hr : Room k X.A) (hx : Passes (L2.CX X.prog X.w) X E) (ha : PA X (e :: es) t)
    (ht : eval (.Call (.Attribute o m apos) (e :: es) [] pos) X.env = (do
      let ov ← eval o X.env
      standAt apos.atName
      let (f, first) ← holding [ov] (getMethod ov m pl)
      callWith pos f first (backTo pos (starEach (e :: es) X.env)) (backToKw pos (keywordEach [] X.env))) := by rfl)
    (hst : starEach (e :: es) X.env = (false, eval e X.env) :: starEach es X.env := by rfl) (hpl : (backTo pos (starEach es X.env)).any (·.1) = false := by rfl) :
    PE X (.Call (.Attribute o m apos) (e :: es) [] pos) (tMth C m sp E ta t) := by
  obtain ⟨f, fd, hm, F, hb⟩ := M
  have q : PE X (.Call (.Attribute o m apos) (e :: es) [] pos) (tMeth C m sp [] E ta t) := pe_meth (pl := pl) he c hm F hr hb .nil hx ha hst hpl ht
  refine ⟨fun pins s σ H Q I h => q.run pins s σ H Q I ?_⟩
  have e : ∀ x : V, (fun (vs : List V) (H1 : Hp) => sp (x :: (vs ++ [])) H1 Q E) = (fun vs H1 => sp (x :: vs) H1 Q E) := fun x => by
    funext vs H1
    rw [List.append_nil]
  have e2 : (fun (x : V) (H1 : Hp) => ∃ a dx fs, x = .ref a ∧ H1 a = some (.ins C dx fs) ∧ fs.lookup m = none ∧ t σ H1 fun vs H2 => sp (x :: (vs ++ [])) H2 Q E) = (fun x H1 => INS C m x H1 ∧ t σ H1 fun vs H2 => sp (x :: vs) H2 Q E) := by
    funext x H1
    rw [e x]
    exact propext ⟨fun ⟨a, dx, fs, h1, h2, h3, h4⟩ => ⟨⟨a, dx, fs, h1, h2, h3⟩, h4⟩, fun ⟨⟨a, dx, fs, h1, h2, h3⟩, h4⟩ => ⟨a, dx, fs, h1, h2, h3, h4⟩⟩
  show ta σ H fun x H1 => ∃ a dx fs, x = .ref a ∧ H1 a = some (.ins C dx fs) ∧ fs.lookup m = none ∧ t σ H1 fun vs H2 => sp (x :: (vs ++ [])) H2 Q E
  rw [e2]
  exact h
theorem pe_mth0 {pl : Sem Bool} (he : PE X o ta) (M : Mth X.prog X.w X.K X.mg X.base k C m ps sp) (c : Cls X.K C) (hr : Room k X.A) (hx : Passes (L2.CX X.prog X.w) X E)
    (ht : eval (.Call (.Attribute o m apos) [] [] pos) X.env = (do
      let ov ← eval o X.env
      standAt apos.atName
      let (f, first) ← holding [ov] (getMethod ov m pl)
      callWith pos f first (backTo pos (starEach [] X.env)) (backToKw pos (keywordEach [] X.env))) := by rfl) :
    PE X (.Call (.Attribute o m apos) [] [] pos) (tMth C m sp E ta tNil) := by
  obtain ⟨f, fd, hm, F, hb⟩ := M
  have q : PE X (.Call (.Attribute o m apos) [] [] pos) (tMeth C m sp [] E ta tNil) := pe_meth0 (pl := pl) he c hm F hr hb .nil hx ht
  refine ⟨fun pins s σ H Q I h => q.run pins s σ H Q I ?_⟩
  have e2 : (fun (x : V) (H1 : Hp) => ∃ a dx fs, x = .ref a ∧ H1 a = some (.ins C dx fs) ∧ fs.lookup m = none ∧ sp (x :: ([] ++ [])) H1 Q E) = (fun x H1 => INS C m x H1 ∧ sp (x :: []) H1 Q E) := by
    funext x H1
    exact propext ⟨fun ⟨a, dx, fs, h1, h2, h3, h4⟩ => ⟨⟨a, dx, fs, h1, h2, h3⟩, h4⟩, fun ⟨⟨a, dx, fs, h1, h2, h3⟩, h4⟩ => ⟨a, dx, fs, h1, h2, h3, h4⟩⟩
  show ta σ H fun x H1 => ∃ a dx fs, x = .ref a ∧ H1 a = some (.ins C dx fs) ∧ fs.lookup m = none ∧ sp (x :: ([] ++ [])) H1 Q E
  rw [e2]
  exact h
theorem pe_new (N : Cnw X.prog X.w X.K X.mg X.base k x C ps sp) (hr : Room (k + 1) X.A) (hx : Passes (L2.CX X.prog X.w) X E) (ha : PA X (e :: es) t) (hg : Gl X x := by rfl)
    (hdb : (x == ("__debug__" : Str)) = false := by decide) (he : starEach (e :: es) X.env = (false, eval e X.env) :: starEach es X.env := by rfl) (hpl : (backTo pos (starEach es X.env)).any (·.1) = false := by rfl) :
    PE X (.Call (.Name x p) (e :: es) [] pos) (tNew C sp E t) := by
  obtain ⟨f, fd, M, F, hm, hb⟩ := N
  have q : PE X (.Call (.Name x p) (e :: es) [] pos) (tMake C sp [] E t) := pe_make M F hr hg hm hb .nil hx ha hdb he hpl
  refine ⟨fun pins s σ H Q I h => q.run pins s σ H Q I ?_⟩
  have e2 : (fun (vs : List V) (H1 : Hp) => ∀ x dx, H1 x = none → H1 dx = none → dx ≠ x → sp (.ref x :: (vs ++ [])) (upd (upd H1 dx (.own x)) x (.ins C dx [])) (fun v H2 => v = .non ∧ Q (.ref x) H2) E) = (fun vs H1 => MAKE C sp E vs H1 Q) := by
    funext vs H1
    rw [List.append_nil] <;> rfl
  show t σ H fun vs H1 => ∀ x dx, H1 x = none → H1 dx = none → dx ≠ x → sp (.ref x :: (vs ++ [])) (upd (upd H1 dx (.own x)) x (.ins C dx [])) (fun v H2 => v = .non ∧ Q (.ref x) H2) E
  rw [e2]
  exact h
theorem g_mth {σ : L2.St} {H : Hp} {Q : VK} (k : ta σ H fun x H1 => INS C m x H1 ∧ t σ H1 fun vs H2 => sp (x :: vs) H2 Q E) : tMth C m sp E ta t σ H Q := k
theorem g_new {σ : L2.St} {H : Hp} {Q : VK} (k : t σ H fun vs H1 => MAKE C sp E vs H1 Q) : tNew C sp E t σ H Q := k
end
/-! ### len, == and != of instances -/
section
variable {prog : Program} {w : World} {A : Around} {E : Value → Shared → Prop} {s : Shared} {K : PySem.W.Frag} {x y C f L : Addr} {h₀ : Heap} {m : Str → Option Value} {ox : Obj} {od : Option Obj}
theorem ifBound_objNe {M : Model} {args : List Value} {Q : Option Value → Shared → Prop} (X : K.In s.heap) (I : PySem.W.InstAt s.heap x ox C od) (hs : PySem.W.findIn K (.ref C) "__ne__" = some (some (.builtin "object.__ne__")))
    (h : wpAny M A (call (.builtin "object.__ne__") (.ref x :: args)) (fun v => Q (some v)) E s) : wpAny M A (callSpecialIfBound? (.ref x) "__ne__" args) Q E s := by
  simp only [callSpecialIfBound?, bindSpecialIfBound?]
  refine wpAny_holding (wpAny_bind (wpAny_bind (wpAny_bind (I.type.here ((PySem.W.looks_findIn X hs).here ?_)))))
  refine wpAny_bind (wpAny_askSetting (wpAny_ite ?_))
  have fin : wpAny M A (call (.builtin "object.__ne__") ([.ref x] ++ args) >>= fun v => pure (some v)) Q E s := wpAny_bind (wpAny_mono h (fun v s' h' => wpAny_pure h') fun _ _ h' => h')
  split
  · exact wpAny_bind (wpAny_of_eq (PySem.F.cmp_object.ne.bind _) (wpAny_pure (by exact fin)))
  · exact wpAny_tryCatch (wpAny_bind (wpAny_of_eq (PySem.F.cmp_object.ne.bind _) (wpAny_pure (by exact fin))))
theorem entry_objNe (X : K.In s.heap) (I : PySem.W.InstAt s.heap x ox C od) (hs : PySem.W.findIn K (.ref C) "__eq__" = some (some (.ref f))) (hf : PySem.W.isFn K (.ref f) = true) (hu : A.units < cLine) {Q : Fin → Shared → Prop}
    (hcall : wpAny (model prog w) A (call (.ref f) [.ref x, .ref y]) (fun v s' => ∃ b, v = .bool b ∧ Q (.done (.ret (.bool (!b)))) s') E s) :
    wpAny (model prog w) A (Builtin.«object.__ne__» ⟨[.ref x, .ref y], []⟩) Q E s := by
  unfold Builtin.«object.__ne__»
  repeat (first
    | with_reducible refine wpAny_cRoomFor hu ?_
    | (refine wpAny_bind (m := callSpecialIfBound? (.ref x) (Str.ofString "__eq__") [.ref y])
        (PySem.W.ifBound_K X I hs hf (wpAny_mono hcall (fun r s' hr => by
          obtain ⟨b, rfl, hq⟩ := hr
          repeat (first | exact hq | exact wpAny_pure hq | exact wpAny_truthy_bool hq | (refine wpAny_bind (m := truthy (.bool _)) (wpAny_truthy_bool ?_)) | wp_step)) fun _ _ e => e)))
    | wp_step)
theorem ne_K {tb : Value} {Q : Value → Shared → Prop} (hu : A.units + 1 < cLine) (Fm : Fr h₀ L s.heap m) (X₀ : K.In h₀) (I : PySem.W.InstAt s.heap x ox C od) (hb : PySem.W.Looks (model prog w) s.heap (typeOf (.ref y)) tb) (hn : PySem.W.notFirst K C tb = true)
    (hne : PySem.W.findIn K (.ref C) "__ne__" = some (some (.builtin "object.__ne__"))) (hm : PySem.W.mroIn K C (.type "object") = some true)
    (hs : PySem.W.findIn K (.ref C) "__eq__" = some (some (.ref f))) (hf : PySem.W.isFn K (.ref f) = true)
    (h : wpAny (model prog w) A.in1 (call (.ref f) [.ref x, .ref y]) (fun v s' => ∃ b, v = .bool b ∧ Q (.bool (!b)) s') E s) : wpAny (model prog w) A (richCompare .NotEq (.ref x) (.ref y)) Q E s := by
  have X := X₀.keeps Fm.keep
  have one : wpAny (model prog w) A (tryCompare (.ref x) (cmpInfo .NotEq).2.1 (.ref y)) (fun r s' => ∃ v, r = some v ∧ Q v s') E s := by
    rw [cmpInfo_NotEq]
    unfold tryCompare
    refine wpAny_bind (ifBound_objNe X I hne (wpAny_call (codeAny_call_builtin PySem.F.cmp_object.ne.plain PySem.F.cmpEntry_ne (PySem.W.check_slot PySem.F.cmpKind_ne PySem.F.cmpSplit_ne (I.type.andThen (PySem.W.looks_mroIn X hm)) (PySem.F.cmpArgs_ne _ _)
      (entry_objNe (A := A.in1) X I hs hf (show A.in1.units < cLine from hu) (wpAny_mono h (fun v s' hv => ?_) fun _ _ e => e))))))
    obtain ⟨b, rfl, hq⟩ := hv
    first | exact ⟨b, rfl, wpAny_pure ⟨_, rfl, hq⟩⟩ | exact ⟨b, rfl, wpAny_pure (wpAny_pure ⟨_, rfl, hq⟩)⟩ | exact ⟨b, rfl, ⟨_, rfl, hq⟩⟩
  unfold richCompare
  simp only [oneThing_ref]
  refine wpAny_holding (wpAny_bind (wpAny_cRoomFor (Nat.lt_of_succ_lt hu) ?_))
  refine wpAny_bind (I.type.here (wpAny_bind (hb.here ?_)))
  split
  · rename_i q
    have e : PySem.W.subIn K tb (.ref C) = some false := by
      rcases Bool.or_eq_true_iff.mp hn with e | e
      · rw [beq_iff_eq.mp e] at q; simp at q
      · exact beq_iff_eq.mp e
    refine wpAny_bind ((PySem.W.looks_subIn X e).here ?_)
    simp only [Bool.false_eq_true, if_false]
    refine wpAny_bind (wpAny_mono one (fun r s' z => ?_) fun _ _ e => e)
    obtain ⟨v, rfl, hq⟩ := z
    exact wpAny_pure hq
  · refine wpAny_bind (wpAny_pure ?_)
    simp only [Bool.false_eq_true, if_false]
    refine wpAny_bind (wpAny_mono one (fun r s' z => ?_) fun _ _ e => e)
    obtain ⟨v, rfl, hq⟩ := z
    exact wpAny_pure hq
end
end NX

namespace NX
open PySem PySem.Spec PyProof.Rows L2
open Evl (Ex ex_l ex_t fresh_back)
open LamX (CodeO TabS Tabs ExtN TabB LamS lamEnv lamCx lam_make2 lam_start2 run_ofS tLam codeO_ne)
/-! ### tuples of the same values -/
def sameV : V → Bool
  | .non => true | .bl _ => true | .int _ => true | .str _ => true | .ref _ => true
  | _ => false
theorem eqAt_sm {A : Around} {s : Shared} {v : V} {u u' : Value} (r : RelV v u) (r' : RelV v u') (f : sameV v = true) : SeqAt.EqAt A s u u' true := by
  cases v with
  | ref a => cases (show u = Value.ref a from r); cases (show u' = Value.ref a from r'); exact SeqAt.EqAt.same _
  | non => cases (show u = Value.none from r); cases (show u' = Value.none from r'); exact SeqAt.EqAt.same _
  | bl b => cases (show u = Value.bool b from r); cases (show u' = Value.bool b from r'); exact SeqAt.EqAt.same _
  | int i =>
    obtain ⟨t, rfl⟩ := (show ∃ t, u = Value.int i t from r)
    obtain ⟨t', rfl⟩ := (show ∃ t, u' = Value.int i t from r')
    have q := SeqAt.EqAt.int_int (A := A) (s := s) i t i t'
    rw [beq_self_eq_true] at q; exact q
  | str i =>
    obtain ⟨t, rfl⟩ := (show ∃ t, u = Value.str i t from r)
    obtain ⟨t', rfl⟩ := (show ∃ t, u' = Value.str i t from r')
    have q := SeqAt.EqAt.str_str (A := A) (s := s) i t i t'
    rw [beq_self_eq_true] at q; exact q
  | _ => simp [sameV] at f
theorem vals_sm {A : Around} {s : Shared} : ∀ {xs : List V} {us ws : List Value}, Vals xs us → Vals xs ws → (∀ x ∈ xs, sameV x = true) → ∀ (j : Nat) (h1 : j < us.length) (h2 : j < ws.length), SeqAt.EqAt A s us[j] ws[j] true
  | _, _, _, .nil, .nil, _, j, h1, _ => absurd h1 (Nat.not_lt_zero j)
  | _, _, _, .cons a b, .cons a' b', f, 0, _, _ => eqAt_sm a a' (f _ List.mem_cons_self)
  | _, _, _, .cons a b, .cons a' b', f, j + 1, h1, h2 => vals_sm b b' (fun x hx => f x (List.mem_cons_of_mem _ hx)) j (Nat.lt_of_succ_lt_succ h1) (Nat.lt_of_succ_lt_succ h2)
def rSm (K : PySem.W.Frag) (r : Bool) : R2 := fun x y H Q => ∃ a b xs, x = .ref a ∧ y = .ref b ∧ SqT K H a xs ∧ SqT K H b xs ∧ (∀ v ∈ xs, sameV v = true) ∧ Q (.bl r) H
theorem op_eqSm {X : Cx} {K : PySem.W.Frag} (hu : X.A.units < cLine) (e : X.K = K := by rfl) : OpR X (compareOp .Eq) (rSm K true) := by
  subst e
  intro pins s σ H x y v u Q I rx ry h
  obtain ⟨a, b, xs, rfl, rfl, h1, h2, hf, q⟩ := h
  cases rx
  cases ry
  obtain ⟨us, r1, t1, _⟩ := I.tuple h1
  obtain ⟨ws, r2, t2, _⟩ := I.tuple h2
  have z := SeqAt.RcAt.tuples (e := fun _ => true) t1 t2 hu (fun j j1 j2 => by
    have := vals_sm (A := X.A.in1) (s := s) r1 r2 hf j (by simpa using j1) (by simpa using j2)
    simpa using this)
  have e : ((List.range (min us.toArray.size ws.toArray.size)).all (fun _ => true) && us.toArray.size == ws.toArray.size) = true := by
    have l1 := r1.length
    have l2 := r2.length
    simp
    omega
  rw [e] at z
  exact z X.prog X.w _ _ ⟨.bl true, H, I, rfl, q⟩
theorem op_neSm {X : Cx} {K : PySem.W.Frag} (hu : X.A.units < cLine) (e : X.K = K := by rfl) : OpR X (compareOp .NotEq) (rSm K false) := by
  subst e
  intro pins s σ H x y v u Q I rx ry h
  obtain ⟨a, b, xs, rfl, rfl, h1, h2, hf, q⟩ := h
  cases rx
  cases ry
  obtain ⟨us, r1, t1, _⟩ := I.tuple h1
  obtain ⟨ws, r2, t2, _⟩ := I.tuple h2
  have z := SeqAt.RcNeAt.tuples (e := fun _ => true) t1 t2 hu (fun j j1 j2 => by
    have := vals_sm (A := X.A.in1) (s := s) r1 r2 hf j (by simpa using j1) (by simpa using j2)
    simpa using this)
  have e : (!((List.range (min us.toArray.size ws.toArray.size)).all (fun _ => true) && us.toArray.size == ws.toArray.size)) = false := by
    have l1 := r1.length
    have l2 := r2.length
    simp
    omega
  rw [e] at z
  exact z X.prog X.w _ _ ⟨.bl false, H, I, rfl, q⟩
theorem n_sm {K : PySem.W.Frag} {r : Bool} {H : Hp} {a b : Addr} {xs : List V} {Q : VK} (h1 : SqT K H a xs) (h2 : SqT K H b xs) (hf : ∀ v ∈ xs, sameV v = true) (k : Q (.bl r) H) : rSm K r (.ref a) (.ref b) H Q := ⟨a, b, xs, rfl, rfl, h1, h2, hf, k⟩
/-! ### isinstance of a caught exception that has fields -/
/-- what isinstance asks of the class D -/
structure ExcD (K : PySem.W.Frag) (D : Addr) : Prop where
  cl : (PySem.W.clsIn K D).isSome = true
  hg : PySem.W.findIn K (.ref D) "__getattribute__" = some (some (.builtin "BaseException.__getattribute__"))
  hk : PySem.W.findIn K (.ref D) "__getattr__" = some none
  hs : PySem.W.subIn K (.ref D) (.type "BaseException") = some true
  ha : PySem.W.findIn K (.ref D) "__class__" = some (some (.builtin "object.__class__"))
  hn : PySem.W.specialIn K (.builtin "object.__class__") "__get__" = some (some (.builtin "getset_descriptor.__get__"))
  ht : PySem.W.takesIn K (.builtin "object.__class__") = some true
  hm : PySem.W.mroIn K D (.type "object") = some true
def rIsX (K : PySem.W.Frag) (a : Addr) (cls : Value) (d : Option Addr) : List V → Hp → VK → Prop := fun xs H Q => ∃ (D dd : Addr) (fs : List (Str × V)) (c : V) (b : Bool), cls = .ref D ∧ d = some dd ∧ H dd = some (.xd fs) ∧ ExcD K D ∧ xs = [.ref a, c] ∧
  ((∃ cv, ClsV c cv ∧ PySem.W.kitOne K (.ref D) cv = some b) ∨ ∃ (tp : Addr) (cs : List V) (us : List Value), c = .ref tp ∧ H tp = some (.tup cs) ∧ Paired ClsV cs us ∧ PySem.W.kitAny K (.ref D) us = some b) ∧ Q (.bl b) H
theorem call_isX {X : Cx} {K : PySem.W.Frag} {a : Addr} {cls : Value} {d : Option Addr} {oe : Obj} {pn : List (Addr × Obj)} (hz : Zc cls d oe) (hf : ∃ vs, oe.data = .fields vs) (e : X.K = K := by rfl) : CallR (X.suite a ((a, oe) :: pn)) (.builtin "isinstance") (rIsX K a cls d) := by
  subst e
  intro pins s σ H xs us Q I r h
  obtain ⟨D, dd, fs, c, b, rfl, rfl, hd, C, rfl, hc, q⟩ := h
  obtain ⟨u1, u2, rfl, r1, r2⟩ := vals2 r
  cases (show u1 = Value.ref a from r1)
  obtain ⟨hget, _⟩ := I.pin (a, oe) (List.mem_append.mpr (.inl List.mem_cons_self))
  obtain ⟨mA, hns, _⟩ := (show ObjOk X.prog X.w H s.heap dd (.xd fs) from I.hok dd _ hd)
  obtain ⟨od, hod⟩ : ∃ od, s.heap.get? dd = some od := by
    obtain ⟨o, es, ep, h1, _⟩ := hns
    exact ⟨o, h1⟩
  obtain ⟨vs, hv⟩ := hf
  have J : PySem.W.InstAt s.heap a oe D (some od) := by
    obtain ⟨oc, odd, oda, osl⟩ := oe
    obtain ⟨h1, h2⟩ := hz
    dsimp only at h1 h2 hv
    subst h1 h2 hv
    exact ⟨hget, rfl, rfl, hod⟩
  have Z := PySem.W.kitx_exc (x := a) (ox := oe) (od := some od) C.cl C.hg C.hk C.hs C.ha C.hn C.ht C.hm
  rcases hc with ⟨cv, hcv, hk⟩ | ⟨tp, cs, ws, rfl, htp, hcs, hk⟩
  · have ec := hcv.eq r2
    subst ec
    exact PySem.W.kia_one Z I.kIn J hk (fun z => nomatch z) fun tk => ⟨.bl b, H, I.kept (t' := tk) fun _ _ z => z, rfl, q⟩
  · cases (show u2 = Value.ref tp from r2)
    obtain ⟨_, its, rv, o, h1, h2, n, h3⟩ := (show ObjOk X.prog X.w H s.heap tp (.tup cs) from I.hok tp _ htp)
    have e3 := ClsV.all hcs rv
    subst e3
    obtain ⟨oc, odd, dt, sl⟩ := o
    simp only at h2 h3
    subst h2 h3
    exact PySem.W.kia_tup Z I.kIn J h1 hk (fun z => nomatch z) fun tk => ⟨.bl b, H, I.kept (t' := tk) fun _ _ z => z, rfl, q⟩
/-- a class's name as a value -/
theorem pe_cls {X : Cx} {x : Str} {C : Addr} {pos : Pos} (hm : X.mg x = some (.ref C)) (hg : Gl X x := by rfl) (hd : (x == ("__debug__" : Str)) = false := by decide) : PE X (.Name x pos) (tC (.ref C)) := pe_glob (v := .ref C) hg hm rfl hd
/-! ### a def whose code object is known -/
structure FunC (K : PySem.W.Frag) (x qual : Str) (st : Stmt) (f : Addr) (fd : FuncData) (c : Addr) : Prop where
  ex : ∃ (oc : Value) (od : Option Addr) (kV doc pm : Value) (an : Option Addr) (ct : Value) (osl : Array (Option Value)),
    fd = PySem.W.fnOf x qual (defArgs st) (defBody st) (defScope st) .none kV doc pm an (.ref c) ct ∧ K.lookup f = some ⟨oc, od, .func fd, osl⟩ ∧ PySem.W.codeIn K (.ref c) qual = true
section
variable {P : Program} {w : World} {K : PySem.W.Frag} {mg : Str → Option Value} {base : Heap}
theorem FunC.ok {x qual : Str} {st : Stmt} {f c : Addr} {fd : FuncData} {N ps : List Str} {k : Nat} {sp : Sp} (F : FunC K x qual st f fd c) (S : FnScope N ps (defScope st)) (len : ∀ vs H Q E, sp vs H Q E → vs.length = ps.length)
    (hb : ∀ (A : Around) (outer : List Env) (s : Shared) (H : Hp) (vs : List V) (Q : VK) (E : XK), Room k (A.deeper (envOfC qual (defScope st) s.heap.objs.size f (.ref c))) → sp vs H Q E →
      ∃ t, PSs (cxOf CX0 P w K mg base N qual (defScope st) f (.ref c) A outer s H E).nox (defBody st) t ∧ t ⟨fun _ H' => Q .non H', Q, fun _ _ => False, fun _ _ => False⟩ (L2.start N vs) H) : FnOk P w K mg base CX0 (k + 1) f fd ps sp := by
  obtain ⟨oc, od, kV, doc, pm, an, ct, osl, rfl, lk, hcd⟩ := F.ex
  refine fn_of lk hcd S len fun A outer s H vs Q E hr hsp => ?_
  obtain ⟨t, h, q⟩ := hb A outer s H vs Q E hr hsp
  exact ⟨t, h.nox, q⟩
end
/-! ### a lambda handed to a def, what it raises wished for at the def's slots -/
section
variable {X : Cx} {pins : List (Addr × Obj)} {σ : L2.St} {H : Hp} {s : Shared}
/-- the def x's context, entered at s -/
abbrev inCx (X : Cx) (Ng : List Str) (x : Str) (sg : Scope) (g : Addr) (cdg : Value) (s : Shared) (H : Hp) : Cx := cxOf CX0 X.prog X.w X.K X.mg X.base Ng x sg g cdg X.A X.stack s H E0
/-- what a() reads, a the def's parameter -/
def tAct (f c' : Addr) (q : Str) (W : WX) (tl : XK → Hp → VK → Prop) : TE := fun σZ HZ Q => σZ[0]? = some (some (.ref f)) ∧ HZ c' = some (CodeO c' q) ∧ tl (fun cls d H' => W cls d σZ H') HZ Q
theorem pe_actS {Ng : List Str} {x : Str} {sg : Scope} {g f c' : Addr} {cdg pm ctv : Value} {params : Arguments} {body : Expr} {scope : Scope} {k : Nat} {a : Str} {pn : List (Addr × Obj)} {xe : Value → Shared → Prop} {W : WX} {tb : XK → TE} {p1 p2 : Pos}
    (I : Inv X pins σ H s) (L : LamS X.env.scope scope) (hf : s.heap.get? f = some (PySem.W.kla_obj "<lambda>" (X.env.qual ++ "<lambda>") params body scope (cloFrom X.env.cells scope.names []) pm c' ctv)) (hfn : H f = none) (hfr : f ∉ frs X.stack)
    (hbind : bindArgs (PySem.W.kla_fn "<lambda>" (X.env.qual ++ "<lambda>") params body scope (cloFrom X.env.cells scope.names []) pm (.ref c') ctv) ⟨[], []⟩ = pure [])
    (tk : Takes ((inCx X Ng x sg g cdg s H).tr pn xe) W) (hr : Room (k + 1) (X.A.deeper (envOfC x sg s.heap.objs.size g cdg)))
    (hbody : ∀ (E : XK) (A : Around) (outer : List Env) (s : Shared) (H : Hp), Room k (A.deeper (lamEnv X scope s.heap.objs.size f c')) → PE (lamCx X A outer s H E scope f c') body (tb E))
    (hN : Ng[0]? = some a) (hv : Vis sg a) (hd : (a == ("__debug__" : Str)) = false := by decide) (hcd : (a == ("__classdict__" : Str)) = false := by decide) :
    PE ((inCx X Ng x sg g cdg s H).tr pn xe) (.Call (.Name a p1) [] [] p2) (tAct f c' (X.env.qual ++ "<lambda>") W fun E H' Q' => tb E σ H' Q') := by
  refine ⟨fun pinsZ sZ σZ HZ Q IZ ⟨hs, hc, ht⟩ => ?_⟩
  have nm := (pe_var (pos := p1) (i := 0) hN hv hd hcd).run pinsZ sZ σZ HZ (fun v H1 => v = .ref f ∧ H1 = HZ) IZ ⟨.ref f, hs, rfl, rfl⟩
  refine wpAny_Call_Name_kw (thn nm fun u s1 ⟨v, H1, I1, r1, ev, eH⟩ => ?_)
  subst ev
  rw [eH] at I1
  cases (show u = Value.ref f from r1)
  have at1 := I1.base.keep f _ hf hfn hfr (fun z => nomatch (show f ∈ ([] : List Addr) from z))
  refine PySem.W.callWith_F0 ⟨_, _, _, _, at1⟩ ?_
  have un : Un (frs X.stack) [] H HZ s.heap s1.heap := I1.base
  obtain ⟨⟨oc, vs, t, hoc, hdc, hvc⟩, _, _⟩ := I1.hok c' _ hc
  have rc : codeAny (model X.prog X.w) (X.A.deeper (envOfC x sg s.heap.objs.size g cdg)) (.call (.ref f) ⟨[], []⟩)
      (CR (L2.CX X.prog X.w) (envOfC x sg s.heap.objs.size g cdg :: X.stack) X.prog X.w HZ s1 Q fun cls d H' => W cls d σZ H') s1 := by
    refine PySem.W.kla_callFunE hr.depth at1 rfl L.co L.gen rfl ⟨c', oc, vs, t, rfl, hoc, hdc, hvc⟩ ?_
    rw [hbind]
    refine wpAny_pure (wpAny_newFunctionEnv (fun y hy => (L.own y hy).2) (fun y hy => absurd hy (by simp)) (fun h₁ hns hsb => ⟨I1.nolimit.fresh _ hsb, ?_⟩) L.kind)
    show codeAny _ _ (.expr body (lamEnv X scope s1.heap.objs.size f c')) _ _
    have J := lam_start2 (f := f) (c' := c') (tk := s1.toks + ([] : List (Str × Value)).length) (E := fun cls d H' => W cls d σZ H') I L I1.env0 hr.hd un hns fun b o e => hsb.extBut b o (Nat.ne_of_lt (Heap.lt_size e)) (Heap.get?_push_of_some _ e)
    refine PySem.W.kla_codeExpr (wpAny_mono ((hbody _ _ _ s1 HZ (hr.deeper _)).run [] _ _ HZ Q J ht) (fun v s' hq => ?_) fun e s' hq => hq)
    obtain ⟨w', H', J', rv, q⟩ := hq
    exact ⟨w', H', J'.os, J'.bare, J'.base, J'.hok, rv, q⟩
  refine wpAny_call (codeAny_mono rc fun r s' hq => ?_)
  cases r with
  | error e => exact passAt tk σZ pinsZ HZ s1 e s' I1 hq
  | ok fl =>
    cases fl with
    | ret u => exact I1.after hq
    | next => exact False.elim hq
    | brk => exact False.elim hq
    | cont => exact False.elim hq
/-- the def x that calls what it got: TT says what it makes of the lambda's reading -/
def GivesS (X : Cx) (Ng : List Str) (x : Str) (sg : Scope) (g : Addr) (cdg : Value) (bg : List Stmt) (a : Str) (q : Str) (TT : (XK → Hp → VK → Prop) → Hp → VK → Prop) : Prop :=
  ∀ (f c' : Addr) (s : Shared) (H : Hp) (Q : VK) (tl : XK → Hp → VK → Prop), (∀ (W : WX) (pn : List (Addr × Obj)) (xe : Value → Shared → Prop) (p1 p2 : Pos), Takes ((inCx X Ng x sg g cdg s H).tr pn xe) W → PE ((inCx X Ng x sg g cdg s H).tr pn xe) (.Call (.Name a p1) [] [] p2) (tAct f c' q W tl)) →
    H c' = some (CodeO c' q) → TT tl H Q → ∃ t, PSs (inCx X Ng x sg g cdg s H).nox bg t ∧ t ⟨fun _ H' => Q .non H', Q, fun _ _ => False, fun _ _ => False⟩ (L2.start Ng [.ref f]) H
/-- such a def, by its name -/
def LamDef (P : Program) (w : World) (K : PySem.W.Frag) (mg : Str → Option Value) (base : Heap) (x a : Str) (TT : (XK → Hp → VK → Prop) → Hp → VK → Prop) : Prop :=
  ∃ (g : Addr) (Ng : List Str) (st : Stmt) (oc kV doc pm cdv ct : Value) (an od : Option Addr) (osl : Array (Option Value)), mg x = some (.ref g) ∧ PySem.W.keepIn K (.ref g) = true ∧ K.lookup g = some ⟨oc, od, .func (PySem.W.fnOf x x (defArgs st) (defBody st) (defScope st) .none kV doc pm an cdv ct), osl⟩ ∧ PySem.W.codeIn K cdv x = true ∧
    L2.Binds K (PySem.W.fnOf x x (defArgs st) (defBody st) (defScope st) .none kV doc pm an cdv ct) [a] [] ∧ FnScope Ng [a] (defScope st) ∧ Ng[0]? = some a ∧ Vis (defScope st) a ∧ ∀ (X : Cx) (q : Str), X.prog = P → X.w = w → X.K = K → X.mg = mg → X.base = base → GivesS X Ng x (defScope st) g cdv (defBody st) a q TT
theorem pe_lamS {T : List (Addr × Str)} {TT : (XK → Hp → VK → Prop) → Hp → VK → Prop} {x a : Str} {c P : Addr} {k : Nat} {params : Arguments} {body : Expr} {scope : Scope} {t : XK → TE} {p lpos pos : Pos} (D : LamDef X.prog X.w X.K X.mg X.base x a TT)
    (TB : TabB X.base X.mg c P) (hmT : (P, X.env.qual ++ "<lambda>") ∈ T) (hu : ∀ p ∈ T, p.1 = P → p.2 = X.env.qual ++ "<lambda>") (hr : Room (k + 2) X.A)
    (hbody : ∀ (A : Around) (outer : List Env) (s : Shared) (H : Hp) (E : XK) (f c' : Addr), Room k (A.deeper (lamEnv X scope s.heap.objs.size f c')) → PE (lamCx X A outer s H E scope f c') body (t E)) (L : LamS X.env.scope scope) (hcode : X.env.code = .ref c := by rfl)
    (hbind : ∀ (q : Str) (cl : List (Str × Addr)) (pm cv ctv : Value), bindArgs (PySem.W.kla_fn "<lambda>" q params body scope cl pm cv ctv) ⟨[], []⟩ = pure [] := by intros; rfl) (hdef : defaultsOf params X.env = ([], []) := by rfl) (hg : Gl X x := by rfl)
    (hdb : (x == ("__debug__" : Str)) = false := by decide) (hd : (a == ("__debug__" : Str)) = false := by decide) (hcd : (a == ("__classdict__" : Str)) = false := by decide) :
    PE X (.Call (.Name x p) [.Lambda params body scope lpos] [] pos) (tLam T TT t) := by
  obtain ⟨g, Ng, st, oc, kV, doc, pm, cdv, ct, an, od, osl, hm, hk, lk, hcg, hb, Sg, hNg, hva, hG⟩ := D
  refine ⟨fun pins s σ H Q I ⟨hT, h⟩ => ?_⟩
  refine wpAny_Call_Name_kw (ld_glob I hg hm (PySem.W.callWith_K (h₀ := X.base) I.ok.mod.kin hk ?_ (by rfl) (by rfl)) hdb)
  show wpAny _ _ (spliced ((false, eval (.Lambda params body scope lpos) X.env) :: backTo pos (starEach [] X.env))) _ _ s
  have mk := lam_make2 (body := body) (pos := lpos) (E := X.xe) I TB hcode hmT hu hT hdef (L.has I.ok) (Q := fun v s' => ∃ f, v = .ref f ∧ wpAny (model X.prog X.w) X.A (call (.ref g) [.ref f]) (EP X pins σ Q) X.xe s' ∧ X.K.In s'.heap) fun f c' pm' ctv H1 s' I1 eN T1 hf hfn hfr hco => ⟨f, rfl, ?_, I1.kIn⟩
  · refine Calls.spliced_cons (wpAny_mono mk (fun v s' ⟨f, ev, hq, hin⟩ => ?_) fun _ _ z => z)
    subst ev
    exact Calls.spliced_nil ⟨hin, hq⟩
  · have rc : codeAny (model X.prog X.w) X.A (.call (.ref g) ⟨[.ref f], []⟩) (CR CX0 X.stack X.prog X.w H1 s' Q E0) s' :=
      run_ofS (N := Ng) (ps := [a]) (us := [.ref f]) (vs := [.ref f]) lk hcg Sg hr I1.env0 (hb s' [.ref f] I1.kIn rfl) (.cons rfl .nil) rfl fun hr' => by
        obtain ⟨t', ht', hq'⟩ := hG X _ rfl rfl rfl rfl rfl f c' s' H1 Q (fun E H' Q' => t E σ H' Q') (fun W pn xe p1 p2 tk => pe_actS I1 L hf hfn hfr (hbind _ _ _ _ _) tk hr' (fun E A outer s H hr2 => hbody A outer s H E f c' hr2) hNg hva hd hcd) hco (h H1 eN T1)
        exact ⟨t', ht'.nox, hq'⟩
    refine wpAny_call (codeAny_mono rc fun r s2 hq => ?_)
    cases r with
    | error e => exact (show False from hq).elim
    | ok fl =>
      cases fl with
      | ret u => exact I1.after hq
      | next => exact False.elim hq
      | brk => exact False.elim hq
      | cont => exact False.elim hq
end
/-! ### the table of the maker's lambdas among what may be changed -/
/-- without the tables -/
def noT (G : Hp) : Hp := fun a => match G a with
  | some (.tbl _) => none
  | o => o
theorem noT_of {G : Hp} {a : Addr} {o : HO} (h : G a = some o) (ne : ∀ ps, o ≠ .tbl ps) : noT G a = some o := by
  unfold noT
  rw [h]
  cases o with
  | tbl ps => exact absurd rfl (ne ps)
  | _ => rfl
theorem of_noT {G : Hp} {a : Addr} {o : HO} (h : noT G a = some o) : G a = some o ∧ ∀ ps, o ≠ .tbl ps := by
  unfold noT at h
  cases e : G a with
  | none => rw [e] at h; cases h
  | some u =>
    rw [e] at h
    cases u with
    | tbl ps => cases h
    | _ => cases h; exact ⟨rfl, fun ps z => by cases z⟩
theorem ex_noT (G : Hp) : Ex (noT G) G := fun a o h => (of_noT h).1
theorem Ex.noT {G H : Hp} (e : Ex G H) : Ex (NX.noT G) (NX.noT H) := fun a o h => noT_of (e _ _ (of_noT h).1) (of_noT h).2
/-- a table's rows, their code objects known in G -/
def TabG (G : Hp) (ps : Array Value) (q : Str) : Prop := TriplesOk ps.toList ∧ ∀ (pos : Pos) (cv : Value), codeAmong pos ps.toList = some cv → ∃ c, cv = .ref c ∧ G c = some (CodeO c q)
theorem TabG.mono {G G' : Hp} {ps : Array Value} {q : Str} (h : TabG G ps q) (e : Ex G G') : TabG G' ps q := ⟨h.1, fun pos cv hc => let ⟨c, e1, e2⟩ := h.2 pos cv hc; ⟨c, e1, e _ _ e2⟩⟩
theorem TabG.noT {G : Hp} {ps : Array Value} {q : Str} (h : TabG G ps q) : TabG (NX.noT G) ps q := ⟨h.1, fun pos cv hc => let ⟨c, e1, e2⟩ := h.2 pos cv hc; ⟨c, e1, noT_of e2 codeO_ne⟩⟩
theorem TabG.nil (G : Hp) (q : Str) : TabG G #[] q := ⟨True.intro, fun pos cv hc => by
  have z : codeAmong pos [] = some cv := hc
  simp [codeAmong] at z⟩
theorem n_lam {TT : (XK → Hp → VK → Prop) → Hp → VK → Prop} {t : XK → TE} {σ : L2.St} {G H : Hp} {L : List (Addr × HO)} {P : Addr} {ps : Array Value} {q : Str} {Q : VK} (S : Own G ((P, .tbl ps) :: L) H) (tg : TabG G ps q) (hL : ∀ p ∈ L, ∃ xs, p.2 = .lst xs)
    (k : ∀ G1 H1 ps1, Ex (noT G) G1 → Own G1 ((P, .tbl ps1) :: L) H1 → TabG G1 ps1 q → TT (fun E H' Q' => t E σ H' Q') H1 Q) : tLam [(P, q)] TT t σ H Q := by
  have hP := S.get0
  refine ⟨fun p hp => ?_, fun H1 eN T1 => ?_⟩
  · have e : p = (P, q) := by simpa using hp
    subst e
    exact ⟨ps, hP, tg.1, fun pos cv hc => let ⟨c, e1, e2⟩ := tg.2 pos cv hc; ⟨c, e1, S.ex _ _ e2⟩⟩
  · obtain ⟨ps1, hP1, ht1, hc1⟩ := T1 (P, q) (by simp)
    have hP1 : H1 P = some (.tbl ps1) := hP1
    have hLk : ∀ p ∈ L, H1 p.1 = some p.2 := fun p hp => eN _ _ (S.at_ p (List.mem_cons_of_mem _ hp)).2 fun qs z => by
      obtain ⟨xs, e⟩ := hL p hp
      rw [e] at z
      cases z
    have out : ∀ c, H1 c = some (CodeO c q) → c ∉ ((P, HO.tbl ps1) :: L).map Prod.fst := fun c hc m => by
      rcases List.mem_cons.mp m with e | m
      · have e : c = P := e
        rw [e, hP1] at hc
        unfold CodeO at hc
        cases hc
      · obtain ⟨p, hp, e⟩ := List.mem_map.mp m
        have z := hLk p hp
        obtain ⟨xs, e2⟩ := hL p hp
        rw [e, hc, e2] at z
        unfold CodeO at z
        cases z
    refine k (cut H1 ((P, .tbl ps1) :: L)) H1 ps1 (fun a o h => ?_) ⟨fun a u h => ?_, fun p hp => ⟨cut_in (List.mem_map_of_mem hp), ?_⟩, S.nd, fun p hp => ?_⟩ ⟨ht1, fun pos cv hc => ?_⟩
    · obtain ⟨h1, h2⟩ := of_noT h
      have m : a ∉ ((P, HO.tbl ps1) :: L).map Prod.fst := fun m => by
        have m' : a ∈ ((P, HO.tbl ps) :: L).map Prod.fst := m
        obtain ⟨p, hp, e⟩ := List.mem_map.mp m'
        have z := (S.at_ p hp).1
        rw [e, h1] at z
        cases z
      rw [cut_out m]
      exact eN _ _ (S.ex _ _ h1) h2
    · by_cases m : a ∈ ((P, HO.tbl ps1) :: L).map Prod.fst
      · rw [cut_in m] at h; cases h
      · rw [cut_out m] at h; exact h
    · rcases List.mem_cons.mp hp with rfl | hp
      · exact hP1
      · exact hLk p hp
    · rcases List.mem_cons.mp hp with rfl | hp
      · rfl
      · exact S.nt p (List.mem_cons_of_mem _ hp)
    · obtain ⟨c, e1, e2⟩ := hc1 pos cv hc
      exact ⟨c, e1, by rw [cut_out (out c e2)]; exact e2⟩
theorem g_act {f c' : Addr} {q : Str} {W : WX} {tl : XK → Hp → VK → Prop} {σ : L2.St} {H : Hp} {Q : VK} (h1 : σ[0]? = some (some (.ref f))) (h2 : H c' = some (CodeO c' q)) (k : tl (fun cls d H' => W cls d σ H') H Q) : tAct f c' q W tl σ H Q := ⟨h1, h2, k⟩
end NX

namespace NX
open PySem PySem.Spec PyProof.Rows L2
/-! ### rules with the fragment named: for bodies of comprehensions -/
section
variable {X : Cx} {K : PySem.W.Frag}
theorem call_lenK (e : X.K = K := by rfl) : CallR X (.builtin "len") (Evl.rLenS K) := e ▸ call_lenN
theorem call_listK (e : X.K = K := by rfl) : CallR X (.type "list") (Evl.rListS K) := e ▸ call_listN
theorem call_tupK (e : X.K = K := by rfl) : CallR X (.type "tuple") (rTupS K) := e ▸ call_tupN
theorem call_isiK' (e : X.K = K := by rfl) : CallR X (.builtin "isinstance") (rIsi K) := e ▸ call_isi
theorem cr_sortedIK (e : X.K = K := by rfl) : CallR X (.builtin "sorted") (rSortedI K) := e ▸ cr_sortedI
theorem cr_sortedPOK (e : X.K = K := by rfl) : CallR X (.builtin "sorted") (rSortedPO K) := e ▸ cr_sortedPO
theorem cr_sumK (hc : X.calm = true) (e : X.K = K := by rfl) : CallR X (.builtin "sum") (rSum K) := e ▸ cr_sum hc
theorem cr_maxK (hc : X.calm = true) (e : X.K = K := by rfl) : CallR X (.builtin "max") (rMax K) := e ▸ cr_max hc
theorem cr_minK (hc : X.calm = true) (e : X.K = K := by rfl) : CallR X (.builtin "min") (rMin K) := e ▸ cr_min hc
theorem cr_allK (hc : X.calm = true) (e : X.K = K := by rfl) : CallR X (.builtin "all") (rAll K) := e ▸ cr_all hc
theorem ix_listK (e : X.K = K := by rfl) : IxR X (rIxL K) := e ▸ ix_list
theorem ix_tupK (e : X.K = K := by rfl) : IxR X (rIxT K) := e ▸ ix_tup
theorem sl_listK (e : X.K = K := by rfl) : SlR X (rSlL K) := e ▸ sl_list
theorem sl_tupAK (e : X.K = K := by rfl) : SlR X (rSlA K) := e ▸ sl_tupA
theorem op_in_seqK (e : X.K = K := by rfl) : OpR X (compareOp .In) (rIn K false) := e ▸ op_in_seq
theorem op_notIn_seqK (e : X.K = K := by rfl) : OpR X (compareOp .NotIn) (rIn K true) := e ▸ op_notIn_seq
theorem op_eqDK (hu : X.A.units + 64 < cLine) (e : X.K = K := by rfl) : OpR X (compareOp .Eq) (rEqD K) := e ▸ op_eqD hu
theorem op_neDK (hu : X.A.units + 64 < cLine) (e : X.K = K := by rfl) : OpR X (compareOp .NotEq) (rNeD K) := e ▸ op_neD hu
theorem op_inDK (hu : X.A.units + 65 < cLine) (e : X.K = K := by rfl) : OpR X (compareOp .In) (rInD K) := e ▸ op_inD hu
theorem op_notInDK (hu : X.A.units + 65 < cLine) (e : X.K = K := by rfl) : OpR X (compareOp .NotIn) (rNotInD K) := e ▸ op_notInD hu
theorem op_catLK (e : X.K = K := by rfl) : OpR X (binaryOp .Add) (rCatL K) := e ▸ op_catL
theorem op_catAK (e : X.K = K := by rfl) : OpR X (binaryOp .Add) (rCatA K) := e ▸ op_catA
theorem op_repTK (e : X.K = K := by rfl) : OpR X (binaryOp .Mult) (rRepT K) := e ▸ op_repT
theorem mt_indexK (e : X.K = K := by rfl) : MtR X "list.index" (rIndex K) := e ▸ mt_index
theorem pe_fldK {e : Expr} {ta : TE} {f : Str} {pos : Pos} (he : PE X e ta) (hb : attributeBase e f X.env (eval e X.env) = eval e X.env) (h : X.K = K := by rfl) : PE X (.Attribute e f pos) (tFld K ta f) := h ▸ pe_fld he hb
theorem pi_listK {tg l : Expr} {tl : TE} (hl : PE X l tl) (h : X.K = K := by rfl) : PI X tg l (iList K tl) := h ▸ pi_list hl
theorem pi_tupK {tg l : Expr} {tl : TE} (hl : PE X l tl) (h : X.K = K := by rfl) : PI X tg l (iTup K tl) := h ▸ pi_tup hl
theorem pg_tupK {es : List Expr} {k : Nat} {t : TGs} {n : Nat} {pos : Pos} (hc : X.calm = true) (h : PGs X es t) (e : X.K = K := by rfl)
    (hn : (assignEach es X.env).length = n := by rfl) (hst : (assignEach es X.env).findIdx? (·.1) = none := by rfl) : PG X (.Tuple es k pos) (gTup K n t) := e ▸ pg_tup hc h hn hst
theorem pe_bmK {o e : Expr} {es : List Expr} {to : TE} {t : TA} {name : Str} {apos cpos : Pos} {T id : String} {r : V → List V → Hp → VK → Prop} (pa : PlainAttrs T) (slot : Slot T name id) (hty : typeOf (.builtin id) = pure (.type "method_descriptor")) (hm : MtR X id r) (ho : PE X o to) (ha : PA X (e :: es) t)
    (h : X.K = K := by rfl) (hbase : attributeBase o name X.env (eval o X.env) = eval o X.env := by rfl)
    (hfew : ((backTo cpos (starEach (e :: es) X.env)).all (fun x => !x.1) && (backToKw cpos (keywordEach [] X.env)).all (fun x => x.1.isSome)
      && decide ((e :: es).length + ([] : List Keyword).length + (if ([] : List Keyword).isEmpty then 0 else 1) < 30)) = true := by rfl)
    (hline : (apos.endLine == cpos.line) = true := by rfl) (hs : starEach (e :: es) X.env = (false, eval e X.env) :: starEach es X.env := by rfl) (hplain : (backTo cpos (starEach es X.env)).any (·.1) = false := by rfl) :
    PE X (.Call (.Attribute o name apos) (e :: es) [] cpos) (tBM K T r to t) := h ▸ pe_bm pa slot hty hm ho ha hbase hfew hline hs hplain
end
end NX

namespace NX
open PySem PySem.Spec PyProof.Rows L2
open Evl (Ex ex_l ex_t fresh_back)
/-! ### exceptions of own classes with one field -/
/-- the base class's name, at C0: its __init__ is ValueError's -/
structure BaseC (K : PySem.W.Frag) (C0 : Addr) : Prop where
  rd : PySem.W.readsIn K C0 (.type "type") = true
  ga : PySem.W.specialIn K (.ref C0) "__getattribute__" = some (some (.builtin "type.__getattribute__"))
  vV : PySem.W.findCls K (.ref C0) (.type "type") "__init__" = some (.val (.builtin "ValueError.__init__"))
section
variable {X : Cx} {e : Expr} {es : List Expr} {ta : TA} {p1 p2 pos : Pos} {x : Str} {C0 : Addr}
theorem pe_oeinit {K : PySem.W.Frag} {pl : Sem Bool} (hm : X.mg x = some (.ref C0)) (B : BaseC X.K C0) (ha : PA X (e :: es) ta) (hK : X.K = K := by rfl) (hg : Gl X x := by rfl) (hdb : (x == ("__debug__" : Str)) = false := by decide)
    (hc : eval (.Call (.Attribute (.Name x p1) "__init__" p2) (e :: es) [] pos) X.env = (do
      let ov ← eval (.Name x p1) X.env
      standAt p2.atName
      let (f, first) ← holding [ov] (getMethod ov "__init__" pl)
      callWith pos f first (backTo pos (starEach (e :: es) X.env)) (backToKw pos (keywordEach [] X.env))) := by rfl)
    (he : starEach (e :: es) X.env = (false, eval e X.env) :: starEach es X.env := by rfl) (hpl : (backTo pos (starEach es X.env)).any (·.1) = false := by rfl) :
    PE X (.Call (.Attribute (.Name x p1) "__init__" p2) (e :: es) [] pos) (tVeI K ta) := by
  subst hK
  refine ⟨fun pins s σ H Q I h => ?_⟩
  refine PySem.W.methodCall_KW (ld_glob I hg hm ?_ hdb) hc
  refine PySem.W.method_cls I.kIn B.ga (PySem.W.cls_value I.kIn B.rd B.vV (by decide +kernel) ?_)
  refine PyProof.Rows.callWith_method1 (thn (ha.run pos pins _ σ H _ (I.tok _) h) fun us s1 ⟨vs, H1, I1, r1, a, C, ws, ev, hl, T, ea, q⟩ => ?_) he hpl
  subst ev
  cases r1 with
  | @cons _ u1 _ ur ra rw1 =>
    obtain rfl : u1 = Value.ref a := ra
    have hlen := Paired.length rw1
    exact oinit_ok T I1 ea (by rw [sizeLine_eq]; omega) fun s' J => ⟨.non, H1, J, rfl, q⟩
end
def spExInit (K : PySem.W.Frag) (C : Addr) (f : Str) : Sp := fun vs H Q _ => ∃ (a : Addr) (v : V), vs = [.ref a, v] ∧ H a = some (exo a C none) ∧ OexC K C ∧ ∀ dx, H dx = none → dx ≠ a → Q .non (upd (upd H dx (exd dx [(f, v)])) a (exo a C (some dx)))
/-- the class x at C: raised with one value, kept as the field f -/
def Exn (P : Program) (w : World) (K : PySem.W.Frag) (mg : Str → Option Value) (base : Heap) (x : Str) (C : Addr) (f : Str) : Prop :=
  ∃ (fI : Addr) (fd : FuncData), mg x = some (.ref C) ∧ OexC K C ∧ PySem.W.findIn K (.ref C) "__init__" = some (some (.ref fI)) ∧ PySem.W.typeIn K (.ref fI) = some (.type "function") ∧ FnOk P w K mg base (L2.CX P w) 1 fI fd ["self", f] (spExInit K C f) ∧ Binds K fd ["self", f] []
def RAISE (K : PySem.W.Frag) (C : Addr) (f : Str) (W : WX) (σ : L2.St) (vs : List V) (H1 : Hp) : Prop := vs.length ≤ 1000 ∧ ∀ a, H1 a = none → spExInit K C f (.ref a :: (vs ++ [])) (upd H1 a (exo a C none))
  (fun v H2 => v = .non ∧ ∃ (d : Addr) (fs : List (Str × V)), H2 a = some (exo a C (some d)) ∧ H2 d = some (exd d fs) ∧ H1 d = none ∧ W (.ref C) (some d) σ (upd (del H2 a) d (.xd fs))) (fun _ _ _ => False)
def tRaiseE (K : PySem.W.Frag) (C : Addr) (f : Str) (W : WX) (ta : TA) : TS := fun _ σ H => ta σ H fun vs H1 => RAISE K C f W σ vs H1
theorem s_raiseE {K : PySem.W.Frag} {C : Addr} {f : Str} {W : WX} {ta : TA} {D : Ends} {σ : L2.St} {H : Hp} (k : ta σ H fun vs H1 => RAISE K C f W σ vs H1) : tRaiseE K C f W ta D σ H := k
theorem n_raise {K : PySem.W.Frag} {C : Addr} {f : Str} {W : WX} {σ : L2.St} {v : V} {H1 : Hp} (T : OexC K C) (k : ∀ d H2, H1 d = none → Ex H1 H2 → H2 d = some (.xd [(f, v)]) → W (.ref C) (some d) σ H2) : RAISE K C f W σ [v] H1 :=
  ⟨by simp, fun a ha => ⟨a, v, rfl, upd_same, T, fun dx hdx ne => by
    have hd1 : H1 dx = none := by rw [upd_ne ne] at hdx; exact hdx
    refine ⟨rfl, dx, [(f, v)], upd_same, ?_, hd1, ?_⟩
    · rw [upd_ne ne, upd_same]
    · have z : upd (del (upd (upd (upd H1 a (exo a C none)) dx (exd dx [(f, v)])) a (exo a C (some dx))) a) dx (.xd [(f, v)]) = upd H1 dx (.xd [(f, v)]) := by
        funext b
        by_cases h1 : b = dx
        · rw [h1, upd_same, upd_same]
        · rw [upd_ne h1, upd_ne h1]
          by_cases h2 : b = a
          · rw [h2, del_same, ha]
          · rw [del_ne h2, upd_ne h2, upd_ne h1, upd_ne h2]
      rw [z]
      exact k dx _ hd1 (Ex.new hd1) upd_same⟩⟩
theorem ps_raiseE {X : Cx} {K : PySem.W.Frag} {W : WX} {x : Str} {C : Addr} {f : Str} {e : Expr} {ta : TA} {p pos pos2 : Pos} (hc : X.calm = true) (tk : Takes X W) (N : Exn X.prog X.w X.K X.mg X.base x C f) (hr : Room 2 X.A) (ha : PA X [e] ta) (hK : X.K = K := by rfl) (hg : Gl X x := by rfl)
    (hdb : (x == ("__debug__" : Str)) = false := by decide) (hst : starEach [e] X.env = (false, eval e X.env) :: starEach [] X.env := by rfl) (hpl : (backTo pos (starEach [] X.env)).any (·.1) = false := by rfl) :
    PS X (.Raise (some (.Call (.Name x p) [e] [] pos)) none pos2) (tRaiseE K C f W ta) := by
  subst hK
  obtain ⟨fI, fd, hm, T, iC, tI, F, hb⟩ := N
  exact ps_raise (pos := pos2) hc tk (pmk_oex (pos := pos) (p := p) T iC tI F hr hb .nil (fun _ _ _ _ _ _ _ h => by
    obtain ⟨_, _, _, _, _, _, _, _, _, _, _, _, z⟩ := h
    exact z.elim) hg hm ha hdb hst hpl)
theorem Exn.oex {P : Program} {w : World} {K : PySem.W.Frag} {mg : Str → Option Value} {base : Heap} {x : Str} {C : Addr} {f : Str} (N : Exn P w K mg base x C f) : OexC K C := let ⟨_, _, _, T, _⟩ := N; T
/-! ### the body of an __init__ -/
def tVeI' (K : PySem.W.Frag) (ta : TA) : TE := tVeI K ta
theorem n_vei {K : PySem.W.Frag} {σ : L2.St} {H : Hp} {ta : TA} {Q : VK} (k : ta σ H fun vs H1 => ∃ (a C : Addr) (ws : List V), vs = .ref a :: ws ∧ ws.length ≤ 1000 ∧ OexC K C ∧ H1 a = some (exo a C none) ∧ Q .non H1) : tVeI K ta σ H Q := k
/-! ### calls that may raise, in a try -/
theorem pe_calS {X : Cx} {k : Nat} {ps : List Str} {sp : Sp} {E : L2.St → XK} {x : Str} {p pos : Pos} {e : Expr} {es : List Expr} {t : TA} (C : Cal X.prog X.w X.K X.mg X.base k x ps [] sp) (hr : Room k X.A) (hx : ∀ σ, PassesAt (L2.CX X.prog X.w) X σ (E σ)) (ha : PA X (e :: es) t) (hg : Gl X x := by rfl) (hdb : (x == ("__debug__" : Str)) = false := by decide)
    (he : starEach (e :: es) X.env = (false, eval e X.env) :: starEach es X.env := by rfl) (hpl : (backTo pos (starEach es X.env)).any (·.1) = false := by rfl) : PE X (.Call (.Name x p) (e :: es) [] pos) (tCallS sp E t) := by
  obtain ⟨f, fd, ds, F, hm, hk, hb, hd⟩ := C
  cases hd
  exact pe_callS F hr hg hm hk hb hx ha hdb he hpl
theorem g_calS {sp : Sp} {E : L2.St → XK} {tr : TA} {σ : L2.St} {H : Hp} {Q : VK} (k : tr σ H fun vs H1 => sp vs H1 Q (E σ)) : tCallS sp E tr σ H Q := k
/-- the way out of a def: E -/
theorem passE {X : Cx} {W : WX} {E : XK} (tk : Takes X W) (hW : ∀ cls d σ H, E cls d H → W cls d σ H) : Passes (L2.CX X.prog X.w) X E := passes_call tk hW
/-! ### what except clauses ask -/
theorem n_as {K : PySem.W.Frag} {c : Value} {i : Nat} {ts : Addr → Value → Option Addr → TS} {Wout : WX} {D : Ends} {cls : Value} {d : Option Addr} {σ : L2.St} {H : Hp} (he : PySem.W.exmOne K cls c = some true)
    (k : ∀ a, H a = none → ts a cls d { nx := fun σ' H' => D.nx (σ'.set i none) H', rt := D.rt, bk := fun σ' H' => D.bk (σ'.set i none) H', ct := fun σ' H' => D.ct (σ'.set i none) H' } (σ.set i (some (.ref a))) H) : wAs K c i ts Wout D cls d σ H :=
  ⟨true, he, fun _ => k, fun z => by cases z⟩
theorem pe_xfK {X : Cx} {K : PySem.W.Frag} {a C : Addr} {oe : Obj} {cls : Value} {d : Option Addr} {pn : List (Addr × Obj)} {e : Expr} {te : TE} {pos : Pos} {n : Str} (T : XfC X.K C) (hno : PySem.W.findIn X.K (.ref C) n = some none)
    (hz : Zc cls d oe) (hf : ∃ vs, oe.data = .fields vs) (he : PE (X.suite a ((a, oe) :: pn)) e te) (hb : attributeBase e n X.env (eval e X.env) = eval e X.env := by rfl) :
    PE (X.suite a ((a, oe) :: pn)) (.Attribute e n pos) (tXf a cls d C n te) := pe_xf T hno hz hf he hb
def XFLD (a : Addr) (cls : Value) (d : Option Addr) (C : Addr) (f : Str) (Q : VK) (x : V) (H1 : Hp) : Prop := x = .ref a ∧ cls = .ref C ∧ ∃ (dd : Addr) (fs : List (Str × V)) (v : V), d = some dd ∧ H1 dd = some (.xd fs) ∧ fs.lookup f = some v ∧ Q v H1
theorem g_xf {a : Addr} {cls : Value} {d : Option Addr} {C : Addr} {f : Str} {te : TE} {σ : L2.St} {H : Hp} {Q : VK} (k : te σ H (XFLD a cls d C f Q)) : tXf a cls d C f te σ H Q := k
theorem n_xf {a d C : Addr} {f : Str} {v : V} {Q : VK} {H : Hp} (h : H d = some (.xd [(f, v)])) (k : Q v H) : XFLD a (.ref C) (some d) C f Q (.ref a) H := ⟨rfl, rfl, d, [(f, v)], v, rfl, h, by simp [List.lookup], k⟩
theorem nw_tup' {H H' : Hp} {t : Addr} {xs : List V} (e : Ex H H') (h : H' t = some (.tup xs)) : nw H H' t = some (.tup xs) := by
  cases q : H t with
  | none => rw [nw_new q]; exact h
  | some o =>
    have z := e _ _ q
    rw [h] at z
    cases z
    rw [nw_tup q rfl]
    exact h
def OST (K : PySem.W.Frag) (f : Str) (D : Ends) (σ : L2.St) (y x : V) (H2 : Hp) : Prop := ∃ a C : Addr, x = .ref a ∧ OexC K C ∧ PySem.W.findIn K (.ref C) f = some none ∧
  ((H2 a = some (exo a C none) ∧ ∀ dx, H2 dx = none → dx ≠ a → D.nx σ (upd (upd H2 dx (exd dx [(f, y)])) a (exo a C (some dx)))) ∨
    ∃ (dx : Addr) (fs : List (Str × V)), H2 a = some (exo a C (some dx)) ∧ H2 dx = some (exd dx fs) ∧ fs.length ≤ 900 ∧ D.nx σ (upd H2 dx (exd dx ((f, y) :: fs))))
theorem s_ost {K : PySem.W.Frag} {f : Str} {to te : TE} {D : Ends} {σ : L2.St} {H : Hp} (k : te σ H fun y H1 => to σ H1 fun x H2 => OST K f D σ y x H2) : tOst K f to te D σ H := k
end NX

namespace NX
open PySem PySem.Spec PyProof.Rows L2
open Evl (Ex ex_l ex_t fresh_back)
open LamX (CodeO TabS Tabs ExtN TabB LamS lamEnv lamCx lam_make2 lam_start2 run_ofS tLam codeO_ne)
/-! ### any number of makers of lambdas -/
/-- the tables of T, their rows f -/
def tl (T : List (Addr × Str)) (f : Addr → Array Value) : List (Addr × HO) := T.map fun p => (p.1, .tbl (f p.1))
def TabsG (G : Hp) (T : List (Addr × Str)) (f : Addr → Array Value) : Prop := ∀ p ∈ T, TabG G (f p.1) p.2
theorem TabsG.mono {G G' : Hp} {T : List (Addr × Str)} {f : Addr → Array Value} (h : TabsG G T f) (e : Ex G G') : TabsG G' T f := fun p hp => (h p hp).mono e
theorem TabsG.noT {G : Hp} {T : List (Addr × Str)} {f : Addr → Array Value} (h : TabsG G T f) : TabsG (NX.noT G) T f := fun p hp => (h p hp).noT
theorem TabsG.nil (G : Hp) (T : List (Addr × Str)) : TabsG G T fun _ => #[] := fun _ _ => .nil _ _
theorem tl_fst (T : List (Addr × Str)) (f : Addr → Array Value) : (tl T f).map Prod.fst = T.map Prod.fst := by
  unfold tl
  rw [List.map_map] <;> rfl
theorem tl_mem {T : List (Addr × Str)} {f : Addr → Array Value} {x : Addr × HO} (h : x ∈ tl T f) : ∃ p ∈ T, x = (p.1, .tbl (f p.1)) := by
  obtain ⟨p, hp, e⟩ := List.mem_map.mp h
  exact ⟨p, hp, e.symm⟩
theorem tl_in {T : List (Addr × Str)} {f : Addr → Array Value} {p : Addr × Str} (h : p ∈ T) : (p.1, HO.tbl (f p.1)) ∈ tl T f := List.mem_map_of_mem h
theorem Own.comm {G H : Hp} {A B : List (Addr × HO)} (S : Own G (A ++ B) H) : Own G (B ++ A) H := S.perm List.perm_append_comm
theorem tab_u {T : List (Addr × Str)} {P : Addr} {q : Str} (nd : (T.map Prod.fst).Nodup) (h : (P, q) ∈ T) : ∀ p ∈ T, p.1 = P → p.2 = q := by
  induction T with
  | nil => exact fun p hp => nomatch hp
  | cons a T ih =>
    rw [List.map_cons, List.nodup_cons] at nd
    intro p hp e
    rcases List.mem_cons.mp hp with rfl | hp
    · rcases List.mem_cons.mp h with e2 | h
      · rw [← e2]
      · exact absurd (List.mem_map.mpr ⟨_, h, e.symm⟩) nd.1
    · rcases List.mem_cons.mp h with e2 | h
      · refine absurd (List.mem_map.mpr ⟨_, hp, ?_⟩) nd.1
        rw [e, ← e2]
      · exact ih nd.2 h p hp e
theorem n_lamN {TT : (XK → Hp → VK → Prop) → Hp → VK → Prop} {t : XK → TE} {σ : L2.St} {G H : Hp} {L : List (Addr × HO)} {T : List (Addr × Str)} {f : Addr → Array Value} {Q : VK} (S : Own G (L ++ tl T f) H) (tg : TabsG G T f) (hL : ∀ p ∈ L, ∃ xs, p.2 = .lst xs)
    (k : ∀ G1 H1 f1, Ex (noT G) G1 → Own G1 (L ++ tl T f1) H1 → TabsG G1 T f1 → TT (fun E H' Q' => t E σ H' Q') H1 Q) : tLam T TT t σ H Q := by
  refine ⟨fun p hp => ?_, fun H1 eN T1 => ?_⟩
  · exact ⟨f p.1, S.getM (List.mem_append.mpr (.inr (tl_in hp))), (tg p hp).1, fun pos cv hc => let ⟨c, e1, e2⟩ := (tg p hp).2 pos cv hc; ⟨c, e1, S.ex _ _ e2⟩⟩
  · let f1 : Addr → Array Value := fun a => match H1 a with
      | some (.tbl ps) => ps
      | _ => #[]
    have hP1 : ∀ p ∈ T, H1 p.1 = some (.tbl (f1 p.1)) := fun p hp => by
      obtain ⟨ps1, h1, _⟩ := T1 p hp
      show H1 p.1 = some (.tbl (match H1 p.1 with | some (.tbl ps) => ps | _ => #[]))
      rw [h1]
    have hc1 : ∀ p ∈ T, TriplesOk (f1 p.1).toList ∧ ∀ (pos : Pos) (cv : Value), codeAmong pos (f1 p.1).toList = some cv → ∃ c, cv = .ref c ∧ H1 c = some (CodeO c p.2) := fun p hp => by
      obtain ⟨ps1, h1, h2, h3⟩ := T1 p hp
      have e : f1 p.1 = ps1 := by
        have := (hP1 p hp).symm.trans h1
        injection this with this
        injection this
      rw [e]
      exact ⟨h2, h3⟩
    have hLk : ∀ p ∈ L, H1 p.1 = some p.2 := fun p hp => eN _ _ (S.getM (List.mem_append.mpr (.inl hp))) fun qs z => by
      obtain ⟨xs, e⟩ := hL p hp
      rw [e] at z
      cases z
    have hfst : ((L ++ tl T f1).map Prod.fst) = ((L ++ tl T f).map Prod.fst) := by
      rw [List.map_append, List.map_append, tl_fst, tl_fst]
    have out : ∀ c z, H1 c = some (CodeO c z) → c ∉ (L ++ tl T f1).map Prod.fst := fun c z hc m => by
      obtain ⟨p, hp, e⟩ := List.mem_map.mp m
      rcases List.mem_append.mp hp with hp | hp
      · have y := hLk p hp
        obtain ⟨xs, e2⟩ := hL p hp
        rw [e, hc, e2] at y
        unfold CodeO at y
        cases y
      · obtain ⟨r, hr, e2⟩ := tl_mem hp
        have y := hP1 r hr
        rw [e2] at e
        rw [show r.1 = c from e, hc] at y
        unfold CodeO at y
        cases y
    refine k (cut H1 (L ++ tl T f1)) H1 f1 (fun a o h => ?_) ⟨fun a u h => ?_, fun p hp => ⟨cut_in (List.mem_map_of_mem hp), ?_⟩, by rw [hfst]; exact S.nd, fun p hp => ?_⟩ fun p hp => ⟨(hc1 p hp).1, fun pos cv hc => ?_⟩
    · obtain ⟨h1, h2⟩ := of_noT h
      have m : a ∉ (L ++ tl T f1).map Prod.fst := fun m => by
        rw [hfst] at m
        obtain ⟨p, hp, e⟩ := List.mem_map.mp m
        have z := (S.at_ p hp).1
        rw [e, h1] at z
        cases z
      rw [cut_out m]
      exact eN _ _ (S.ex _ _ h1) h2
    · by_cases m : a ∈ (L ++ tl T f1).map Prod.fst
      · rw [cut_in m] at h; cases h
      · rw [cut_out m] at h; exact h
    · rcases List.mem_append.mp hp with hp | hp
      · exact hLk p hp
      · obtain ⟨r, hr, rfl⟩ := tl_mem hp
        exact hP1 r hr
    · rcases List.mem_append.mp hp with hp | hp
      · exact S.nt p (List.mem_append.mpr (.inl hp))
      · obtain ⟨r, hr, rfl⟩ := tl_mem hp
        rfl
    · obtain ⟨c, e1, e2⟩ := (hc1 p hp).2 pos cv hc
      exact ⟨c, e1, by rw [cut_out (out c _ e2)]; exact e2⟩
/-! ### with the guards known -/
def LamDefG (P : Program) (w : World) (K : PySem.W.Frag) (mg : Str → Option Value) (base : Heap) (x a : Str) (TT : (XK → Hp → VK → Prop) → Hp → VK → Prop) : Prop :=
  ∃ (g : Addr) (Ng : List Str) (st : Stmt) (oc kV doc pm cdv ct : Value) (an od : Option Addr) (osl : Array (Option Value)), mg x = some (.ref g) ∧ PySem.W.keepIn K (.ref g) = true ∧ K.lookup g = some ⟨oc, od, .func (PySem.W.fnOf x x (defArgs st) (defBody st) (defScope st) .none kV doc pm an cdv ct), osl⟩ ∧ PySem.W.codeIn K cdv x = true ∧
    L2.Binds K (PySem.W.fnOf x x (defArgs st) (defBody st) (defScope st) .none kV doc pm an cdv ct) [a] [] ∧ FnScope Ng [a] (defScope st) ∧ Ng[0]? = some a ∧ Vis (defScope st) a ∧ ∀ (X : Cx) (q : Str), X.prog = P → X.w = w → X.K = K → X.mg = mg → X.base = base → X.A.guards = some [] → (∀ env, (X.A.deeper env).units + 65 < cLine) → GivesS X Ng x (defScope st) g cdv (defBody st) a q TT
theorem pe_lamG {T : List (Addr × Str)} {TT : (XK → Hp → VK → Prop) → Hp → VK → Prop} {x a : Str} {c P : Addr} {k : Nat} {params : Arguments} {body : Expr} {scope : Scope} {t : XK → TE} {p lpos pos : Pos} {X : Cx} (D : LamDefG X.prog X.w X.K X.mg X.base x a TT) (hGd : X.A.guards = some [])
    (TB : TabB X.base X.mg c P) (hmT : (P, X.env.qual ++ "<lambda>") ∈ T) (hu : ∀ p ∈ T, p.1 = P → p.2 = X.env.qual ++ "<lambda>") (hr : Room (k + 2) X.A)
    (hbody : ∀ (A : Around) (outer : List Env) (s : Shared) (H : Hp) (E : XK) (f c' : Addr), Room k (A.deeper (lamEnv X scope s.heap.objs.size f c')) → PE (lamCx X A outer s H E scope f c') body (t E)) (L : LamS X.env.scope scope) (hcode : X.env.code = .ref c := by rfl)
    (hbind : ∀ (q : Str) (cl : List (Str × Addr)) (pm cv ctv : Value), bindArgs (PySem.W.kla_fn "<lambda>" q params body scope cl pm cv ctv) ⟨[], []⟩ = pure [] := by intros; rfl) (hdef : defaultsOf params X.env = ([], []) := by rfl) (hg : Gl X x := by rfl)
    (hdb : (x == ("__debug__" : Str)) = false := by decide) (hd : (a == ("__debug__" : Str)) = false := by decide) (hcd : (a == ("__classdict__" : Str)) = false := by decide) :
    PE X (.Call (.Name x p) [.Lambda params body scope lpos] [] pos) (tLam T TT t) := by
  obtain ⟨g, Ng, st, oc, kV, doc, pm, cdv, ct, an, od, osl, hm, hk, lk, hcg, hb, Sg, hNg, hva, hG⟩ := D
  refine ⟨fun pins s σ H Q I ⟨hT, h⟩ => ?_⟩
  refine wpAny_Call_Name_kw (ld_glob I hg hm (PySem.W.callWith_K (h₀ := X.base) I.ok.mod.kin hk ?_ (by rfl) (by rfl)) hdb)
  show wpAny _ _ (spliced ((false, eval (.Lambda params body scope lpos) X.env) :: backTo pos (starEach [] X.env))) _ _ s
  have mk := lam_make2 (body := body) (pos := lpos) (E := X.xe) I TB hcode hmT hu hT hdef (L.has I.ok) (Q := fun v s' => ∃ f, v = .ref f ∧ wpAny (model X.prog X.w) X.A (call (.ref g) [.ref f]) (EP X pins σ Q) X.xe s' ∧ X.K.In s'.heap) fun f c' pm' ctv H1 s' I1 eN T1 hf hfn hfr hco => ⟨f, rfl, ?_, I1.kIn⟩
  · refine Calls.spliced_cons (wpAny_mono mk (fun v s' ⟨f, ev, hq, hin⟩ => ?_) fun _ _ z => z)
    subst ev
    exact Calls.spliced_nil ⟨hin, hq⟩
  · have rc : codeAny (model X.prog X.w) X.A (.call (.ref g) ⟨[.ref f], []⟩) (CR CX0 X.stack X.prog X.w H1 s' Q E0) s' :=
      run_ofS (N := Ng) (ps := [a]) (us := [.ref f]) (vs := [.ref f]) lk hcg Sg hr I1.env0 (hb s' [.ref f] I1.kIn rfl) (.cons rfl .nil) rfl fun hr' => by
        obtain ⟨t', ht', hq'⟩ := hG X _ rfl rfl rfl rfl rfl hGd (fun env => by have := (hr.deeper env).un; omega) f c' s' H1 Q (fun E H' Q' => t E σ H' Q') (fun W pn xe p1 p2 tk => pe_actS I1 L hf hfn hfr (hbind _ _ _ _ _) tk hr' (fun E A outer s H hr2 => hbody A outer s H E f c' hr2) hNg hva hd hcd) hco (h H1 eN T1)
        exact ⟨t', ht'.nox, hq'⟩
    refine wpAny_call (codeAny_mono rc fun r s2 hq => ?_)
    cases r with
    | error e => exact (show False from hq).elim
    | ok fl =>
      cases fl with
      | ret u => exact I1.after hq
      | next => exact False.elim hq
      | brk => exact False.elim hq
      | cont => exact False.elim hq
/-! ### a field of a caught exception, its class told by the reading; counting of plain values -/
def tXfA (K : PySem.W.Frag) (a : Addr) (cls : Value) (d : Option Addr) (n : Str) (te : TE) : TE := fun σ H Q => ∃ C, XfC K C ∧ PySem.W.findIn K (.ref C) n = some none ∧ te σ H (XFLD a cls d C n Q)
theorem pe_xfA {X : Cx} {K : PySem.W.Frag} {a : Addr} {oe : Obj} {cls : Value} {d : Option Addr} {pn : List (Addr × Obj)} {e : Expr} {te : TE} {pos : Pos} {n : Str}
    (hz : Zc cls d oe) (hf : ∃ vs, oe.data = .fields vs) (he : PE (X.suite a ((a, oe) :: pn)) e te) (hK : X.K = K := by rfl) (hb : attributeBase e n X.env (eval e X.env) = eval e X.env := by rfl) :
    PE (X.suite a ((a, oe) :: pn)) (.Attribute e n pos) (tXfA K a cls d n te) := by
  subst hK
  exact ⟨fun pins s σ H Q I ⟨C, T, hno, h⟩ => (pe_xf T hno hz hf he hb).run pins s σ H Q I h⟩
theorem g_xfA {K : PySem.W.Frag} {a : Addr} {cls : Value} {d : Option Addr} {C : Addr} {f : Str} {te : TE} {σ : L2.St} {H : Hp} {Q : VK} (T : XfC K C) (hno : PySem.W.findIn K (.ref C) f = some none) (k : te σ H (XFLD a cls d C f Q)) : tXfA K a cls d f te σ H Q := ⟨C, T, hno, k⟩
def rCntV (K : PySem.W.Frag) : V → List V → Hp → VK → Prop := fun x xs H Q => ∃ (p : Addr) (ys : List V) (y : V), x = .ref p ∧ xs = [y] ∧ SqL K H p ys ∧ flatV y = true ∧ ys.all flatV = true ∧ Q (.int (ys.countP fun z => eqV z y : Nat)) H
theorem cnt_eqU {x : V} : ∀ {xs : List V} {us : List Value}, Vals xs us → xs.all flatV = true → us.countP (eqU x) = xs.countP fun y => eqV y x
  | _, _, .nil, _ => rfl
  | _, _, .cons r rs, f => by
    rw [List.all_cons, Bool.and_eq_true] at f
    rw [List.countP_cons, List.countP_cons, cnt_eqU rs f.2, eqU_of r f.1]
theorem mt_countV {X : Cx} {K : PySem.W.Frag} (e : X.K = K := by rfl) : MtR X "list.count" (rCntV K) := by
  subst e
  intro pins s σ H x xs v us Q I rx rxs h
  obtain ⟨a, ys, y, rfl, rfl, hs, fy, fys, q⟩ := h
  cases rx
  obtain ⟨uy, rfl, ry⟩ := rxs.one
  obtain ⟨its, rv, ⟨⟨cls, dd, data, sl⟩, n, ho, hc, hdn, hd⟩, hlen⟩ := I.list hs
  simp only at hc hd
  subst hc hd
  refine call_meets PySem.F.slot_list_count ⟨_, ho, rfl⟩ PySem.F.entry_list_count (PySem.F.args_list_count_2 _ _)
    (SeqAt.list_countAt a its.toArray n dd sl uy (eqU y)) ⟨ho, fun u' hu' => mem_eqAt ry fy rv fys u' (by simpa using hu'), ?_⟩
  have ec : its.toArray.toList.countP (eqU y) = ys.countP fun z => eqV z y := cnt_eqU rv fys
  refine ⟨.int (ys.countP fun z => eqV z y : Nat), H, I.tok _, ⟨s.toks, ?_⟩, q⟩
  show Value.int ((its.toArray.toList.countP (eqU y) : Nat) : Int) s.toks = Value.int ((ys.countP fun z => eqV z y : Nat) : Int) s.toks
  rw [ec]
theorem n_countV {K : PySem.W.Frag} {H : Hp} {p : Addr} {ys : List V} {y : V} {Q : VK} (hs : SqL K H p ys) (fy : flatV y = true) (fys : ys.all flatV = true) (k : Q (.int (ys.countP fun z => eqV z y : Nat)) H) : rCntV K (.ref p) [y] H Q := ⟨p, ys, y, rfl, rfl, hs, fy, fys, k⟩
end NX

namespace NX
open PySem PySem.Spec PyProof.Rows L2
open Evl (Ex ex_l ex_t fresh_back)
/-! ### defs that are called while no repr is under way (Around.guards = some []): promises that hold there -/
structure FnOkG (P : Program) (w : World) (K : PySem.W.Frag) (mg : Str → Option Value) (base : Heap) (k : Nat) (f : Addr) (fd : FuncData) (ps : List Str) (sp : Sp) : Prop where
  len : ∀ vs H Q E, sp vs H Q E → vs.length = ps.length
  run : ∀ (A : Around) (outer : List Env) (s : Shared) (H : Hp) (args : Args) (us : List Value) (vs : List V) (Q : VK) (E : XK), A.guards = some [] → Room k A → Env0 P w K mg base A outer s H → BindsTo s fd args (ps.zip us) → Vals vs us → sp vs H Q E →
    codeAny (model P w) A (.call (.ref f) args) (CR CX0 outer P w H s Q E) s
theorem guards_deeper {A : Around} (env : Env) (h : A.guards = some []) : (A.deeper env).guards = some [] := h
section
variable {P : Program} {w : World} {K : PySem.W.Frag} {mg : Str → Option Value} {base : Heap}
theorem okG0 {x qual : Str} {st : Stmt} {f : Addr} {N ps : List Str} {k : Nat} {sp : Sp} {oc kV doc pm cdv ct : Value} {od an : Option Addr} {osl : Array (Option Value)} (lk : K.lookup f = some ⟨oc, od, .func (PySem.W.fnOf x qual (defArgs st) (defBody st) (defScope st) .none kV doc pm an cdv ct), osl⟩) (hcd : PySem.W.codeIn K cdv qual = true)
    (S : FnScope N ps (defScope st)) (len : ∀ vs H Q E, sp vs H Q E → vs.length = ps.length)
    (hbody : ∀ (A : Around) (outer : List Env) (s : Shared) (H : Hp) (vs : List V) (Q : VK) (E : XK), A.guards = some [] → Room k (A.deeper (envOfC qual (defScope st) s.heap.objs.size f cdv)) → sp vs H Q E →
      ∃ t, PSs (cxOf CX0 P w K mg base N qual (defScope st) f cdv A outer s H E).nox (defBody st) t ∧ t { nx := fun _ H' => Q .non H', rt := Q } (start N vs) H) : FnOkG P w K mg base (k + 1) f (PySem.W.fnOf x qual (defArgs st) (defBody st) (defScope st) .none kV doc pm an cdv ct) ps sp := by
  refine ⟨len, fun A outer s H args us vs Q E hg hr e0 hb r hsp => ?_⟩
  have hl := len _ _ _ _ hsp
  have KX : K.In s.heap := e0.mod.kin.keeps fun b o e => (e0.bs b o e).1
  have lim : s.heap.NoLimit := e0.mod.nolimit.keeps fun b o e => (e0.bs b o e).1
  have hkind : ∀ y ∈ ps.zip us, (defScope st).names.lookup y.1 = some .local ∨ ((defScope st).names.lookup y.1 = some .cell ∧ ((cellsFrom (s.heap.objs.size + 1) (defScope st).names []).lookup y.1).isSome = true) := fun ⟨n, v⟩ hy =>
    (S.par n (List.of_mem_zip hy).1).imp id fun q => ⟨q, PySem.W.cellsFrom_some _ _ _ (.inl q)⟩
  refine codeAny_call_function hr.depth (KX _ _ lk) rfl S.co S.gen rfl (PySem.W.codeRec_of KX hcd) (hb _ _ _ _ ?_)
  refine wpAny_newFunctionEnv_cells S.kind hkind fun env he s1 x => ?_
  subst he
  refine ⟨lim.keeps x.toInCall.keep, codeAny_func ?_⟩
  obtain ⟨t, ht, hq⟩ := hbody A outer s H vs Q E hg (hr.deeper _) hsp
  have I : Inv (cxOf CX0 P w K mg base N qual (defScope st) f cdv A outer s H E) [] (start N vs) H s1 := inv_start S hr.hd e0 hl r x
  refine wpAny_mono (ht.nox.run [] s1 (start N vs) H _ I hq) (fun fl s' hs => ?_) fun e s' hs => hs
  cases fl with
  | ret u => obtain ⟨v, σ', H', J, rv, q⟩ := hs; exact ⟨v, H', J.os, J.bare, J.base, J.hok, rv, q⟩
  | next => obtain ⟨σ', H', J, q⟩ := hs; exact ⟨V.non, H', J.os, J.bare, J.base, J.hok, rfl, q⟩
  | brk => obtain ⟨_, _, _, q⟩ := hs; exact q.elim
  | cont => obtain ⟨_, _, _, q⟩ := hs; exact q.elim
theorem okG {x qual : Str} {st : Stmt} {f : Addr} {fd : FuncData} {N ps : List Str} {k : Nat} {sp : Sp} (F : Fun K x qual st f fd) (S : FnScope N ps (defScope st)) (len : ∀ vs H Q E, sp vs H Q E → vs.length = ps.length)
    (hbody : ∀ (cdv : Value) (A : Around) (outer : List Env) (s : Shared) (H : Hp) (vs : List V) (Q : VK) (E : XK), A.guards = some [] → Room k (A.deeper (envOfC qual (defScope st) s.heap.objs.size f cdv)) → sp vs H Q E →
      ∃ t, PSs (cxOf CX0 P w K mg base N qual (defScope st) f cdv A outer s H E).nox (defBody st) t ∧ t { nx := fun _ H' => Q .non H', rt := Q } (start N vs) H) : FnOkG P w K mg base (k + 1) f fd ps sp := by
  obtain ⟨oc, od, kV, doc, pm, an, cdv, ct, osl, rfl, lk, hcd⟩ := F.ex
  exact okG0 lk hcd S len (hbody cdv)
end
/-- such a def, by its name -/
def CalG (P : Program) (w : World) (K : PySem.W.Frag) (mg : Str → Option Value) (base : Heap) (k : Nat) (x : Str) (ps : List Str) (sp : Sp) : Prop :=
  ∃ (f : Addr) (fd : FuncData), FnOkG P w K mg base k f fd ps sp ∧ mg x = some (.ref f) ∧ PySem.W.keepIn K (.ref f) = true ∧ Binds K fd ps []
theorem pe_calG {X : Cx} {x : Str} {p pos : Pos} {e : Expr} {es : List Expr} {t : TA} {k : Nat} {ps : List Str} {sp : Sp} {E : XK} (C : CalG X.prog X.w X.K X.mg X.base k x ps sp) (hg : X.A.guards = some []) (hr : Room k X.A) (hx : Passes CX0 X E) (ha : PA X (e :: es) t) (hgl : Gl X x := by rfl) (hdb : (x == ("__debug__" : Str)) = false := by decide)
    (he : starEach (e :: es) X.env = (false, eval e X.env) :: starEach es X.env := by rfl) (hpl : (backTo pos (starEach es X.env)).any (·.1) = false := by rfl) : PE X (.Call (.Name x p) (e :: es) [] pos) (tCal sp E t) := by
  obtain ⟨f, fd, F, hm, hk, hb⟩ := C
  refine ⟨fun pins s σ H Q I h => ?_⟩
  refine wpAny_Call_Name_kw (ld_glob I hgl hm ?_ hdb)
  refine PySem.W.callWith_K (h₀ := X.base) I.ok.mod.kin hk (thn (ha.run pos pins s σ H _ I h) fun us s1 ⟨vs, H1, I1, r, q⟩ => ⟨I1.kIn, ?_⟩) he hpl
  have hl : us.length = ps.length := by rw [← r.length]; exact F.len _ _ _ _ q
  have hbs := hb s1 us I1.kIn (by rw [List.append_nil]; exact hl)
  rw [List.append_nil] at hbs
  refine wpAny_call (codeAny_mono (F.run X.A X.stack s1 H1 ⟨us, []⟩ us vs Q E hg hr I1.env0 hbs r q) fun r s' hq => ?_)
  cases r with
  | error e => exact hx pins σ H1 s1 e s' I1 hq
  | ok fl =>
    cases fl with
    | ret u => exact I1.after hq
    | next => exact hq.elim
    | brk => exact hq.elim
    | cont => exact hq.elim
/-! ### repr(x), x data -/
def rReprD (K : PySem.W.Frag) : List V → Hp → VK → Prop := fun xs H Q => ∃ (a : Addr) (d : PyData), xs = [V.ref a] ∧ Dp K H (.ref a) d ∧ d.showable = true ∧ d.hasDict = false ∧ d.depth ≤ 10 ∧ d.shown.length ≤ sizeLine ∧ Q (.str d.shown) H
theorem cr_reprD {X : Cx} (hg : X.A.guards = some []) (hu : X.A.units + 65 < cLine) : CallR X (.builtin "repr") (rReprD X.K) := by
  intro pins s σ H xs us Q I r h
  obtain ⟨a, d, rfl, hd, hs, hdi, hdp, hz, q⟩ := h
  obtain ⟨u, rfl, rx⟩ := r.one
  obtain rfl : u = Value.ref a := rx
  obtain ⟨as, rd⟩ := Dp.reads I d (.ref a) (.ref a) hd rfl
  refine repr_of_reads' rd hs (fun e => by rw [hdi] at e; cases e) hg (by omega) (fun _ _ e => e) (fun h' u tk hk => ?_) hz
  exact ⟨.str d.shown, H, I.kept (t' := tk) hk, ⟨u, rfl⟩, q⟩
/-- the promise of a law, at the call that the row asks for -/
theorem law_callG {P : Program} {w : World} {K : PySem.W.Frag} {mg mb : Str → Option Value} {k : Nat} {fa a : Addr} {fd : FuncData} {x : Str} {sp : Sp} {s₁ : Shared} {vs : List Value} {ns : List Int}
    (KX : K.In s₁.heap) (hns : s₁.heap.Ns mainGlobals mg) (hb : s₁.heap.Ns builtinsNs mb) (hbb : ∀ x : Str, x ≠ "__name__" → mb x = bootBuiltins x) (hlim : s₁.heap.NoLimit) (hg : s₁.gens = #[])
    (ha : s₁.heap.get? a = some { cls := .type "list", data := .seq vs.toArray }) (hi : IntsAre vs ns) (hl : ns.length ≤ sizeLine) (hr : Room k callerA)
    (F : ∀ base : Heap, K.In base → base.Ns mainGlobals mg → FnOkG P w K mg base k fa fd [x] sp) (hbind : ∀ (s : Shared) (u : Value), BindsTo s fd ⟨[u], []⟩ [(x, u)])
    (hsp : ∀ H : Hp, SqL K H a (ns.map V.int) → sp [.ref a] H (fun v _ => v = .bl true) fun _ _ _ => False) :
    codeAny (model P w) callerA (.call (.ref fa) ⟨[.ref a], []⟩) (fun r s' => r = .ok (.ret (.bool true)) ∧ OldK s₁.heap s'.heap ∧ s'.os = s₁.os ∧ AllBare s'.gens) s₁ := by
  have rv := vals_ints hi
  have core : ∀ H : Hp, (∀ b, H b = none ∨ b = a ∧ ∃ o u, H b = some (.frz o u)) → SqL K H a (ns.map V.int) → HOk P w H s₁.heap → (H a ≠ none → K.lookup a = none) →
      codeAny (model P w) callerA (.call (.ref fa) ⟨[.ref a], []⟩) (fun r s' => r = .ok (.ret (.bool true)) ∧ OldK s₁.heap s'.heap ∧ s'.os = s₁.os ∧ AllBare s'.gens) s₁ := by
    intro H hO hS hok hK
    have noA : ∀ {b : Addr} {o : Obj} {es : Array DictEntry} {ep : Nat}, s₁.heap.get? b = some o → o.data = .dict es ep → H b = none := fun {b o es ep} e d => by
      rcases hO b with z | ⟨rfl, _⟩
      · exact z
      · rw [ha] at e; cases e; cases (show Data.seq vs.toArray _ = Data.dict es ep from d)
    have nsK : ∀ {b : Addr} {m : Str → Option Value}, s₁.heap.Ns b m → (hidT s₁.heap H).Ns b m := fun {b m} ⟨o, es, ep, e, d, r⟩ => ⟨o, es, ep, hidT_get e (noA e d), d, r⟩
    have hKb : K.In (hidT s₁.heap H) := fun b o e => hidT_get (KX b o e) (by
      rcases hO b with z | ⟨rfl, _, _, z⟩
      · exact z
      · rw [hK (by rw [z]; simp)] at e; cases e)
    have hM : Mod K mg (hidT s₁.heap H) := ⟨hKb, nsK hns, ⟨mb, nsK hb, hbb⟩, let ⟨mc, h1, h2⟩ := hlim; ⟨mc, nsK h1, h2⟩⟩
    have e0 : Env0 P w K mg (hidT s₁.heap H) callerA [] s₁ H := ⟨rfl, hM, fun b o e => of_hidT e, Nat.le_of_eq (hidT_size _ _), trivial, fun b hb => absurd (show b ∈ ([] : List Addr) from hb) (by simp), hok, .of_eq hg⟩
    refine codeAny_mono ((F _ hKb (nsK hns)).run callerA [] s₁ H ⟨[.ref a], []⟩ [.ref a] [.ref a] _ _ rfl hr e0 (hbind s₁ (.ref a)) (.cons rfl .nil) (hsp H hS)) fun r s' h => ?_
    cases r with
    | error e => exact False.elim h
    | ok fl =>
      cases fl with
      | next => exact False.elim h
      | brk => exact False.elim h
      | cont => exact False.elim h
      | ret u =>
        obtain ⟨v, H', os, bare, un, hok', r', q⟩ := h
        obtain rfl : v = .bl true := q
        obtain rfl : u = Value.bool true := r'
        refine ⟨rfl, OldK.of_keep fun b o e => ?_, os, bare⟩
        rcases hO b with z | ⟨_, ob, xs, z⟩
        · exact un.keep b o e z (by intro z; exact absurd (show b ∈ ([] : List Addr) from z) (by simp)) (by simp)
        · obtain ⟨e1, _⟩ := hok b _ z
          obtain ⟨e2, _⟩ := hok' b _ (un.frzs b ob _ z)
          rw [e] at e1; cases e1
          exact e2
  cases hk : K.lookup a with
  | some o =>
    have e := KX a o hk
    rw [ha] at e
    cases e
    exact core (fun _ => none) (fun _ => .inl rfl) (.inr ⟨_, vs.toArray, _, hk, rfl, rfl, rfl, by rw [List.size_toArray, hi.length]; exact hl, by simpa using rv⟩) (fun b u z => by cases (show (none : Option HO) = some u from z)) fun z => absurd rfl z
  | none =>
    refine core (fun b => if b = a then some (.frz { cls := .type "list", data := .seq vs.toArray } (.lst (ns.map V.int))) else none) (fun b => ?_) (.inl (.inr ⟨{ cls := .type "list", data := .seq vs.toArray }, if_pos rfl⟩)) (fun b u z => ?_) fun _ => hk
    · by_cases hb : b = a
      · exact .inr ⟨hb, _, _, if_pos hb⟩
      · exact .inl (if_neg hb)
    · by_cases hb : b = a
      · have z' := (if_pos hb).symm.trans z
        cases z'
        subst hb
        exact ⟨ha, by rw [List.length_map]; exact hl, vs, _, rv, ha⟩
      · have z' := (if_neg hb).symm.trans z
        cases z'
theorem walkG {l : PySem.W.OpenLaw} {q : Program} {loose : List Str} {XP : (Str → Option Value) → Heap → Prop} {YP : World → Heap → Prop} {d : DefRec} {K : Params → PySem.W.Frag} {k : Nat} (hn : l.most = some 63) (hdf : d.params.defaults = []) (hr : Room k callerA)
    (hY : ∀ (w : World) (h : Heap), YP w h → (K w.params).In h) {sp : PySem.W.Frag → Sp}
    (F : ∀ (w : World) (mg : Str → Option Value) (fa : Addr) (h : Heap), (K w.params).In h → h.Ns mainGlobals mg → mg d.name = some (.ref fa) →
      ∃ fd : FuncData, (∀ (s : Shared) (u : Value), BindsTo s fd ⟨[u], []⟩ [("_law_script", u)]) ∧ ∀ base : Heap, (K w.params).In base → base.Ns mainGlobals mg → FnOkG l.prog w (K w.params) mg base k fa fd ["_law_script"] (sp (K w.params)))
    (hsp : ∀ (K : PySem.W.Frag) (H : Hp) (a : Addr) (ns : List Int), ns.length ≤ 63 → SqL K H a (ns.map V.int) → sp K [.ref a] H (fun v _ => v = .bl true) fun _ _ _ => False) :
    PySem.W.WalkO q loose XP YP l.row.toRowW d [] (fun f vs => PySem.call f vs) := by
  refine Att.attach_call hn hdf fun w s₀ s₁ mg mb fa o pm cd doc a vs ns G Y ho hd hcd hmg hobj hints hlen hg => ?_
  have KX := hY w _ Y
  obtain ⟨fd, hb, hF⟩ := F w mg fa _ KX G.T.g hmg
  exact law_callG KX G.T.g G.T.b G.T.builtins G.T.nolimit hg hobj hints (Nat.le_trans hlen (by decide)) hr hF hb fun H hS => hsp (K w.params) H a ns hlen hS
theorem n_neSame {H : Hp} {t : Str} {Q : VK} (k : Q (.bl false) H) : rNe (.str t) (.str t) H Q := ⟨rfl, by rw [decide_eq_true rfl]; exact k⟩
end NX

namespace NX
open PySem PySem.Spec PyProof.Rows L2
open Evl (Ex ex_l ex_t fresh_back)
/-! ### repr of values of any kind -/
inductive ShV (K : PySem.W.Frag) (H : Hp) : V → Str → Prop
  | non : ShV K H .non "None"
  | bl (b : Bool) : ShV K H (.bl b) (if b then "True" else "False")
  | int (i : Int) : i.natAbs.log2 < 1920 → ShV K H (.int i) (toString i)
  | str (x : Str) : (reprText x).length ≤ sizeLine → ShV K H (.str x) (reprText x)
  | dat {a : Addr} (d : PyData) : Dp K H (.ref a) d → d.showable = true → d.hasDict = false → d.depth ≤ 10 → d.shown.length ≤ sizeLine → ShV K H (.ref a) d.shown
  | dct {a : Addr} : H a = some (.dT []) → ShV K H (.ref a) "{}"
def rReprV (K : PySem.W.Frag) : List V → Hp → VK → Prop := fun xs H Q => ∃ (v : V) (t : Str), xs = [v] ∧ ShV K H v t ∧ Q (.str t) H
theorem n_reprV {K : PySem.W.Frag} {H : Hp} {v : V} {t : Str} {Q : VK} (h : ShV K H v t) (k : Q (.str t) H) : rReprV K [v] H Q := ⟨v, t, rfl, h, k⟩
theorem cr_reprV {X : Cx} {K : PySem.W.Frag} (hg : X.A.guards = some []) (hu : X.A.units + 65 < cLine) (e : X.K = K := by rfl) : CallR X (.builtin "repr") (rReprV K) := by
  subst e
  intro pins s σ H xs us Q I r h
  obtain ⟨v, t, rfl, hs, q⟩ := h
  obtain ⟨u, rfl, rx⟩ := r.one
  cases hs with
  | non =>
    cases (show u = Value.none from rx)
    exact PySem.P.repr_of_none ⟨.str _, H, I.tok _, ⟨_, rfl⟩, q⟩
  | bl b =>
    cases (show u = Value.bool b from rx)
    exact PySem.P.repr_of_bool ⟨.str _, H, I.tok _, ⟨_, rfl⟩, q⟩
  | int i hz =>
    obtain ⟨k, rfl⟩ := (show ∃ k, u = Value.int i k from rx)
    exact PySem.P.repr_of_int hz ⟨.str _, H, I.tok _, ⟨_, rfl⟩, q⟩
  | str x hz =>
    obtain ⟨k, rfl⟩ := (show ∃ k, u = Value.str x k from rx)
    exact PySem.P.repr_of_str ⟨.str _, H, I.tok _, ⟨_, rfl⟩, q⟩ hz
  | @dat a d hd hsh hdi hdp hz =>
    obtain rfl : u = Value.ref a := rx
    obtain ⟨as, rd⟩ := Dp.reads I d (.ref a) (.ref a) hd rfl
    refine repr_of_reads' rd hsh (fun e => by rw [hdi] at e; cases e) hg (by omega) (fun _ _ e => e) (fun h' u tk hk => ?_) hz
    exact ⟨.str d.shown, H, I.kept (t' := tk) hk, ⟨u, rfl⟩, q⟩
  | @dct a ha =>
    obtain rfl : u = Value.ref a := rx
    obtain ⟨z, hd, xs, r0, dd⟩ := dt_of I.hok ha
    cases r0
    obtain ⟨o, es, ep, h1, h2, h3, h4, _, h5⟩ := dd
    have z : es.toList = [] := h4
    have dp : PyData.depth (.dict []) ≤ 10 := by decide +kernel
    refine repr_of_reads' (d := .dict []) (as := [a] ++ []) (.dict h1 h2.1 h3 (by rw [z]; exact .nil) (by rw [z]; exact .nil)) (by decide +kernel) (fun _ m => ?_) hg (by omega) (fun _ _ e => e) (fun h' u tk hk => ?_) (by decide +kernel)
    · rcases List.mem_singleton.mp m with rfl
      exact absurd hd (by decide)
    · exact ⟨.str "{}", H, I.kept (t' := tk) hk, ⟨u, rfl⟩, q⟩
/-! ### range(n) as a value; x not in it -/
def rRng1 : List V → Hp → VK → Prop := fun xs H Q => ∃ j : Int, xs = [.int j] ∧ ∀ p, H p = none → Q (.ref p) (upd H p (.rng 0 j))
theorem cr_range1 {X : Cx} : CallR X (.type "range") rRng1 := by
  intro pins s σ H vs us Q I r h
  obtain ⟨j, rfl, q⟩ := h
  obtain ⟨u, rfl, ru⟩ := vals1 r
  obtain ⟨t, rfl⟩ := (show ∃ t, u = Value.int j t from ru)
  refine call_range_1 ⟨.ref s.heap.objs.size, upd H s.heap.objs.size (.rng 0 j), I.laid (t' := _) (fun b o e => Heap.get?_push_of_some _ e) (Nat.le_refl _) ?_, rfl, q _ (I.hok.fresh (Nat.le_refl _))⟩
  exact ⟨_, _, _, Heap.get?_push_size _ rfl⟩
def rNotRng : R2 := fun x y H Q => ∃ i a lo hi, x = V.int i ∧ y = V.ref a ∧ H a = some (.rng lo hi) ∧ Q (.bl (!decide (lo ≤ i ∧ i < hi))) H
theorem op_notRng {X : Cx} : OpR X (compareOp .NotIn) rNotRng := by
  intro pins s σ H x y v u Q I rx ry h
  obtain ⟨i, a, lo, hi, rfl, rfl, ha, q⟩ := h
  obtain ⟨k, rfl⟩ := rx
  obtain rfl : u = Value.ref a := ry
  obtain ⟨t1, t2, t3, ho⟩ := I.hok a _ ha
  refine SeqRoads2.notIn_meets ⟨_, ho, rfl⟩ F.slot_range_contains F.entry_range_contains (F.args_range_contains_2 _ _) (q_contains a lo hi i t1 t2 t3 k) ⟨ho, _, rfl, ⟨.bl _, H, I, rfl, ?_⟩⟩
  rw [place1]
  exact q
theorem n_rng {G H : Hp} {L : List (Addr × HO)} {j : Int} {Q : VK} (S : Own G L H) (k : ∀ p G1 H1, Ex G G1 → G1 p = some (.rng 0 j) → Own G1 L H1 → Q (.ref p) H1) : rRng1 [.int j] H Q :=
  ⟨j, rfl, fun p hp => k p _ _ (S.still hp).2.1 (S.still hp).2.2 (S.still hp).1⟩
theorem n_notRng {H : Hp} {p : Addr} {i lo hi : Int} {Q : VK} (h : H p = some (.rng lo hi)) (k : Q (.bl (!decide (lo ≤ i ∧ i < hi))) H) : rNotRng (.int i) (.ref p) H Q := ⟨i, p, lo, hi, rfl, rfl, h, k⟩
theorem ShV.mono {K : PySem.W.Frag} {G H : Hp} (e : Ex G H) {v : V} {t : Str} (h : ShV K G v t) (m : ∀ d, Dp K G v d → Dp K H v d) : ShV K H v t := by
  cases h with
  | non => exact .non
  | bl b => exact .bl b
  | int i h => exact .int i h
  | str x h => exact .str x h
  | dat d h1 h2 h3 h4 h5 => exact .dat d (m d h1) h2 h3 h4 h5
  | dct h => exact .dct (e _ _ h)
mutual
theorem dp_mono {K : PySem.W.Frag} {G H : Hp} (e : Ex G H) : ∀ (d : PyData) (v : V), Dp K G v d → Dp K H v d
  | .none, _, .non => .non
  | .bool _, _, .bl b => .bl b
  | .int _, _, .int i => .int i
  | .str _, _, .str x => .str x
  | .list ds, _, .lst h1 h2 => .lst (ex_l e h1) (dp_monoA e ds _ h2)
  | .tuple ds, _, .tup h1 h2 => .tup (ex_t e h1) (dp_monoA e ds _ h2)
theorem dp_monoA {K : PySem.W.Frag} {G H : Hp} (e : Ex G H) : ∀ (ds : List PyData) (vs : List V), DpAll K G vs ds → DpAll K H vs ds
  | [], _, .nil => .nil
  | d :: ds, _, .cons h1 h2 => .cons (dp_mono e d _ h1) (dp_monoA e ds _ h2)
end
end NX

local macro_rules | `(tactic| walk_at "go1") => `(tactic| first
  | with_reducible refine NX.s_seq ?_
  | with_reducible refine NX.s_asg ?_
  | with_reducible refine NX.s_name ?_
  | with_reducible refine NX.s_ret ?_
  | with_reducible refine NX.s_if ?_
  | with_reducible refine NX.s_next ?_
  | with_reducible refine NX.s_drop ?_
  | with_reducible refine NX.s_brk ?_
  | with_reducible refine NX.s_cont ?_
  | with_reducible refine NX.s_par ?_
  | with_reducible refine NX.s_two ?_
  | with_reducible refine NX.s_sub ?_
  | with_reducible refine NX.s_gcons ?_
  | with_reducible refine NX.s_gnil ?_
  | with_reducible refine NX.g_c ?_
  | ((with_reducible refine' NX.g_var ?gv ?gk); (case gv => exact rfl))
  | with_reducible refine NX.g_op ?_
  | with_reducible refine NX.g_un ?_
  | with_reducible refine NX.g_U ?_
  | with_reducible refine NX.g_I0 ?_
  | with_reducible refine NX.g_cb ?_
  | with_reducible refine NX.g_call ?_
  | with_reducible refine NX.g_cal ?_
  | with_reducible refine NX.g_calN ?_
  | with_reducible refine NX.g_nil ?_
  | with_reducible refine NX.g_cons ?_
  | with_reducible refine NX.g_test ?_
  | with_reducible refine NX.g_B ?_
  | with_reducible refine NX.g_bl ?_
  | with_reducible refine NX.g_exV ?_
  | with_reducible refine NX.g_exI ?_
  | with_reducible refine NX.g_and ?_
  | with_reducible refine NX.g_or ?_
  | with_reducible refine NX.g_not ?_
  | with_reducible refine NX.g_andV ?_
  | with_reducible refine NX.g_orV ?_
  | with_reducible refine NX.g_notV ?_
  | with_reducible refine NX.g_if ?_
  | with_reducible refine NX.g_chain ?_
  | with_reducible refine NX.g_chain3 ?_
  | with_reducible refine NX.g_tup ?_
  | with_reducible refine NX.g_lst ?_
  | with_reducible refine NX.g_sl ?_
  | with_reducible refine NX.g_noPart ?_
  | with_reducible refine NX.g_part ?_
  | with_reducible refine NX.g_bm ?_
  | with_reducible refine NX.g_bm0 ?_
  | with_reducible refine NX.g_eqI ?_
  | with_reducible refine NX.g_neI ?_
  | with_reducible refine NX.g_eqB ?_
  | with_reducible refine NX.g_neB ?_
  | with_reducible refine NX.s_ipI ?_
  | ((with_reducible refine' NX.s_aug ?gv ?gk); (case gv => exact rfl))
  | with_reducible refine NX.s_for ?_
  | with_reducible refine NX.g_lc ?_
  | with_reducible refine NX.g_iList ?_
  | with_reducible refine NX.g_iTup ?_
  | with_reducible refine NX.g_iRng1 ?_
  | with_reducible refine NX.g_iRng2 ?_
  | with_reducible refine NX.g_iEnum ?_
  | with_reducible refine NX.g_yes ?_
  | with_reducible refine NX.n_int ?_
  | with_reducible refine NX.n_intB ?_
  | with_reducible refine NX.n_min ?_
  | with_reducible refine NX.n_max ?_
  | with_reducible refine NX.n_isN ?_
  | with_reducible refine NX.n_notN ?_
  | with_reducible refine NX.g_lrg ?_
  | with_reducible refine NX.g_rg1 ?_
  | with_reducible refine NX.g_rg2 ?_
  | with_reducible refine NX.g_ex2I ?_
  | with_reducible refine NX.g_mth ?_
  | with_reducible refine NX.g_new ?_
  | with_reducible refine NX.g_fld ?_
  | with_reducible refine NX.s_fld ?_
  | with_reducible refine NX.if_nt ?_
  | with_reducible refine NX.if_nf ?_
  | with_reducible refine L2.iteT ?_
  | with_reducible refine L2.iteF ?_)
local macro_rules | `(tactic| walk_at "go") => `(tactic| repeat (walk_at "go1"))

/-! the text by places -/
namespace NX
open PySem PySem.Spec PyProof.Rows L2
def top (i : Nat) : Stmt := PySem.Challenge.pw_nextchannel_k46_invalid_questions_of_sea.main.body.getD i (.Pass ⟨0, 0, 0, 0⟩)
/-- what the top leaves of built-ins and constants -/
structure Txt (mg : Str → Option Value) : Prop where
  n_ValueError : mg "ValueError" = none
  n_all : mg "all" = none
  n_bool : mg "bool" = none
  n_enumerate : mg "enumerate" = none
  n_int : mg "int" = none
  n_isinstance : mg "isinstance" = none
  n_len : mg "len" = none
  n_list : mg "list" = none
  n_max : mg "max" = none
  n_min : mg "min" = none
  n_range : mg "range" = none
  n_repr : mg "repr" = none
  n_set : mg "set" = none
  n_sorted : mg "sorted" = none
  n_tuple : mg "tuple" = none
  m_MAX_STATIONS : ∃ t, mg "MAX_STATIONS" = some (.int 60 t)
  m_MOST_LOW : ∃ t, mg "MOST_LOW" = some (.int 5 t)
end NX

namespace NX
open PySem PySem.Spec PyProof.Rows L2
open Evl (Ex ex_l ex_t fresh_back)
abbrev s_is_int : Stmt := top 12
theorem sc_is_int : FnScope ["value"] ["value"] (defScope s_is_int) := ⟨rfl, rfl, rfl, by decide +kernel, rfl, by decide +kernel, by decide +kernel⟩
/-- the types of the values that the law hands around -/
def okTy (t : String) : Bool := t == "int" || t == "bool" || t == "str" || t == "NoneType" || t == "list" || t == "tuple" || t == "dict"
/-- x is of the built-in type t -/
def IsT (K : PySem.W.Frag) (H : Hp) (x : V) (t : String) : Prop := TyX K H x (.type t) ∧ okTy t = true
theorem IsT.int {K : PySem.W.Frag} {H : Hp} {i : Int} : IsT K H (.int i) "int" := ⟨.base (.int i), by decide +kernel⟩
/-- is_int(x): whether x is an int and no bool -/
def spIsInt (K : PySem.W.Frag) : Sp := fun vs H Q _ => ∃ x t, vs = [x] ∧ IsT K H x t ∧ Q (.bl (t == "int")) H
theorem g_isint {K : PySem.W.Frag} {H : Hp} {Q : VK} {E : XK} {i : Int} (k : Q (.bl true) H) : spIsInt K [.int i] H Q E := ⟨_, _, rfl, IsT.int, k⟩
theorem kit_int {t : String} (h : okTy t = true) : kitB t "int" = some (t == "int" || t == "bool") ∧ kitB t "bool" = some (t == "bool") ∧ kitB t "tuple" = some (t == "tuple") ∧ kitB t "list" = some (t == "list") := by
  unfold okTy at h
  simp only [Bool.or_eq_true, beq_iff_eq] at h
  rcases h with (((((h | h) | h) | h) | h) | h) | h <;> subst h <;> exact ⟨by decide +kernel, by decide +kernel, by decide +kernel, by decide +kernel⟩
section
variable {P : Program} {w : World} {K : PySem.W.Frag} {mg : Str → Option Value} {base : Heap}
theorem ok_is_int {f : Addr} {fd : FuncData} (F : Fun K "is_int" "is_int" s_is_int f fd) (T : Txt mg) : FnOk P w K mg base CX0 1 f fd ["value"] (spIsInt K) := by
  refine F.ok sc_is_int (fun vs H Q E h => ?_) (fun cdv A outer s H vs Q E hr h => ?_)
  · obtain ⟨x, t, rfl, _⟩ := h
    rfl
  · obtain ⟨x, t, rfl, ⟨ty, ok⟩, k⟩ := h
    obtain ⟨k1, k2, _, _⟩ := kit_int ok
    refine ⟨_, (pss_one (ps_ret (pe_and (pe_callB call_isi (by rfl) T.n_isinstance (by decide +kernel) (pa_cons (pv 0) (pa_cons (pe_bltn (v := .ty "int") (by rfl) T.n_int (by decide +kernel) rfl) pa_nil))) (pe_one (pe_not (pe_callB call_isi (by rfl) T.n_isinstance (by decide +kernel) (pa_cons (pv 0) (pa_cons (pe_bltn (v := .ty "bool") (by rfl) T.n_bool (by decide +kernel) rfl) pa_nil)))))))), ?_⟩
    walk_at "go"
    refine ⟨x, _, _, _, _, rfl, .ty _, ty, kit_ty k1, ?_⟩
    walk_at "go"
    by_cases c : t = "int"
    · subst c
      refine iteT ?_
      walk_at "go"
      refine ⟨x, _, _, _, _, rfl, .ty _, ty, kit_ty k2, ?_⟩
      walk_at "go"
      exact k
    · by_cases c2 : t = "bool"
      · subst c2
        refine iteT ?_
        walk_at "go"
        refine ⟨x, _, _, _, _, rfl, .ty _, ty, kit_ty k2, ?_⟩
        walk_at "go"
        exact k
      · have e : (t == "int" || t == "bool") = false := by simp [c, c2]
        have e2 : (t == "int") = false := by simp [c]
        rw [e]
        refine iteF ?_
        rw [e2] at k
        exact k
end
end NX

namespace NX
open PySem PySem.Spec PyProof.Rows L2
open Evl (Ex ex_l ex_t fresh_back)
/-- the class at CL is raised with v as its field f -/
def Thr (E : XK) (CL : Addr) (f : Str) (v : V) (H : Hp) : Prop := ∀ d H', Ex H H' → H' d = some (.xd [(f, v)]) → E (.ref CL) (some d) H'
theorem Thr.mono {E : XK} {CL : Addr} {f : Str} {v : V} {H H1 : Hp} (h : Thr E CL f v H) (e : Ex H H1) : Thr E CL f v H1 := fun d H' e' => h d H' (e.trans e')
end NX

namespace NX
open PySem PySem.Spec PyProof.Rows L2
open Evl (Ex ex_l ex_t fresh_back)
abbrev s_NoNetwork___init__ : Stmt := inClass (top 2) 0
theorem sc_NoNetwork___init__ : FnScope ["self", "index"] ["self", "index"] (defScope s_NoNetwork___init__) := ⟨rfl, rfl, rfl, by decide +kernel, rfl, by decide +kernel, by decide +kernel⟩
theorem ok_ini_NoNetwork {P : Program} {w : World} {K : PySem.W.Frag} {mg : Str → Option Value} {base : Heap} {CL C0 : Addr} {f : Addr} {fd : FuncData} (F : Fun K "__init__" "NoNetwork.__init__" s_NoNetwork___init__ f fd) (m_ChannelError : mg "ChannelError" = some (.ref C0)) (BC : BaseC K C0) (hno : PySem.W.findIn K (.ref CL) "index" = some none) : FnOk P w K mg base CX0 1 f fd ["self", "index"] (spExInit K CL "index") := by
  refine F.ok sc_NoNetwork___init__ (fun vs H Q E h => ?_) (fun cdv A outer s H vs Q E hr h => ?_)
  · obtain ⟨a, v, rfl, _⟩ := h
    rfl
  · obtain ⟨a, v, rfl, ha, T, k⟩ := h
    refine ⟨_, (pss_cons (ps_expr (pe_oeinit (K := K) m_ChannelError BC (pa_cons (pv 0) (pa_cons pe_str pa_nil))))
      (pss_one (ps_ost (pv 0) (pv 1) rfl))), ?_⟩
    walk_at "go"
    refine n_vei ?_
    walk_at "go"
    refine ⟨a, CL, _, rfl, by simp, T, ha, ?_⟩
    refine s_ost ?_
    walk_at "go"
    exact ⟨a, CL, rfl, T, hno, .inl ⟨ha, fun dx h1 h2 => k dx h1 h2⟩⟩
end NX

namespace NX
open PySem PySem.Spec PyProof.Rows L2
open Evl (Ex ex_l ex_t fresh_back)
/-- a value of an odd kind -/
inductive OddV (G : Hp) : V → String → Prop where
  | non : OddV G .non "NoneType"
  | bl (b : Bool) : OddV G (.bl b) "bool"
  | str (s : Str) : OddV G (.str s) "str"
  | int (i : Int) : OddV G (.int i) "int"
  | lst {a : Addr} {xs : List V} (h : G a = some (.lst xs)) : OddV G (.ref a) "list"
  | tup {a : Addr} {xs : List V} (h : G a = some (.tup xs)) : OddV G (.ref a) "tuple"
  | dct {a : Addr} {kvs : List (List L2.Key × V)} (h : G a = some (.dT kvs)) : OddV G (.ref a) "dict"
theorem OddV.mono {G H : Hp} {v : V} {t : String} (h : OddV G v t) (e : Ex G H) : OddV H v t := by
  cases h with
  | non => exact .non
  | bl b => exact .bl b
  | str s => exact .str s
  | int i => exact .int i
  | lst h => exact .lst (e _ _ h)
  | tup h => exact .tup (e _ _ h)
  | dct h => exact .dct (e _ _ h)
theorem OddV.isT {K : PySem.W.Frag} {G : Hp} {v : V} {t : String} (h : OddV G v t) : IsT K G v t := by
  cases h with
  | non => exact ⟨.base .non, by decide +kernel⟩
  | bl b => exact ⟨.base (.bl b), by decide +kernel⟩
  | str s => exact ⟨.base (.str s), by decide +kernel⟩
  | int i => exact ⟨.base (.int i), by decide +kernel⟩
  | lst h => exact ⟨.base (.lst h), by decide +kernel⟩
  | tup h => exact ⟨.base (.tup h), by decide +kernel⟩
  | dct h => exact ⟨.base (.dT h), by decide +kernel⟩
theorem IsT.mono {K : PySem.W.Frag} {H : Hp} {v : V} {t : String} (h : IsT K H v t) : okTy t = true := h.2
/-- no int from lo to hi -/
def NoIn (lo hi : Int) (v : V) (t : String) : Prop := t = "int" → ∃ i, v = .int i ∧ ¬ (lo ≤ i ∧ i ≤ hi)
end NX

namespace NX
open PySem PySem.Spec PyProof.Rows L2
open Evl (Ex ex_l ex_t fresh_back)
abbrev s_NoChannel___init__ : Stmt := inClass (top 5) 0
theorem sc_NoChannel___init__ : FnScope ["self", "channel"] ["self", "channel"] (defScope s_NoChannel___init__) := ⟨rfl, rfl, rfl, by decide +kernel, rfl, by decide +kernel, by decide +kernel⟩
theorem ok_ini_NoChannel {P : Program} {w : World} {K : PySem.W.Frag} {mg : Str → Option Value} {base : Heap} {CL C0 : Addr} {f : Addr} {fd : FuncData} (F : Fun K "__init__" "NoChannel.__init__" s_NoChannel___init__ f fd) (m_ChannelError : mg "ChannelError" = some (.ref C0)) (BC : BaseC K C0) (hno : PySem.W.findIn K (.ref CL) "channel" = some none) : FnOk P w K mg base CX0 1 f fd ["self", "channel"] (spExInit K CL "channel") := by
  refine F.ok sc_NoChannel___init__ (fun vs H Q E h => ?_) (fun cdv A outer s H vs Q E hr h => ?_)
  · obtain ⟨a, v, rfl, _⟩ := h
    rfl
  · obtain ⟨a, v, rfl, ha, T, k⟩ := h
    refine ⟨_, (pss_cons (ps_expr (pe_oeinit (K := K) m_ChannelError BC (pa_cons (pv 0) (pa_cons pe_str pa_nil))))
      (pss_one (ps_ost (pv 0) (pv 1) rfl))), ?_⟩
    walk_at "go"
    refine n_vei ?_
    walk_at "go"
    refine ⟨a, CL, _, rfl, by simp, T, ha, ?_⟩
    refine s_ost ?_
    walk_at "go"
    exact ⟨a, CL, rfl, T, hno, .inl ⟨ha, fun dx h1 h2 => k dx h1 h2⟩⟩
end NX

namespace NX
open PySem PySem.Spec PyProof.Rows L2
open Evl (Ex ex_l ex_t fresh_back)
theorem OddV.noT {G : Hp} {v : V} {t : String} (h : OddV G v t) : OddV (NX.noT G) v t := by
  cases h with
  | non => exact .non
  | bl b => exact .bl b
  | str s => exact .str s
  | int i => exact .int i
  | lst h => exact .lst (noT_of h fun ps z => by cases z)
  | tup h => exact .tup (noT_of h fun ps z => by cases z)
  | dct h => exact .dct (noT_of h fun ps z => by cases z)
theorem OddV.sm {G : Hp} {v : V} {t : String} (h : OddV G v t) : sameV v = true := by cases h <;> rfl
end NX

namespace NX
/-! ### chains and tables, no program in sight -/
def cge (ns : List Int) (j : Int) : Nat := ns.countP fun x => decide (j ≤ x)
/-- k of the numbers are at least 1, 2 .. k, each another one -/
def Has (ns : List Int) (k : Int) : Prop := ∀ j : Int, 1 ≤ j → j ≤ k → k - j + 1 ≤ (cge ns j : Int)
def IsCh (ns : List Int) (g : Int) : Prop := 0 ≤ g ∧ ∀ k : Int, k ≤ g ↔ Has ns k
theorem Has.down {ns : List Int} {k l : Int} (h : Has ns k) (e : l ≤ k) : Has ns l := fun j h1 h2 => by have := h j h1 (by omega); omega
theorem IsCh.uniq {ns : List Int} {g g' : Int} (h : IsCh ns g) (h' : IsCh ns g') : g = g' := by
  have h1 := (h'.2 g).mpr ((h.2 g).mp (Int.le_refl _))
  have h2 := (h.2 g').mpr ((h'.2 g').mp (Int.le_refl _))
  omega
theorem cge_perm {ns ms : List Int} (p : ns.Perm ms) (j : Int) : cge ns j = cge ms j := p.countP_eq _
theorem IsCh.perm {ns ms : List Int} {g : Int} (h : IsCh ns g) (p : ns.Perm ms) : IsCh ms g :=
  ⟨h.1, fun k => (h.2 k).trans ⟨fun a j h1 h2 => by rw [← cge_perm p]; exact a j h1 h2, fun a j h1 h2 => by rw [cge_perm p]; exact a j h1 h2⟩⟩
theorem cge_app (ns ms : List Int) (j : Int) : cge (ns ++ ms) j = cge ns j + cge ms j := List.countP_append ..
theorem cge_one (x j : Int) : cge [x] j = if j ≤ x then 1 else 0 := by unfold cge; simp
theorem cge_cons (x : Int) (ns : List Int) (j : Int) : cge (x :: ns) j = cge [x] j + cge ns j := cge_app [x] ns j
theorem cge_len (ns : List Int) (j : Int) : cge ns j ≤ ns.length := List.countP_le_length
theorem IsCh.nil : IsCh [] 0 := ⟨Int.le_refl _, fun k => ⟨fun h j h1 h2 => by omega, fun h => by
  by_cases c : k ≤ 0
  · exact c
  · have := h k (by omega) (Int.le_refl _)
    unfold cge at this
    simp at this⟩⟩
theorem IsCh.snoc {ns : List Int} {g x : Int} (h : IsCh ns g) (hx : ∀ y ∈ ns, y ≤ x) : IsCh (ns ++ [x]) (if x > g then g + 1 else g) := by
  obtain ⟨h0, h⟩ := h
  by_cases c : x > g
  · rw [if_pos c]
    refine ⟨by omega, fun k => ⟨fun hk j h1 h2 => ?_, fun hk => ?_⟩⟩
    · rw [cge_app, cge_one, if_pos (by omega)]
      by_cases e : j ≤ k - 1
      · have := (h (k - 1)).mp (by omega) j h1 e
        omega
      · omega
    · have : Has ns (k - 1) := fun j h1 h2 => by
        have := hk j h1 (by omega)
        rw [cge_app, cge_one] at this
        split at this <;> omega
      have := (h (k - 1)).mpr this
      omega
  · rw [if_neg c]
    refine ⟨h0, fun k => ⟨fun hk j h1 h2 => ?_, fun hk => ?_⟩⟩
    · have := (h k).mp hk j h1 h2
      rw [cge_app]
      omega
    · by_cases e : k ≤ g
      · exact e
      · have := hk.down (show g + 1 ≤ k by omega) (g + 1) (by omega) (Int.le_refl _)
        rw [cge_app, cge_one, if_neg (by omega)] at this
        have z : cge ns (g + 1) = 0 := by
          unfold cge
          refine List.countP_eq_zero.mpr fun y hy => ?_
          have := hx y hy
          simp
          omega
        rw [z] at this
        omega
theorem IsCh.le_len {ns : List Int} {g : Int} (h : IsCh ns g) : g ≤ (ns.length : Int) := by
  by_cases c : g ≤ 0
  · omega
  · have := (h.2 g).mp (Int.le_refl _) 1 (Int.le_refl _) (by omega)
    have z := cge_len ns 1
    omega
/-- more and greater numbers: a longer chain -/
theorem cge_mono {α : Type} {f g : α → Int} : ∀ {l m : List α}, l.Sublist m → (∀ x ∈ l, f x ≤ g x) → ∀ j, cge (l.map f) j ≤ cge (m.map g) j
  | _, _, .slnil, _, j => Nat.le_refl _
  | _, _, .cons a s, h, j => by
    have := cge_mono s h j
    rw [List.map_cons]
    rw [cge_cons]
    omega
  | _, _, .cons₂ a s, h, j => by
    have := cge_mono s (fun x hx => h x (List.mem_cons_of_mem _ hx)) j
    rw [List.map_cons, List.map_cons]
    rw [cge_cons (f a), cge_cons (g a), cge_one, cge_one]
    have := h a List.mem_cons_self
    split <;> split <;> omega
theorem IsCh.mono {α : Type} {f g : α → Int} {l m : List α} {c d : Int} (s : l.Sublist m) (h : ∀ x ∈ l, f x ≤ g x) (hc : IsCh (l.map f) c) (hd : IsCh (m.map g) d) : c ≤ d :=
  (hd.2 c).mpr fun j h1 h2 => by
    have := (hc.2 c).mp (Int.le_refl _) j h1 h2
    have := cge_mono s h j
    omega
/-- a value that is smaller somewhere: a station that shows it -/
theorem cge_less {α : Type} {f g : α → Int} {j : Int} : ∀ {l m : List α}, l.Sublist m → cge (m.map g) j < cge (l.map f) j → ∃ x ∈ l, g x < j ∧ j ≤ f x
  | _, _, .slnil, h => absurd h (Nat.lt_irrefl _)
  | _, _, .cons a s, h => by
    rw [List.map_cons, cge_cons (g a)] at h
    exact cge_less s (by omega)
  | _, _, .cons₂ a s, h => by
    rw [List.map_cons, List.map_cons] at h
    rw [cge_cons (f a), cge_cons (g a), cge_one, cge_one] at h
    by_cases c : g a < j ∧ j ≤ f a
    · exact ⟨a, List.mem_cons_self, c⟩
    · obtain ⟨x, hx, hh⟩ := cge_less (f := f) (g := g) s (j := j) (by split at h <;> split at h <;> omega)
      exact ⟨x, List.mem_cons_of_mem _ hx, hh⟩
/-- a table: each station's number by those of its neighbours; V, N: stations, neighbours -/
def Tab {α : Type} (V : α → Prop) (N : α → List α) (t : α → Int) : Prop := ∀ v, V v → IsCh ((N v).map t) (t v - 1)
/-- tables compared: b's stations are sent into a's, their neighbours (but for the order) among the neighbours there -/
theorem tab_le {α β : Type} {V : α → Prop} {V' : β → Prop} {N : α → List α} {N' : β → List β} {a : α → Int} {b : β → Int} (ha : Tab V N a) (hb : Tab V' N' b) (φ : β → α) (hV : ∀ v, V' v → V (φ v)) (hN' : ∀ v, V' v → ∀ u ∈ N' v, V' u)
    (hN : ∀ v, V' v → ∃ m : List α, m.Perm (N (φ v)) ∧ ((N' v).map φ).Sublist m) : ∀ v, V' v → b v ≤ a (φ v) := by
  have key : ∀ (n : Nat) v, V' v → (a (φ v)).toNat = n → b v ≤ a (φ v) := by
    intro n
    induction n using Nat.strongRecOn with
    | ind n ih =>
      intro v hv hn
      by_cases c : b v ≤ a (φ v)
      · exact c
      · have h1 := ha _ (hV v hv)
        have h2 := hb v hv
        have no : ¬ Has ((N (φ v)).map a) (a (φ v)) := fun z => by
          have := (h1.2 _).mpr z
          omega
        have yes : Has ((N' v).map b) (a (φ v)) := (h2.2 _).mp (by omega)
        obtain ⟨m, hm, hs⟩ := hN v hv
        have : ∃ j : Int, 1 ≤ j ∧ j ≤ a (φ v) ∧ (cge ((N (φ v)).map a) j : Int) < a (φ v) - j + 1 := Classical.byContradiction fun z => no fun j h1 h2 => Classical.byContradiction fun y => z ⟨j, h1, h2, by omega⟩
        obtain ⟨j, hj1, hj2, hlt⟩ := this
        have hy := yes j hj1 hj2
        have hm' : cge ((N (φ v)).map a) j = cge (m.map a) j := (cge_perm (hm.map a) j).symm
        -- as values: b on N' against a along φ
        have : ∃ u ∈ N' v, a (φ u) < j ∧ j ≤ b u := by
          have hlt' : cge (m.map a) j < cge ((N' v).map b) j := by omega
          have sub : cge (((N' v).map φ).map a) j ≤ cge (m.map a) j := by
            have := cge_mono (f := a) (g := a) hs (fun _ _ => Int.le_refl _) j
            exact this
          rw [List.map_map] at sub
          exact cge_less (f := b) (g := a ∘ φ) (List.Sublist.refl (N' v)) (by omega)
        obtain ⟨u, hu, hu1, hu2⟩ := this
        have hvu := hN' v hv u hu
        have := ih (a (φ u)).toNat (by omega) u hvu rfl
        omega
  exact fun v hv => key _ v hv rfl
end NX

namespace NX
open PySem PySem.Spec PyProof.Rows L2
open Evl (Ex ex_l ex_t fresh_back)
/-! ### lists of whole numbers -/
theorem dp_ints {K : PySem.W.Frag} {H : Hp} : ∀ ns : List Int, DpAll K H (ns.map V.int) (ns.map PyData.int)
  | [] => .nil
  | n :: ns => .cons (.int n) (dp_ints ns)
theorem lay_ints : ∀ ns : List Int, PyData.canLayAll0 (ns.map PyData.int) = true
  | [] => by rw [List.map_nil]; unfold PyData.canLayAll0; rfl
  | n :: ns => by
    rw [List.map_cons]
    unfold PyData.canLayAll0
    rw [lay_ints ns]
    simp only [PyData.canLay0, Bool.and_self]
theorem depth_ints : ∀ ns : List Int, PyData.depthAll (ns.map PyData.int) = 0
  | [] => by rw [List.map_nil]; unfold PyData.depthAll; rfl
  | n :: ns => by
    rw [List.map_cons]
    unfold PyData.depthAll
    rw [depth_ints ns]
    simp [PyData.depth]
theorem shaped_ints (ns : List Int) : SeqAt.shaped (.list (ns.map PyData.int)) = true := by
  unfold SeqAt.shaped
  rw [Bool.and_eq_true]
  refine ⟨?_, decide_eq_true ?_⟩
  · simp only [PyData.canLay0]
    exact lay_ints ns
  · simp only [PyData.depth]
    rw [depth_ints]
    omega
theorem shaped_intsT (ns : List Int) : SeqAt.shaped (.tuple (ns.map PyData.int)) = true := by
  unfold SeqAt.shaped
  rw [Bool.and_eq_true]
  refine ⟨?_, decide_eq_true ?_⟩
  · simp only [PyData.canLay0]
    exact lay_ints ns
  · simp only [PyData.depth]
    rw [depth_ints]
    omega
theorem eqvAll_ints : ∀ ns ms : List Int, PyData.eqvAll (ns.map PyData.int) (ms.map PyData.int) = decide (ns = ms)
  | [], [] => by simp [PyData.eqvAll]
  | [], q :: qs => by simp [PyData.eqvAll]
  | p :: ps, [] => by simp [PyData.eqvAll]
  | p :: ps, q :: qs => by
    rw [List.map_cons, List.map_cons, PyData.eqvAll, eqvAll_ints ps qs, Bool.eq_iff_iff]
    simp [PyData.eqv]
theorem eqv_ints (ns ms : List Int) : PyData.eqv (.list (ns.map PyData.int)) (.list (ms.map PyData.int)) = decide (ns = ms) := by
  rw [PyData.eqv]; exact eqvAll_ints ns ms
theorem eqv_intsT (ns ms : List Int) : PyData.eqv (.tuple (ns.map PyData.int)) (.tuple (ms.map PyData.int)) = decide (ns = ms) := by
  rw [PyData.eqv]; exact eqvAll_ints ns ms
section
variable {K : PySem.W.Frag} {G H : Hp} {L : List (Addr × HO)} {p q : Addr} {xs : List V} {v : V} {Q : VK} {ns ms : List Int}
theorem n_neIL (h1 : SqL K H p (ns.map V.int)) (h2 : SqL K H q (ms.map V.int)) (k : Q (.bl (!decide (ns = ms))) H) : rNeD K (.ref p) (.ref q) H Q :=
  ⟨_, _, .lst h1 (dp_ints ns), .lst h2 (dp_ints ms), shaped_ints ns, shaped_ints ms, by rw [eqv_ints]; exact k⟩
theorem n_eqIL (h1 : SqL K H p (ns.map V.int)) (h2 : SqL K H q (ms.map V.int)) (k : Q (.bl (decide (ns = ms))) H) : rEqD K (.ref p) (.ref q) H Q :=
  ⟨_, _, .lst h1 (dp_ints ns), .lst h2 (dp_ints ms), shaped_ints ns, shaped_ints ms, by rw [eqv_ints]; exact k⟩
theorem n_neIT (h1 : SqT K H p (ns.map V.int)) (h2 : SqT K H q (ms.map V.int)) (k : Q (.bl (!decide (ns = ms))) H) : rNeD K (.ref p) (.ref q) H Q :=
  ⟨_, _, .tup h1 (dp_ints ns), .tup h2 (dp_ints ms), shaped_intsT ns, shaped_intsT ms, by rw [eqv_intsT]; exact k⟩
theorem n_eqIT (h1 : SqT K H p (ns.map V.int)) (h2 : SqT K H q (ms.map V.int)) (k : Q (.bl (decide (ns = ms))) H) : rEqD K (.ref p) (.ref q) H Q :=
  ⟨_, _, .tup h1 (dp_ints ns), .tup h2 (dp_ints ms), shaped_intsT ns, shaped_intsT ms, by rw [eqv_intsT]; exact k⟩
/-- sorted(a list of numbers), read from now on -/
theorem n_sortI (S : Own G L H) (h : SqL K H p (ns.map V.int)) (k : ∀ (ms : List Int) q G1 H1, ms.Perm ns → ms.Pairwise (· ≤ ·) → H q = none → Ex G G1 → Ex H H1 → G1 q = some (.lst (ms.map V.int)) → Own G1 L H1 → Q (.ref q) H1) : rSortedI K [.ref p] H Q :=
  ⟨p, ns, rfl, h, fun ms q h1 h2 hq => k ms q _ _ h1 h2 hq (S.still hq).2.1 (Ex.new hq) (S.still hq).2.2 (S.still hq).1⟩
/-! ### results that are new -/
def Ret (o : HO) (H : Hp) (Q : VK) : Prop := ∀ p H', H p = none → Ex H H' → H' p = some o → Q (.ref p) H'
theorem n_retO {o : HO} (S : Own G L H) (ht : noTup o = true) (k : ∀ p H1, H p = none → Ex H H1 → Own G ((p, o) :: L) H1 → Q (.ref p) H1) : Ret o H Q :=
  fun p H' hp e h => k p H' hp e (S.new e hp h ht)
theorem n_retG {o : HO} (S : Own G L H) (k : ∀ p G1 H1, H p = none → Ex G G1 → Ex H H1 → G1 p = some o → Own G1 L H1 → Q (.ref p) H1) : Ret o H Q :=
  fun p H' hp e h => by
    obtain ⟨S1, e1, e2⟩ := S.absorb e
    exact k p _ H' hp e1 e (e2 _ _ ((nw_new hp).trans h)) S1
theorem Own.pure (S : Own G [] H) : Ex G H := S.ex
end
/-- what stood still may be changed from now on -/
theorem Own.thaw {G H : Hp} {L : List (Addr × HO)} {p : Addr} {o : HO} (S : Own G L H) (h : G p = some o) (ht : noTup o = true := by rfl) : Own (cut G [(p, o)]) ((p, o) :: L) H ∧ ∀ a u, a ≠ p → G a = some u → cut G [(p, o)] a = some u :=
  ⟨⟨fun a u e => by
      by_cases m : a ∈ ([(p, o)] : List (Addr × HO)).map Prod.fst
      · rw [cut_in m] at e; cases e
      · rw [cut_out m] at e; exact S.ex _ _ e, fun x hx => by
      rcases List.mem_cons.mp hx with rfl | hx
      · exact ⟨cut_in (by simp), S.ex _ _ h⟩
      · have z := S.at_ x hx
        refine ⟨?_, z.2⟩
        have ne : x.1 ≠ p := fun e => by rw [e, h] at z; cases z.1
        rw [cut_out (by simpa using ne)]
        exact z.1, by
      rw [List.map_cons, List.nodup_cons]
      refine ⟨fun m => ?_, S.nd⟩
      obtain ⟨x, hx, e⟩ := List.mem_map.mp m
      have z := (S.at_ x hx).1
      rw [e, h] at z
      exact (nomatch z), fun x hx => by
      rcases List.mem_cons.mp hx with rfl | hx
      · exact ht
      · exact S.nt x hx⟩, fun a u ne e => by rw [cut_out (by simpa using ne)]; exact e⟩
/-! ### one number of a list -/
def tv (t : List Int) (j : Int) : Int := t.getD j.toNat 0
theorem tv_nat (t : List Int) (i : Nat) : tv t (i : Int) = t.getD i 0 := by unfold tv; rw [Int.toNat_natCast]
theorem tv_get {t : List Int} {i : Nat} {x : Int} (h : t[i]? = some x) : tv t (i : Int) = x := by rw [tv_nat, List.getD_eq_getElem?_getD, h] <;> rfl
theorem get_tv {t : List Int} {i : Nat} (h : i < t.length) : t[i]? = some (tv t (i : Int)) := by
  rw [tv_nat, List.getD_eq_getElem?_getD, List.getElem?_eq_getElem h] <;> rfl
theorem at_tv {t : List Int} {j : Int} (h0 : 0 ≤ j) (h : j < (t.length : Int)) : atI (t.map V.int) j = some (.int (tv t j)) := by
  obtain ⟨i, rfl⟩ : ∃ i : Nat, j = (i : Int) := ⟨j.toNat, by omega⟩
  exact atI_nat (by rw [List.getElem?_map, get_tv (by omega)] <;> rfl)
theorem tv_app1 {t : List Int} {x : Int} {j : Int} (h : j < (t.length : Int)) (h0 : 0 ≤ j) : tv (t ++ [x]) j = tv t j := by
  unfold tv
  rw [List.getD_eq_getElem?_getD, List.getD_eq_getElem?_getD, List.getElem?_append_left (by omega)]
theorem tv_app2 {t : List Int} {x : Int} : tv (t ++ [x]) (t.length : Int) = x := tv_get (by simp)
theorem tv_ext {s t : List Int} (hl : s.length = t.length) (h : ∀ i : Nat, i < s.length → tv s (i : Int) = tv t (i : Int)) : s = t := by
  refine List.ext_getElem? fun i => ?_
  by_cases c : i < s.length
  · rw [get_tv c, get_tv (by omega), h i c]
  · rw [List.getElem?_eq_none (by omega), List.getElem?_eq_none (by omega)]
theorem tv_out {t : List Int} {j : Int} (h : (t.length : Int) ≤ j) : tv t j = 0 := by
  unfold tv
  rw [List.getD_eq_getElem?_getD, List.getElem?_eq_none (by omega)] <;> rfl
theorem tv_cons (x : Int) (t : List Int) (i : Nat) : tv (x :: t) ((i + 1 : Nat) : Int) = tv t (i : Int) := by
  rw [tv_nat, tv_nat] <;> rfl
theorem tv_zero (x : Int) (t : List Int) : tv (x :: t) 0 = x := rfl
theorem sum_le : ∀ {s t : List Int}, s.length = t.length → (∀ i : Nat, i < s.length → tv s (i : Int) ≤ tv t (i : Int)) → s.sum ≤ t.sum ∧ (s ≠ t → s.sum < t.sum)
  | [], [], _, _ => ⟨Int.le_refl _, fun h => absurd rfl h⟩
  | [], _ :: _, h, _ => absurd h (by simp)
  | _ :: _, [], h, _ => absurd h (by simp)
  | a :: s, b :: t, hl, h => by
    have ih := sum_le (s := s) (t := t) (by simpa using hl) fun i hi => by
      have := h (i + 1) (by simp; omega)
      rw [tv_cons, tv_cons] at this
      exact this
    have h0 := h 0 (by simp)
    have h0 : a ≤ b := h0
    rw [List.sum_cons, List.sum_cons]
    refine ⟨by omega, fun ne => ?_⟩
    by_cases c : s = t
    · have : a ≠ b := fun e => ne (by rw [e, c])
      have := ih.1
      omega
    · have := ih.2 c
      omega
theorem sum_nn : ∀ {s : List Int}, (∀ i : Nat, i < s.length → 0 ≤ tv s (i : Int)) → 0 ≤ s.sum
  | [], _ => Int.le_refl _
  | a :: s, h => by
    have ih := sum_nn (s := s) fun i hi => by
      have := h (i + 1) (by simp; omega)
      rw [tv_cons] at this
      exact this
    have h0 : 0 ≤ a := h 0 (by simp)
    rw [List.sum_cons]
    omega
theorem rep_flat (m : Nat) (x : V) : (List.replicate m [x]).flatten = List.replicate m x := by
  induction m with
  | zero => rfl
  | succ m ih => rw [List.replicate_succ, List.flatten_cons, ih, List.replicate_succ] <;> rfl
theorem tv_rep {m i : Nat} {x : Int} (h : i < m) : tv (List.replicate m x) (i : Int) = x := tv_get (by rw [List.getElem?_replicate, if_pos h])
/-- [x] * m -/
theorem n_rep {H G : Hp} {L : List (Addr × HO)} {p : Addr} {x : Int} {m : Int} {Q : VK} (S : Own G ((p, .lst [.int x]) :: L) H) (h0 : 0 ≤ m) (hz : m ≤ 100000) (k : ∀ q G1 H1, H q = none → Ex G G1 → Ex H H1 → G1 q = some (.lst ((List.replicate m.toNat x).map V.int)) → Own G1 L H1 → Q (.ref q) H1) : rRep (.ref p) (.int m) H Q :=
  ⟨p, m, _, rfl, rfl, S.get0, by omega, by omega, small (by simp; omega), fun q hq => by
    have T := S.forget.still (o := .lst (List.replicate m.toNat [V.int x]).flatten) hq
    refine k q _ _ hq T.2.1 (Ex.new hq) ?_ T.1
    rw [T.2.2, rep_flat, List.map_replicate]⟩
end NX

namespace NX
open PySem PySem.Spec PyProof.Rows L2
open Evl (Ex ex_l ex_t fresh_back)
open LamX (CodeO TabB)
abbrev s__law_outcome : Stmt := top 42
theorem sc__law_outcome : FnScope ["_law_ask", "e", "_law_kinds"] ["_law_ask"] (defScope s__law_outcome) := ⟨rfl, rfl, rfl, by decide +kernel, rfl, by decide +kernel, by decide +kernel⟩
/-- the classes that _law_outcome asks for, in its order -/
structure Cls8 (mg : Str → Option Value) (Cs : Nat → Addr) : Prop where
  c0 : mg "NoStation" = some (.ref (Cs 0))
  c1 : mg "NoChannel" = some (.ref (Cs 1))
  c2 : mg "TooMany" = some (.ref (Cs 2))
  c3 : mg "NoClosedSet" = some (.ref (Cs 3))
  c4 : mg "NoLink" = some (.ref (Cs 4))
  c5 : mg "NoNames" = some (.ref (Cs 5))
  c6 : mg "NoNetwork" = some (.ref (Cs 6))
  c7 : mg "NoState" = some (.ref (Cs 7))
/-- the field of the class i -/
def fldOf : Nat → Str
  | 0 => "station"
  | 1 => "channel"
  | 2 => "most"
  | 4 => "link"
  | _ => "index"
/-- D is the class i, no other -/
structure Kind8 (K : PySem.W.Frag) (C0 : Addr) (Cs : Nat → Addr) (D : Addr) (i : Nat) : Prop where
  lt : i < 8
  xf : XfC K D
  nf : PySem.W.findIn K (.ref D) (fldOf i) = some none
  ed : ExcD K D
  te : PySem.W.exmOne K (.ref D) (.ref C0) = some true
  kd : ∀ j, j < 8 → PySem.W.kitOne K (.ref D) (.ref (Cs j)) = some (decide (i = j))
  kv : PySem.W.kitOne K (.ref D) (.type "ValueError") = some true
/-- the word for the class i -/
def wordOf : Nat → Str
  | 0 => "station"
  | 1 => "channel"
  | 2 => "many"
  | 3 => "closed"
  | 4 => "link"
  | 5 => "names"
  | 6 => "network"
  | _ => "state"
/-- what is told of the field -/
def ToldV (K : PySem.W.Frag) (H : Hp) (i : Nat) (v u : V) : Prop := (i = 0 ∨ i = 1 ∨ i = 4) ∧ (∃ t, ShV K H v t ∧ u = .str t) ∨ (i = 2 ∨ i = 3 ∨ i = 5 ∨ i = 6 ∨ i = 7) ∧ u = v
def EOut (K : PySem.W.Frag) (C0 : Addr) (Cs : Nat → Addr) (Q : VK) : XK := fun cls d H => ∃ (D dd : Addr) (i : Nat) (v u : V), cls = .ref D ∧ d = some dd ∧ Kind8 K C0 Cs D i ∧ H dd = some (.xd [(fldOf i, v)]) ∧ ToldV K H i v u ∧ Ret (.tup [.str (wordOf i), u]) H Q
def OutT (K : PySem.W.Frag) (C0 : Addr) (Cs : Nat → Addr) : (XK → Hp → VK → Prop) → Hp → VK → Prop := fun tl H Q => ∀ (E : XK) (Q' : VK), (∀ cls d H', EOut K C0 Cs Q cls d H' → E cls d H') → (∀ v H', Q .non H' → Q' v H') → tl E H Q'
theorem out_gives {X : Cx} {C0 g : Addr} {Cs : Nat → Addr} {cdg : Value} {q : Str} (T : Txt X.mg) (m_ChannelError : X.mg "ChannelError" = some (.ref C0)) (M8 : Cls8 X.mg Cs) (hG0 : X.A.guards = some []) (hun : ∀ env, (X.A.deeper env).units + 65 < cLine) :
    GivesS X ["_law_ask", "e", "_law_kinds"] "_law_outcome" (defScope s__law_outcome) g cdg (defBody s__law_outcome) "_law_ask" q (OutT X.K C0 Cs) := by
  intro f c' s H Q tl act hc h
  obtain ⟨m_NoStation, m_NoChannel, m_TooMany, m_NoClosedSet, m_NoLink, m_NoNames, m_NoNetwork, m_NoState⟩ := M8
  have hu65 : ∀ X' : Cx, X'.A.units = (X.A.deeper (envOfC "_law_outcome" (defScope s__law_outcome) s.heap.objs.size g cdg)).units → X'.A.units + 65 < cLine := fun X' e => by rw [e]; exact hun _
  have hG : (X.A.deeper (envOfC "_law_outcome" (defScope s__law_outcome) s.heap.objs.size g cdg)).guards = some [] := hG0
  refine ⟨_, (pss_cons (ps_try_as (i := 1) rfl rfl sc__law_outcome.nd rfl rfl ⟨rfl, by decide, Or.inl m_ChannelError⟩ takes0 (fun W pn xe tk _ => (pss_one (ps_expr (act W pn xe _ _ tk)))) (fun a oe cls d pn hz hf => (pss_cons (ps_set (i := 2) sc__law_outcome.nd rfl (Or.inl rfl) (pe_lst (pa_cons (pe_callB (call_isX (K := X.K) hz hf) (by rfl) T.n_isinstance (by decide +kernel) (pa_cons (pv 1) (pa_cons (pe_cls m_NoStation) pa_nil))) (pa_cons (pe_callB (call_isX (K := X.K) hz hf) (by rfl) T.n_isinstance (by decide +kernel) (pa_cons (pv 1) (pa_cons (pe_cls m_NoChannel) pa_nil))) (pa_cons (pe_callB (call_isX (K := X.K) hz hf) (by rfl) T.n_isinstance (by decide +kernel) (pa_cons (pv 1) (pa_cons (pe_cls m_TooMany) pa_nil))) pa_nil)))))
      (pss_cons (ps_set (i := 2) sc__law_outcome.nd rfl (Or.inl rfl) (pe_op (op_catLK (K := X.K)) (pv 2) (pe_lst (pa_cons (pe_callB (call_isX (K := X.K) hz hf) (by rfl) T.n_isinstance (by decide +kernel) (pa_cons (pv 1) (pa_cons (pe_cls m_NoClosedSet) pa_nil))) (pa_cons (pe_callB (call_isX (K := X.K) hz hf) (by rfl) T.n_isinstance (by decide +kernel) (pa_cons (pv 1) (pa_cons (pe_cls m_NoLink) pa_nil))) (pa_cons (pe_callB (call_isX (K := X.K) hz hf) (by rfl) T.n_isinstance (by decide +kernel) (pa_cons (pv 1) (pa_cons (pe_cls m_NoNames) pa_nil))) pa_nil))))))
      (pss_cons (ps_set (i := 2) sc__law_outcome.nd rfl (Or.inl rfl) (pe_op (op_catLK (K := X.K)) (pv 2) (pe_lst (pa_cons (pe_callB (call_isX (K := X.K) hz hf) (by rfl) T.n_isinstance (by decide +kernel) (pa_cons (pv 1) (pa_cons (pe_cls m_NoNetwork) pa_nil))) (pa_cons (pe_callB (call_isX (K := X.K) hz hf) (by rfl) T.n_isinstance (by decide +kernel) (pa_cons (pv 1) (pa_cons (pe_cls m_NoState) pa_nil))) pa_nil)))))
      (pss_cons (ps_if (PW.pt (pw_or (pt_cmpR op_ne (pe_bmK (K := X.K) PySem.F.plainAttrs_list PySem.F.slot_list_count PySem.F.type_list_count (mt_countV (K := X.K)) (pv 2) (pa_cons pe_bl pa_nil)) pe_int (nomark _)) (pw_or1 (pt_not (pt_val (pe_callB (call_isX (K := X.K) hz hf) (by rfl) T.n_isinstance (by decide +kernel) (pa_cons (pv 1) (pa_cons (pe_bltn (v := .ty "ValueError") (by rfl) T.n_ValueError (by decide +kernel) rfl) pa_nil)))))))) (pss_one (ps_ret pe_str)) pss_nil)
      (pss_cons (ps_if (pt_val (pe_ix (ix_listK (K := X.K)) (pv 2) pe_int (fun _ _ => rfl))) (pss_one (ps_ret (pe_tup (pa_cons pe_str (pa_cons (pe_callB (cr_reprV (K := X.K) hG (hu65 _ rfl)) (by rfl) T.n_repr (by decide +kernel) (pa_cons (pe_xfA (K := X.K) hz hf (pv 1)) pa_nil)) pa_nil))))) pss_nil)
      (pss_cons (ps_if (pt_val (pe_ix (ix_listK (K := X.K)) (pv 2) pe_int (fun _ _ => rfl))) (pss_one (ps_ret (pe_tup (pa_cons pe_str (pa_cons (pe_callB (cr_reprV (K := X.K) hG (hu65 _ rfl)) (by rfl) T.n_repr (by decide +kernel) (pa_cons (pe_xfA (K := X.K) hz hf (pv 1)) pa_nil)) pa_nil))))) pss_nil)
      (pss_cons (ps_if (pt_val (pe_ix (ix_listK (K := X.K)) (pv 2) pe_int (fun _ _ => rfl))) (pss_one (ps_ret (pe_tup (pa_cons pe_str (pa_cons (pe_xfA (K := X.K) hz hf (pv 1)) pa_nil))))) pss_nil)
      (pss_cons (ps_if (pt_val (pe_ix (ix_listK (K := X.K)) (pv 2) pe_int (fun _ _ => rfl))) (pss_one (ps_ret (pe_tup (pa_cons pe_str (pa_cons (pe_callB (cr_reprV (K := X.K) hG (hu65 _ rfl)) (by rfl) T.n_repr (by decide +kernel) (pa_cons (pe_xfA (K := X.K) hz hf (pv 1)) pa_nil)) pa_nil))))) pss_nil)
      (pss_one (ps_ret (pe_tup (pa_cons (pe_ix (ix_listK (K := X.K)) (pe_lst (pa_cons pe_str (pa_cons pe_str (pa_cons pe_str (pa_cons pe_str (pa_cons pe_str pa_nil)))))) (pe_op op_sub (pe_bmK (K := X.K) PySem.F.plainAttrs_list PySem.F.slot_list_index PySem.F.type_list_index (mt_indexK (K := X.K)) (pv 2) (pa_cons pe_bl pa_nil)) pe_int) (fun _ _ => rfl)) (pa_cons (pe_xfA (K := X.K) hz hf (pv 1)) pa_nil)))))))))))))))
      (pss_one (ps_ret pe_non))), ?_⟩
  walk_at "go"
  refine g_act rfl hc ?_
  refine h _ _ (fun cls d H' hE => ?_) (fun v H' hq => ?_)
  · obtain ⟨D, dd, i, v, u, rfl, rfl, K8, hd, hu, hq⟩ := hE
    have isx : ∀ (a : Addr) (j : Nat) (H2 : Hp) (Q2 : VK), j < 8 → Ex H' H2 → Q2 (.bl (decide (i = j))) H2 → rIsX X.K a (.ref D) (some dd) [.ref a, .ref (Cs j)] H2 Q2 := fun a j H2 Q2 hj e2 k2 => ⟨D, dd, _, _, _, rfl, rfl, e2 _ _ hd, K8.ed, rfl, .inl ⟨_, .own _, K8.kd j hj⟩, k2⟩
    refine n_as K8.te fun a0 ha0 => ?_
    walk_at "go"
    refine isx _ 0 _ _ (by decide) (Ex.refl _) ?_
    walk_at "go"
    refine isx _ 1 _ _ (by decide) (Ex.refl _) ?_
    walk_at "go"
    refine isx _ 2 _ _ (by decide) (Ex.refl _) ?_
    walk_at "go"
    refine n_lst (Own.start H') (by show 3 ≤ 10000000; decide) fun p1 H1 _ S1 => ?_
    walk_at "go"
    refine isx _ 3 _ _ (by decide) S1.ex ?_
    walk_at "go"
    refine isx _ 4 _ _ (by decide) S1.ex ?_
    walk_at "go"
    refine isx _ 5 _ _ (by decide) S1.ex ?_
    walk_at "go"
    refine n_lst S1 (by show 3 ≤ 10000000; decide) fun p2 H2 _ S2 => ?_
    refine n_cat S2 (SqL.of S2.get1) (SqL.of S2.get0) (by show 3 + 3 ≤ 10000000; decide) fun p3 H3 _ S3 => ?_
    walk_at "go"
    refine isx _ 6 _ _ (by decide) S3.ex ?_
    walk_at "go"
    refine isx _ 7 _ _ (by decide) S3.ex ?_
    walk_at "go"
    refine n_lst S3 (by show 2 ≤ 10000000; decide) fun p4 H4 _ S4 => ?_
    refine n_cat S4 (SqL.of S4.get1) (SqL.of S4.get0) (by show 6 + 2 ≤ 10000000; decide) fun p5 H5 _ S5 => ?_
    walk_at "go"
    refine ⟨tyL (SqL.of S5.get0), ?_⟩
    walk_at "go"
    refine n_countV (y := .bl true) (SqL.of S5.get0) rfl rfl ?_
    walk_at "go"
    refine if_ff (ntrue ?_) ?_
    · have hi := K8.lt
      have : i = 0 ∨ i = 1 ∨ i = 2 ∨ i = 3 ∨ i = 4 ∨ i = 5 ∨ i = 6 ∨ i = 7 := by omega
      rcases this with rfl | rfl | rfl | rfl | rfl | rfl | rfl | rfl <;> rfl
    walk_at "go"
    refine ⟨D, dd, _, _, true, rfl, rfl, S5.ex _ _ hd, K8.ed, rfl, .inl ⟨_, .ty _, K8.kv⟩, ?_⟩
    walk_at "go"
    have ret2 : ∀ (H6 : Hp) (w : V), Ex H' H6 → w = u → NewT [.str (wordOf i), w] H6 fun x H7 => Q x H7 := fun H6 w e6 ew => by
      subst ew
      exact n_tup (Own.start H6) (by show 2 ≤ 10000000; decide) fun t7 G7 H7 h7 _ e7 ht7 S7 => hq t7 H7 (fresh_back e6 h7) (e6.trans e7) (S7.ex _ _ ht7)
    have rs : ∀ (H6 : Hp) (t : Str), Ex H' H6 → ShV X.K H' v t → ShV X.K H6 v t := fun H6 t e6 hs => hs.mono e6 fun d => dp_mono e6 d _
    have ixb : ∀ (j : Nat) (k2 : V → Hp → Prop), j < 8 → k2 (.bl (decide (i = j))) H5 → rIxL X.K (.ref p5) (.int (j : Int)) H5 k2 := fun j k2 hj hk => by
      refine g_ixL (i := (j : Int)) (SqL.of S5.get0) (v := .bl (decide (i = j))) ?_ hk
      have : j = 0 ∨ j = 1 ∨ j = 2 ∨ j = 3 ∨ j = 4 ∨ j = 5 ∨ j = 6 ∨ j = 7 := by omega
      rcases this with rfl | rfl | rfl | rfl | rfl | rfl | rfl | rfl <;> rfl
    refine ixb 0 _ (by decide) ?_
    walk_at "go"
    by_cases h0 : i = 0
    · subst h0
      obtain ⟨t, hs, rfl⟩ : ∃ t, ShV X.K H' v t ∧ u = .str t := by
        rcases hu with ⟨_, h⟩ | ⟨h, _⟩
        · exact h
        · omega
      refine if_tt (dtrue rfl) ?_
      walk_at "go"
      refine g_xfA K8.xf K8.nf ?_
      walk_at "go"
      refine n_xf (S5.ex _ _ hd) ?_
      walk_at "go"
      refine n_reprV (rs _ _ S5.ex hs) ?_
      walk_at "go"
      exact ret2 _ _ S5.ex rfl
    refine if_ff (dfalse h0) ?_
    walk_at "go"
    refine ixb 1 _ (by decide) ?_
    walk_at "go"
    by_cases h1 : i = 1
    · subst h1
      obtain ⟨t, hs, rfl⟩ : ∃ t, ShV X.K H' v t ∧ u = .str t := by
        rcases hu with ⟨_, h⟩ | ⟨h, _⟩
        · exact h
        · omega
      refine if_tt (dtrue rfl) ?_
      walk_at "go"
      refine g_xfA K8.xf K8.nf ?_
      walk_at "go"
      refine n_xf (S5.ex _ _ hd) ?_
      walk_at "go"
      refine n_reprV (rs _ _ S5.ex hs) ?_
      walk_at "go"
      exact ret2 _ _ S5.ex rfl
    refine if_ff (dfalse h1) ?_
    walk_at "go"
    refine ixb 2 _ (by decide) ?_
    walk_at "go"
    by_cases h2 : i = 2
    · subst h2
      obtain rfl : u = v := by
        rcases hu with ⟨h, _⟩ | ⟨_, h⟩
        · omega
        · exact h
      refine if_tt (dtrue rfl) ?_
      walk_at "go"
      refine g_xfA K8.xf K8.nf ?_
      walk_at "go"
      refine n_xf (S5.ex _ _ hd) ?_
      walk_at "go"
      exact ret2 _ _ S5.ex rfl
    refine if_ff (dfalse h2) ?_
    walk_at "go"
    refine ixb 4 _ (by decide) ?_
    walk_at "go"
    by_cases h4 : i = 4
    · subst h4
      obtain ⟨t, hs, rfl⟩ : ∃ t, ShV X.K H' v t ∧ u = .str t := by
        rcases hu with ⟨_, h⟩ | ⟨h, _⟩
        · exact h
        · omega
      refine if_tt (dtrue rfl) ?_
      walk_at "go"
      refine g_xfA K8.xf K8.nf ?_
      walk_at "go"
      refine n_xf (S5.ex _ _ hd) ?_
      walk_at "go"
      refine n_reprV (rs _ _ S5.ex hs) ?_
      walk_at "go"
      exact ret2 _ _ S5.ex rfl
    refine if_ff (dfalse h4) ?_
    walk_at "go"
    have hi := K8.lt
    obtain rfl : u = v := by
      rcases hu with ⟨h, _⟩ | ⟨_, h⟩
      · omega
      · exact h
    refine n_lst S5 (by show 5 ≤ 10000000; decide) fun p6 H6 _ S6 => ?_
    walk_at "go"
    refine ⟨tyL (SqL.of S6.get1), ?_⟩
    walk_at "go"
    have : i = 3 ∨ i = 5 ∨ i = 6 ∨ i = 7 := by omega
    rcases this with rfl | rfl | rfl | rfl
    · refine ⟨p5, _, .bl true, 3, .bl true, rfl, rfl, SqL.of S6.get1, rfl, rfl, rfl, rfl, (fun m z' hm hz => by
        have : m = 0 ∨ m = 1 ∨ m = 2 ∨ m = 3 ∨ m = 4 ∨ m = 5 ∨ m = 6 := by omega
        rcases this with rfl | rfl | rfl | rfl | rfl | rfl | rfl <;> first | (cases hz; rfl) | omega), ?_⟩
      walk_at "go"
      refine g_ixL (SqL.of S6.get0) rfl ?_
      walk_at "go"
      refine g_xfA K8.xf K8.nf ?_
      walk_at "go"
      refine n_xf (S6.ex _ _ hd) ?_
      walk_at "go"
      exact ret2 _ _ S6.ex rfl
    · refine ⟨p5, _, .bl true, 5, .bl true, rfl, rfl, SqL.of S6.get1, rfl, rfl, rfl, rfl, (fun m z' hm hz => by
        have : m = 0 ∨ m = 1 ∨ m = 2 ∨ m = 3 ∨ m = 4 ∨ m = 5 ∨ m = 6 := by omega
        rcases this with rfl | rfl | rfl | rfl | rfl | rfl | rfl <;> first | (cases hz; rfl) | omega), ?_⟩
      walk_at "go"
      refine g_ixL (SqL.of S6.get0) rfl ?_
      walk_at "go"
      refine g_xfA K8.xf K8.nf ?_
      walk_at "go"
      refine n_xf (S6.ex _ _ hd) ?_
      walk_at "go"
      exact ret2 _ _ S6.ex rfl
    · refine ⟨p5, _, .bl true, 6, .bl true, rfl, rfl, SqL.of S6.get1, rfl, rfl, rfl, rfl, (fun m z' hm hz => by
        have : m = 0 ∨ m = 1 ∨ m = 2 ∨ m = 3 ∨ m = 4 ∨ m = 5 ∨ m = 6 := by omega
        rcases this with rfl | rfl | rfl | rfl | rfl | rfl | rfl <;> first | (cases hz; rfl) | omega), ?_⟩
      walk_at "go"
      refine g_ixL (SqL.of S6.get0) rfl ?_
      walk_at "go"
      refine g_xfA K8.xf K8.nf ?_
      walk_at "go"
      refine n_xf (S6.ex _ _ hd) ?_
      walk_at "go"
      exact ret2 _ _ S6.ex rfl
    · refine ⟨p5, _, .bl true, 7, .bl true, rfl, rfl, SqL.of S6.get1, rfl, rfl, rfl, rfl, (fun m z' hm hz => by
        have : m = 0 ∨ m = 1 ∨ m = 2 ∨ m = 3 ∨ m = 4 ∨ m = 5 ∨ m = 6 := by omega
        rcases this with rfl | rfl | rfl | rfl | rfl | rfl | rfl <;> first | (cases hz; rfl) | omega), ?_⟩
      walk_at "go"
      refine g_ixL (SqL.of S6.get0) rfl ?_
      walk_at "go"
      refine g_xfA K8.xf K8.nf ?_
      walk_at "go"
      refine n_xf (S6.ex _ _ hd) ?_
      walk_at "go"
      exact ret2 _ _ S6.ex rfl
  · walk_at "go"
    exact hq
theorem out_st {K : PySem.W.Frag} {C0 CS : Addr} {Cs : Nat → Addr} {Q : VK} {d : Addr} {H : Hp} {v : V} {t : Str} (KS : Kind8 K C0 Cs CS 0) (hs : ShV K H v t) (hd : H d = some (.xd [("station", v)])) (k : Ret (.tup [.str "station", .str t]) H Q) : EOut K C0 Cs Q (.ref CS) (some d) H :=
  ⟨CS, d, 0, v, .str t, rfl, rfl, KS, hd, .inl ⟨.inl rfl, t, hs, rfl⟩, k⟩
theorem out_ix {K : PySem.W.Frag} {C0 D : Addr} {Cs : Nat → Addr} {Q : VK} {d : Addr} {H : Hp} {v : V} {i : Nat} (KD : Kind8 K C0 Cs D i) (hi : i = 3 ∨ i = 5 ∨ i = 6 ∨ i = 7) (hd : H d = some (.xd [("index", v)])) (k : Ret (.tup [.str (wordOf i), v]) H Q) : EOut K C0 Cs Q (.ref D) (some d) H :=
  ⟨D, d, i, v, v, rfl, rfl, KD, by rcases hi with rfl | rfl | rfl | rfl <;> exact hd, .inr ⟨.inr hi, rfl⟩, k⟩
def cs8 (a0 a1 a2 a3 a4 a5 a6 a7 : Addr) : Nat → Addr
  | 0 => a0
  | 1 => a1
  | 2 => a2
  | 3 => a3
  | 4 => a4
  | 5 => a5
  | 6 => a6
  | _ => a7
theorem kd8 {K : PySem.W.Frag} {D a0 a1 a2 a3 a4 a5 a6 a7 : Addr} {i : Nat} (h0 : PySem.W.kitOne K (.ref D) (.ref a0) = some (decide (i = 0))) (h1 : PySem.W.kitOne K (.ref D) (.ref a1) = some (decide (i = 1))) (h2 : PySem.W.kitOne K (.ref D) (.ref a2) = some (decide (i = 2))) (h3 : PySem.W.kitOne K (.ref D) (.ref a3) = some (decide (i = 3)))
    (h4 : PySem.W.kitOne K (.ref D) (.ref a4) = some (decide (i = 4))) (h5 : PySem.W.kitOne K (.ref D) (.ref a5) = some (decide (i = 5))) (h6 : PySem.W.kitOne K (.ref D) (.ref a6) = some (decide (i = 6))) (h7 : PySem.W.kitOne K (.ref D) (.ref a7) = some (decide (i = 7))) :
    ∀ j, j < 8 → PySem.W.kitOne K (.ref D) (.ref (cs8 a0 a1 a2 a3 a4 a5 a6 a7 j)) = some (decide (i = j)) := by
  intro j hj
  have : j = 0 ∨ j = 1 ∨ j = 2 ∨ j = 3 ∨ j = 4 ∨ j = 5 ∨ j = 6 ∨ j = 7 := by omega
  rcases this with rfl | rfl | rfl | rfl | rfl | rfl | rfl | rfl
  · exact h0
  · exact h1
  · exact h2
  · exact h3
  · exact h4
  · exact h5
  · exact h6
  · exact h7
end NX

namespace NX
open PySem PySem.Spec PyProof.Rows L2
open Evl (Ex ex_l ex_t fresh_back)
/-! ### lists of pairs of numbers -/
def isPr (H : Hp) (x : V) (q : Int × Int) : Prop := ∃ t, x = .ref t ∧ H t = some (.tup [.int q.1, .int q.2])
abbrev Lks (H : Hp) : List V → List (Int × Int) → Prop := Paired (isPr H)
theorem Lks.mono {G H : Hp} (e : Ex G H) {xs : List V} {ps : List (Int × Int)} (h : Lks G xs ps) : Lks H xs ps := Paired.mapP h fun _ _ ⟨t, a, b⟩ => ⟨t, a, e _ _ b⟩
theorem pr_snoc {α β : Type} {F : α → β → Prop} : ∀ {xs : List α} {ys : List β} {a : α} {b : β}, Paired F xs ys → F a b → Paired F (xs ++ [a]) (ys ++ [b])
  | _, _, _, _, .nil, h => .cons h .nil
  | _, _, _, _, .cons r t, h => .cons r (pr_snoc t h)
theorem pr_len {α β : Type} {F : α → β → Prop} {xs : List α} {ys : List β} (h : Paired F xs ys) : xs.length = ys.length := Paired.length h
theorem pr_get {α β : Type} {F : α → β → Prop} : ∀ {xs : List α} {ys : List β} {i : Nat} {a : α}, Paired F xs ys → xs[i]? = some a → ∃ b, ys[i]? = some b ∧ F a b
  | _, _, _, _, .nil, e => by simp at e
  | _, _, 0, _, .cons r _, e => by simp at e; subst e; exact ⟨_, rfl, r⟩
  | _, _, i + 1, _, .cons _ t, e => by
    obtain ⟨b, h1, h2⟩ := pr_get (i := i) t (by simpa using e)
    exact ⟨b, by simpa using h1, h2⟩
theorem take_snoc {α : Type} : ∀ {l : List α} {i : Nat} {x : α}, l[i]? = some x → l.take (i + 1) = l.take i ++ [x]
  | [], i, x, h => by simp at h
  | a :: l, 0, x, h => by
    have e : a = x := Option.some.inj h
    subst e
    rfl
  | a :: l, i + 1, x, h => by
    have ih := take_snoc (l := l) (i := i) (x := x) h
    show a :: l.take (i + 1) = a :: l.take i ++ [x]
    rw [ih]
    rfl
theorem get_map {α β : Type} {f : α → β} {l : List α} {i : Nat} {y : β} (h : (l.map f)[i]? = some y) : ∃ x, l[i]? = some x ∧ y = f x := by
  rw [List.getElem?_map] at h
  cases e : l[i]? with
  | none => rw [e] at h; cases h
  | some x => rw [e] at h; exact ⟨x, rfl, (Option.some.inj h).symm⟩
/-- range(a, b) -/
def rgI (a b : Int) : List Int := (List.range (b - a).toNat).map fun (i : Nat) => a + (i : Int)
theorem rgV_eq (a b : Int) : rgV a b = (rgI a b).map V.int := by
  unfold rgV rgI
  rw [List.map_map]
  rfl
theorem mem_rgI {a b k : Int} (h : k ∈ rgI a b) : a ≤ k ∧ k < b := by
  obtain ⟨i, hi, rfl⟩ := List.mem_map.mp h
  have := List.mem_range.mp hi
  omega
theorem pr_app {α β : Type} {F : α → β → Prop} : ∀ {xs xs' : List α} {ys ys' : List β}, Paired F xs ys → Paired F xs' ys' → Paired F (xs ++ xs') (ys ++ ys')
  | _, _, _, _, .nil, h => h
  | _, _, _, _, .cons r t, h => .cons r (pr_app t h)
end NX

/-! pairs in order; neighbours: plain Lean -/
namespace NX
abbrev Pr := Int × Int
def leP (x y : Pr) : Bool := decide (x.1 < y.1 ∨ (x.1 = y.1 ∧ x.2 ≤ y.2))
theorem leP_iff {x y : Pr} : leP x y = true ↔ (x.1 < y.1 ∨ (x.1 = y.1 ∧ x.2 ≤ y.2)) := by unfold leP; exact decide_eq_true_iff
theorem leP_total (x y : Pr) : leP x y = true ∨ leP y x = true := by
  rw [leP_iff, leP_iff]; omega
theorem leP_anti {x y : Pr} (h : leP x y = true) (h' : leP y x = true) : x = y := by
  rw [leP_iff] at h h'
  obtain ⟨a, b⟩ := x; obtain ⟨c, d⟩ := y
  simp only at h h'
  have h1 : a = c := by omega
  have h2 : b = d := by omega
  rw [h1, h2]
theorem leP_trans {x y z : Pr} (h : leP x y = true) (h' : leP y z = true) : leP x z = true := by
  rw [leP_iff] at *; omega
def insP (x : Pr) : List Pr → List Pr
  | [] => [x]
  | y :: l => if leP x y then x :: y :: l else y :: insP x l
def sortP : List Pr → List Pr
  | [] => []
  | x :: l => insP x (sortP l)
theorem insP_perm (x : Pr) : ∀ l, (insP x l).Perm (x :: l)
  | [] => List.Perm.refl _
  | y :: l => by
    unfold insP
    split
    · exact List.Perm.refl _
    · exact ((insP_perm x l).cons y).trans (List.Perm.swap x y l)
theorem sortP_perm : ∀ l, (sortP l).Perm l
  | [] => List.Perm.refl _
  | x :: l => (insP_perm x _).trans ((sortP_perm l).cons x)
abbrev Up (l : List Pr) : Prop := l.Pairwise fun x y => leP x y = true
theorem insP_up (x : Pr) : ∀ l, Up l → Up (insP x l)
  | [], _ => List.pairwise_singleton _ _
  | y :: l, h => by
    unfold insP
    split
    · rename_i c
      refine List.pairwise_cons.mpr ⟨fun z hz => ?_, h⟩
      rcases List.mem_cons.mp hz with rfl | hz
      · exact c
      · exact leP_trans c ((List.pairwise_cons.mp h).1 z hz)
    · rename_i c
      have c' : leP y x = true := (leP_total x y).resolve_left c
      refine List.pairwise_cons.mpr ⟨fun z hz => ?_, insP_up x l (List.pairwise_cons.mp h).2⟩
      rcases List.mem_cons.mp ((insP_perm x l).mem_iff.mp hz) with rfl | hz
      · exact c'
      · exact (List.pairwise_cons.mp h).1 z hz
theorem sortP_up : ∀ l, Up (sortP l)
  | [] => List.Pairwise.nil
  | x :: l => insP_up x _ (sortP_up l)
theorem up_uniq : ∀ {l m : List Pr}, Up l → Up m → l.Perm m → l = m
  | [], m, _, _, h => (List.Perm.nil_eq h)
  | x :: l, [], _, _, h => absurd h.length_eq (by simp)
  | x :: l, y :: m, hl, hm, h => by
    have hx : x ∈ y :: m := h.mem_iff.mp List.mem_cons_self
    have hy : y ∈ x :: l := h.mem_iff.mpr List.mem_cons_self
    have e : x = y := by
      rcases List.mem_cons.mp hx with e | hx
      · exact e
      · rcases List.mem_cons.mp hy with e | hy
        · exact e.symm
        · exact leP_anti ((List.pairwise_cons.mp hl).1 y hy) ((List.pairwise_cons.mp hm).1 x hx)
    subst e
    rw [up_uniq (List.pairwise_cons.mp hl).2 (List.pairwise_cons.mp hm).2 h.cons_inv]
theorem sortP_eq {l m : List Pr} (h : Up l) (p : l.Perm m) : l = sortP m := up_uniq h (sortP_up m) (p.trans (sortP_perm m).symm)
theorem sortP_congr {l m : List Pr} (p : l.Perm m) : sortP l = sortP m := up_uniq (sortP_up l) (sortP_up m) (((sortP_perm l).trans p).trans (sortP_perm m).symm)
theorem sortP_id {l : List Pr} (h : Up l) : sortP l = l := (sortP_eq h (List.Perm.refl l)).symm
theorem sortP_len (l : List Pr) : (sortP l).length = l.length := (sortP_perm l).length_eq
theorem mem_sortP {l : List Pr} {q : Pr} : q ∈ sortP l ↔ q ∈ l := (sortP_perm l).mem_iff
/-- the neighbours of i, in the order of the links -/
def nb (ks : List Pr) (i : Int) : List Int := ks.filterMap fun q => if q.1 = i then some q.2 else if q.2 = i then some q.1 else none
theorem nb_app (ks ls : List Pr) (i : Int) : nb (ks ++ ls) i = nb ks i ++ nb ls i := by unfold nb; rw [List.filterMap_append]
theorem nb_one (q : Pr) (i : Int) : nb [q] i = if q.1 = i then [q.2] else if q.2 = i then [q.1] else [] := by
  show (([q] : List Pr).filterMap fun q => if q.1 = i then some q.2 else if q.2 = i then some q.1 else none) = _
  rw [List.filterMap_cons]
  by_cases h : q.1 = i
  · simp [h]
  · by_cases h2 : q.2 = i
    · simp [h, h2]
    · simp [h, h2]
theorem mem_nb {ks : List Pr} {i j : Int} : j ∈ nb ks i ↔ (i, j) ∈ ks ∨ (j, i) ∈ ks ∧ j ≠ i := by
  unfold nb
  rw [List.mem_filterMap]
  constructor
  · rintro ⟨⟨a, b⟩, hq, h⟩
    simp only at h
    by_cases h1 : a = i
    · rw [if_pos h1] at h
      cases h
      subst h1
      exact .inl hq
    · rw [if_neg h1] at h
      by_cases h2 : b = i
      · rw [if_pos h2] at h
        cases h
        subst h2
        exact .inr ⟨hq, h1⟩
      · rw [if_neg h2] at h
        cases h
  · rintro (h | ⟨h, ne⟩)
    · exact ⟨(i, j), h, by simp⟩
    · exact ⟨(j, i), h, by simp [ne]⟩
/-- a network's links: each the smaller station first -/
def Okl (n : Nat) (ks : List Pr) : Prop := ∀ q ∈ ks, 0 ≤ q.1 ∧ q.1 < q.2 ∧ q.2 < (n : Int)
theorem mem_nb' {n : Nat} {ks : List Pr} (h : Okl n ks) {i j : Int} : j ∈ nb ks i ↔ (i, j) ∈ ks ∨ (j, i) ∈ ks := by
  rw [mem_nb]
  constructor
  · rintro (a | a)
    · exact .inl a
    · exact .inr a.1
  · rintro (a | a)
    · exact .inl a
    · exact .inr ⟨a, by have := h _ a; simp only at this; omega⟩
theorem nb_sym {n : Nat} {ks : List Pr} (h : Okl n ks) {i j : Int} : j ∈ nb ks i ↔ i ∈ nb ks j := by
  rw [mem_nb' h, mem_nb' h]
  exact ⟨fun a => a.symm, fun a => a.symm⟩
theorem nb_rng {n : Nat} {ks : List Pr} (h : Okl n ks) {i j : Int} (m : j ∈ nb ks i) : 0 ≤ j ∧ j < n ∧ j ≠ i ∧ 0 ≤ i ∧ i < n := by
  rw [mem_nb' h] at m
  rcases m with m | m
  · have := h _ m; simp only at this; omega
  · have := h _ m; simp only at this; omega
theorem Okl.sort {n : Nat} {ks : List Pr} (h : Okl n ks) : Okl n (sortP ks) := fun q hq => h q (mem_sortP.mp hq)
/-- the neighbours of a sorted list of links are in ascending order -/
theorem nb_up {n : Nat} : ∀ {ks : List Pr}, Okl n ks → Up ks → ks.Nodup → ∀ i, (nb ks i).Pairwise (· < ·)
  | [], _, _, _, _ => List.Pairwise.nil
  | q :: ks, h, u, d, i => by
    have h' : Okl n ks := fun q hq => h q (List.mem_cons_of_mem _ hq)
    have u' := List.pairwise_cons.mp u
    have d' := List.nodup_cons.mp d
    have ih := nb_up h' u'.2 d'.2 i
    have e : nb (q :: ks) i = nb [q] i ++ nb ks i := nb_app [q] ks i
    rw [e, nb_one]
    have hq := h q List.mem_cons_self
    obtain ⟨a, b⟩ := q
    simp only at hq ⊢
    by_cases h1 : a = i
    · rw [if_pos h1]
      refine List.pairwise_cons.mpr ⟨fun z hz => ?_, ih⟩
      subst h1
      rcases (mem_nb' h').mp hz with m | m
      · have c := leP_iff.mp (u'.1 _ m)
        simp only at c
        have ne : b ≠ z := fun z' => by subst z'; exact d'.1 m
        omega
      · have c := leP_iff.mp (u'.1 _ m)
        have c2 := h' _ m
        simp only at c c2
        omega
    · rw [if_neg h1]
      by_cases h2 : b = i
      · rw [if_pos h2]
        refine List.pairwise_cons.mpr ⟨fun z hz => ?_, ih⟩
        subst h2
        rcases (mem_nb' h').mp hz with m | m
        · have c := h' _ m
          have c2 := leP_iff.mp (u'.1 _ m)
          simp only at c c2
          omega
        · have c := leP_iff.mp (u'.1 _ m)
          simp only at c
          have ne : a ≠ z := fun z' => by subst z'; exact d'.1 m
          omega
      · rw [if_neg h2]
        exact ih
theorem nb_nodup {n : Nat} {ks : List Pr} (h : Okl n ks) (u : Up ks) (d : ks.Nodup) (i : Int) : (nb ks i).Nodup :=
  (nb_up h u d i).imp fun {a b} (c : a < b) => by omega
/-- not more neighbours than stations -/
theorem up_len : ∀ {l : List Int} {lo hi : Int}, l.Pairwise (· < ·) → (∀ x ∈ l, lo ≤ x ∧ x < hi) → l = [] ∨ (l.length : Int) ≤ hi - lo
  | [], _, _, _, _ => .inl rfl
  | x :: l, lo, hi, h, b => by
    have h' := List.pairwise_cons.mp h
    have bx := b x List.mem_cons_self
    refine .inr ?_
    rcases up_len (lo := x + 1) (hi := hi) h'.2 (fun y hy => ⟨by have := h'.1 y hy; omega, (b y (List.mem_cons_of_mem _ hy)).2⟩) with e | e
    · subst e
      show ((0 + 1 : Nat) : Int) ≤ _
      omega
    · rw [List.length_cons]
      omega
theorem I_len {n : Nat} {ks : List Pr} (h : Okl n ks) (u : Up ks) (d : ks.Nodup) (i : Int) : (nb ks i).length ≤ n := by
  rcases up_len (lo := 0) (hi := (n : Int)) (nb_up h u d i) (fun x hx => by have := nb_rng h hx; omega) with e | e
  · rw [e]; exact Nat.zero_le _
  · omega
end NX

namespace NX
open PySem PySem.Spec PyProof.Rows L2
open Evl (Ex ex_l ex_t fresh_back)
/-! ### pairs as data -/
def pd (q : Pr) : PyData := .tuple [.int q.1, .int q.2]
theorem dp_pr {K : PySem.W.Frag} {H : Hp} {x : V} {q : Pr} (h : isPr H x q) : Dp K H x (pd q) := by
  obtain ⟨t, rfl, ht⟩ := h
  exact .tup (SqT.of ht) (.cons (.int _) (.cons (.int _) .nil))
theorem dp_lks {K : PySem.W.Frag} {H : Hp} : ∀ {xs : List V} {ps : List Pr}, Lks H xs ps → DpAll K H xs (ps.map pd)
  | _, _, .nil => .nil
  | _, _, .cons r t => .cons (dp_pr r) (dp_lks t)
theorem lay_lks : ∀ ps : List Pr, PyData.canLayAll0 (ps.map pd) = true
  | [] => by rw [List.map_nil]; unfold PyData.canLayAll0; rfl
  | q :: ps => by
    rw [List.map_cons]
    unfold PyData.canLayAll0
    rw [lay_lks ps]
    show (PyData.canLay0 (.tuple [.int q.1, .int q.2]) && true) = true
    simp only [PyData.canLay0, PyData.canLayAll0, Bool.and_self]
theorem depth_lks : ∀ ps : List Pr, PyData.depthAll (ps.map pd) ≤ 1
  | [] => by rw [List.map_nil]; unfold PyData.depthAll; omega
  | q :: ps => by
    rw [List.map_cons]
    unfold PyData.depthAll
    have h := depth_lks ps
    have e : PyData.depth (pd q) = 1 := by
      show PyData.depth (.tuple [.int q.1, .int q.2]) = 1
      simp [PyData.depth, PyData.depthAll]
    rw [e]
    omega
theorem shaped_lks (ps : List Pr) : SeqAt.shaped (.list (ps.map pd)) = true := by
  unfold SeqAt.shaped
  have h := depth_lks ps
  rw [Bool.and_eq_true]
  refine ⟨?_, decide_eq_true ?_⟩
  · simp only [PyData.canLay0]
    exact lay_lks ps
  · simp only [PyData.depth]
    omega
theorem shaped_pd (q : Pr) : SeqAt.shaped (pd q) = true := by
  unfold SeqAt.shaped pd
  simp [PyData.canLay0, PyData.canLayAll0, PyData.depth, PyData.depthAll]
theorem eqv_pd (z q : Pr) : PyData.eqv (pd z) (pd q) = decide (z = q) := by
  unfold pd
  simp only [PyData.eqv, PyData.eqvAll, Bool.and_true]
  obtain ⟨a, b⟩ := z; obtain ⟨c, d⟩ := q
  rw [Bool.eq_iff_iff]
  simp
theorem any_pd (ps : List Pr) (q : Pr) : ((ps.map pd).any fun z => PyData.eqv z (pd q)) = decide (q ∈ ps) := by
  rw [List.any_map, Bool.eq_iff_iff, List.any_eq_true]
  simp only [Function.comp, eqv_pd, decide_eq_true_eq]
  exact ⟨fun ⟨x, hx, e⟩ => e ▸ hx, fun h => ⟨q, h, rfl⟩⟩
theorem eqvAll_lks : ∀ ps qs : List Pr, PyData.eqvAll (ps.map pd) (qs.map pd) = decide (ps = qs)
  | [], [] => by simp [PyData.eqvAll]
  | [], q :: qs => by simp [PyData.eqvAll]
  | p :: ps, [] => by simp [PyData.eqvAll]
  | p :: ps, q :: qs => by
    rw [List.map_cons, List.map_cons, PyData.eqvAll, eqv_pd, eqvAll_lks ps qs, Bool.eq_iff_iff]
    simp
theorem eqv_lks (ps qs : List Pr) : PyData.eqv (.list (ps.map pd)) (.list (qs.map pd)) = decide (ps = qs) := by
  rw [PyData.eqv]; exact eqvAll_lks ps qs
/-- the pair that a tuple holds -/
def kOf (H : Hp) (x : V) : Pr := match x with
  | .ref t => (match H t with
    | some (.tup [.int i, .int j]) => (i, j)
    | _ => (0, 0))
  | _ => (0, 0)
theorem kOf_pr {H : Hp} {x : V} {q : Pr} (h : isPr H x q) : kOf H x = q := by
  obtain ⟨t, rfl, ht⟩ := h
  unfold kOf
  simp only [ht]
theorem lks_k {H : Hp} : ∀ {xs : List V} {ps : List Pr}, Lks H xs ps → xs.map (kOf H) = ps ∧ ∀ x ∈ xs, isPr H x (kOf H x)
  | _, _, .nil => ⟨rfl, fun _ h => nomatch h⟩
  | _, _, .cons r t => by
    obtain ⟨h1, h2⟩ := lks_k t
    refine ⟨by rw [List.map_cons, kOf_pr r, h1], fun x hx => ?_⟩
    rcases List.mem_cons.mp hx with rfl | hx
    · rw [kOf_pr r]; exact r
    · exact h2 x hx
theorem lks_of {H : Hp} : ∀ {ys : List V}, (∀ x ∈ ys, isPr H x (kOf H x)) → Lks H ys (ys.map (kOf H))
  | [], _ => .nil
  | y :: ys, h => .cons (h y List.mem_cons_self) (lks_of fun x hx => h x (List.mem_cons_of_mem _ hx))
/-- sorted(links) -/
theorem n_sortP {K : PySem.W.Frag} {G H : Hp} {L : List (Addr × HO)} {a : Addr} {xs : List V} {ps : List Pr} {Q : VK} {G0 : Hp} (S : Own G L H) (hx : SqL K H a xs) (e0 : Ex G0 H) (hl : Lks G0 xs ps)
    (k : ∀ p ys G1 H1, H p = none → Ex G G1 → Ex H H1 → G1 p = some (.lst ys) → Lks G0 ys (sortP ps) → Own G1 L H1 → Q (.ref p) H1) : rSortedPO K [.ref a] H Q := by
  obtain ⟨h1, h2⟩ := lks_k hl
  refine ⟨a, xs, kOf G0, rfl, hx, fun x m => ?_, fun ys p hs hb hp => ?_⟩
  · obtain ⟨t, e, ht⟩ := h2 x m
    exact ⟨t, e, e0 _ _ ht⟩
  · have hy : Lks G0 ys (ys.map (kOf G0)) := lks_of fun x m => h2 x (hb.perm.mem_iff.mp m)
    have e : ys.map (kOf G0) = sortP ps := by
      refine sortP_eq ?_ ?_
      · refine List.pairwise_map.mpr (hs.imp fun {x y} (c : ltP (kOf G0) y x = false) => ?_)
        have z := SrtO.lexB_no.mp c
        rw [leP_iff]
        omega
      · rw [← h1]
        exact hb.perm.map _
    rw [e] at hy
    exact k p ys _ _ hp (S.still hp).2.1 (Ex.new hp) (S.still hp).2.2 hy (S.still hp).1
/-! ### a network in the heap -/
def NF (kp np : Addr) : List (Str × V) := putF "near" (.ref np) (putF "kept" (.ref kp) [])
theorem nf_near (kp np : Addr) : (NF kp np).lookup ("near" : Str) = some (.ref np) := by unfold NF; rw [lookup_putF, if_pos rfl]
theorem nf_kept (kp np : Addr) : (NF kp np).lookup ("kept" : Str) = some (.ref kp) := by
  unfold NF
  rw [lookup_putF, if_neg (by decide +kernel), lookup_putF, if_pos rfl]
theorem nf_no (kp np : Addr) {m : Str} (h1 : ¬ m = "near") (h2 : ¬ m = "kept") : (NF kp np).lookup m = none := by
  unfold NF
  rw [lookup_putF, if_neg h1, lookup_putF, if_neg h2]
  all_goals rfl
/-- what stands at a network's addresses -/
structure NetO (C : Addr) (H : Hp) (a : Addr) (dx kp np : Addr) (xs : List V) (nps : List Addr) (n : Nat) (ks : List Pr) : Prop where
  ins : H a = some (.ins C dx (NF kp np))
  kept : H kp = some (.lst xs)
  lks : Lks H xs ks
  near : H np = some (.lst (nps.map V.ref))
  len : nps.length = n
  each : ∀ (i : Nat) (p : Addr), nps[i]? = some p → H p = some (.lst ((nb ks (i : Int)).map V.int))
structure NetAt (C : Addr) (H : Hp) (a : Addr) (n : Nat) (ks : List Pr) : Prop where
  at_ : ∃ dx kp np xs nps, NetO C H a dx kp np xs nps n ks
  ok : Okl n ks
  up : Up ks
  nd : ks.Nodup
  sz : 1 ≤ n ∧ n ≤ 60
theorem NetO.mono {C : Addr} {G H : Hp} {a dx kp np : Addr} {xs : List V} {nps : List Addr} {n : Nat} {ks : List Pr} (h : NetO C G a dx kp np xs nps n ks) (e : Ex G H) : NetO C H a dx kp np xs nps n ks :=
  ⟨e _ _ h.ins, e _ _ h.kept, h.lks.mono e, e _ _ h.near, h.len, fun i p q => e _ _ (h.each i p q)⟩
theorem NetAt.mono {C : Addr} {G H : Hp} {a : Addr} {n : Nat} {ks : List Pr} (h : NetAt C G a n ks) (e : Ex G H) : NetAt C H a n ks :=
  ⟨let ⟨dx, kp, np, xs, nps, o⟩ := h.at_; ⟨dx, kp, np, xs, nps, o.mono e⟩, h.ok, h.up, h.nd, h.sz⟩
/-- what the text says of the class -/
structure NetC (K : PySem.W.Frag) (C : Addr) : Prop where
  cl : Cls K C
  nK : NoAttr K C "kept"
  nN : NoAttr K C "near"
  ha : PySem.W.findIn K (.ref C) "__class__" = some (some (.builtin "object.__class__"))
  hn : PySem.W.specialIn K (.builtin "object.__class__") "__get__" = some (some (.builtin "getset_descriptor.__get__"))
  ht : PySem.W.takesIn K (.builtin "object.__class__") = some true
  hm : PySem.W.mroIn K C (.type "object") = some true
  kit : PySem.W.kitOne K (.ref C) (.ref C) = some true
  ne : PySem.W.findIn K (.ref C) "__ne__" = some (some (.builtin "object.__ne__"))
end NX

namespace NX
open PySem PySem.Spec PyProof.Rows L2
open Evl (Ex ex_l ex_t fresh_back)
theorem IsT.tup {K : PySem.W.Frag} {H : Hp} {t : Addr} {xs : List V} (h : H t = some (.tup xs)) : IsT K H (.ref t) "tuple" := ⟨.base (.tup h), by decide +kernel⟩
theorem IsT.lst {K : PySem.W.Frag} {H : Hp} {t : Addr} {xs : List V} (h : H t = some (.lst xs)) : IsT K H (.ref t) "list" := ⟨.base (.lst h), by decide +kernel⟩
theorem n_isiTup {K : PySem.W.Frag} {H : Hp} {t : Addr} {xs : List V} {Q : VK} (h : H t = some (.tup xs)) (k : Q (.bl true) H) : rIsi K [.ref t, .ty "tuple"] H Q := ⟨_, _, _, _, _, rfl, .ty _, .base (.tup h), kit_ty (by decide +kernel), k⟩
theorem n_isiLst {K : PySem.W.Frag} {H : Hp} {t : Addr} {xs : List V} {Q : VK} (h : H t = some (.lst xs)) (k : Q (.bl true) H) : rIsi K [.ref t, .ty "list"] H Q := ⟨_, _, _, _, _, rfl, .ty _, .base (.lst h), kit_ty (by decide +kernel), k⟩
abbrev s_is_link : Stmt := top 13
theorem sc_is_link : FnScope ["value", "stations", "part"] ["value", "stations"] (defScope s_is_link) := ⟨rfl, rfl, rfl, by decide +kernel, rfl, by decide +kernel, by decide +kernel⟩
def spIsLink : Sp := fun vs H Q _ => ∃ (t : Addr) (a b n : Int), vs = [.ref t, .int n] ∧ H t = some (.tup [.int a, .int b]) ∧ (0 ≤ a ∧ a < b ∧ b < n) ∧ ∀ H', Ex H H' → Q (.bl true) H'
section
variable {P : Program} {w : World} {K : PySem.W.Frag} {mg : Str → Option Value} {base : Heap}
theorem ok_is_link {f : Addr} {fd : FuncData} (F : Fun K "is_link" "is_link" s_is_link f fd) (T : Txt mg) (c_is_int : Cal P w K mg base 1 "is_int" ["value"] [] (spIsInt K)) : FnOk P w K mg base CX0 2 f fd ["value", "stations"] spIsLink := by
  refine F.ok sc_is_link (fun vs H Q E h => ?_) (fun cdv A outer s H vs Q E hr h => ?_)
  · obtain ⟨t, a, b, n, rfl, _⟩ := h
    rfl
  · obtain ⟨t, a, b, n, rfl, ht, hb, k⟩ := h
    refine ⟨_, (pss_cons (ps_if (PW.pt (pw_or (pt_not (pt_val (pe_callB call_isi (by rfl) T.n_isinstance (by decide +kernel) (pa_cons (pv 0) (pa_cons (pe_bltn (v := .ty "tuple") (by rfl) T.n_tuple (by decide +kernel) rfl) pa_nil))))) (pw_or (pt_cmpR op_ne (pe_callB call_lenN (by rfl) T.n_len (by decide +kernel) (pa_cons (pv 0) pa_nil)) pe_int (nomark _)) (pw_or1 (pt_not (pt_val (pe_callB (cr_all rfl) (by rfl) T.n_all (by decide +kernel) (pa_cons (pe_lc (own := [("part", 2)]) (by rfl) sc_is_link.nd (pi_tup (pv 0)) (blkOk_by (own := [("part", 2)]) (N := ["value", "stations", "part"]) (sc := defScope s_is_link) (by decide +kernel)) (fun _ _ _ _ _ => (pg_name (i := 2) sc_is_link.nd rfl (Or.inl rfl))) (fun _ _ _ _ _ => pts_nil) (fun _ _ _ _ _ => (pe_cal c_is_int (hr.mono (by first | decide | omega)) passN (pa_cons (pv 2) pa_nil)))) pa_nil)))))))) (pss_one (ps_ret pe_bl)) pss_nil)
      (pss_one (ps_ret (pe_chain3 op_le op_lt op_lt pe_int (pe_ix ix_tup (pv 0) pe_int (fun _ _ => rfl)) (pe_ix ix_tup (pv 0) pe_int (fun _ _ => rfl)) (pv 1))))), ?_⟩
    walk_at "go"
    refine n_isiTup ht ?_
    walk_at "go"
    refine n_lenT (SqT.of ht) ?_
    walk_at "go"
    refine if_ff (by rfl) ?_
    walk_at "go"
    refine v_tup (xs := [.int a, .int b]) (fun i acc G' L' => G' = H ∧ L' = [] ∧ acc = List.replicate i (.bl true)) (Own.start H) (SqT.of ht) (by show 2 ≤ 1000000; decide) ⟨rfl, rfl, rfl⟩ ?_ ?_
    · rintro D i x acc G1 L1 H1 hx hi e hl ⟨rfl, rfl, rfl⟩ S
      obtain ⟨z, rfl⟩ : ∃ z : Int, x = .int z := by
        match i, hx with
        | 0, hx => exact ⟨a, (Option.some.inj hx).symm⟩
        | 1, hx => exact ⟨b, (Option.some.inj hx).symm⟩
        | i + 2, hx => simp at hx
      walk_at "go"
      refine ⟨rfl, ?_⟩
      walk_at "go"
      refine g_isint ?_
      exact c_yes S e hl hi ⟨rfl, rfl, List.replicate_succ'.symm⟩
    · rintro p acc G1 L1 H1 e hl ⟨rfl, rfl, rfl⟩ S
      walk_at "go"
      refine ⟨p, [true, true], rfl, S.l0, ?_⟩
      walk_at "go"
      refine if_ff (by rfl) ?_
      walk_at "go"
      refine g_ixT (i := 0) (S.st (SqT.of ht)) rfl ?_
      walk_at "go"
      refine if_tt (dtrue hb.1) ?_
      walk_at "go"
      refine g_ixT (i := 1) (S.st (SqT.of ht)) rfl ?_
      walk_at "go"
      refine if_tt (dtrue hb.2.1) ?_
      walk_at "go"
      rw [dtrue hb.2.2]
      exact k _ S.ex
end
end NX

namespace NX
open PySem PySem.Spec PyProof.Rows L2
open Evl (Ex ex_l ex_t fresh_back)
/-! ### lists of lists: near -/
def nearL (nps : List Addr) (g : Nat → List Int) : List (Addr × HO) := nps.zipIdx.map fun x => (x.1, .lst ((g x.2).map V.int))
theorem nearL_get {nps : List Addr} {g : Nat → List Int} {i : Nat} {p : Addr} (h : nps[i]? = some p) : (nearL nps g)[i]? = some (p, .lst ((g i).map V.int)) := by
  unfold nearL
  rw [List.getElem?_map, List.getElem?_zipIdx, h]
  simp
theorem nearL_none {nps : List Addr} {g : Nat → List Int} {i : Nat} (h : nps[i]? = none) : (nearL nps g)[i]? = none := by
  unfold nearL
  rw [List.getElem?_map, List.getElem?_zipIdx, h]
  simp
theorem nearL_set {nps : List Addr} {g g' : Nat → List Int} {i : Nat} {p : Addr} (h : nps[i]? = some p) (hg : ∀ j, j ≠ i → g' j = g j) : (nearL nps g).set i (p, .lst ((g' i).map V.int)) = nearL nps g' := by
  refine List.ext_getElem? fun j => ?_
  by_cases c : i = j
  · subst c
    have hl : i < (nearL nps g).length := (List.getElem?_eq_some_iff.mp (nearL_get h)).1
    rw [List.getElem?_set_self hl, nearL_get h]
  · rw [List.getElem?_set_ne c]
    cases q : nps[j]? with
    | none => rw [nearL_none q, nearL_none q]
    | some r => rw [nearL_get q, nearL_get q, hg j (Ne.symm c)]
theorem nearL_snoc (nps : List Addr) (p : Addr) (g : Nat → List Int) : nearL (nps ++ [p]) g = nearL nps g ++ [(p, .lst ((g nps.length).map V.int))] := by
  unfold nearL
  rw [List.zipIdx_append, List.map_append]
  simp
theorem nearL_len (nps : List Addr) (g : Nat → List Int) : (nearL nps g).length = nps.length := by unfold nearL; simp
theorem nb_one_n {n : Nat} {q : Pr} {a b : Nat} (ha : q.1 = (a : Int)) (hb : q.2 = (b : Int)) (hne : a ≠ b) (ks : List Pr) (j : Nat) :
    nb (ks ++ [q]) (j : Int) = if j = a then nb ks (j : Int) ++ [(b : Int)] else if j = b then nb ks (j : Int) ++ [(a : Int)] else nb ks (j : Int) := by
  rw [nb_app, nb_one, ha, hb]
  by_cases h1 : j = a
  · subst h1; simp
  · have h1' : ¬ (a : Int) = (j : Int) := by omega
    rw [if_neg h1', if_neg h1]
    by_cases h2 : j = b
    · subst h2; simp
    · have h2' : ¬ (b : Int) = (j : Int) := by omega
      rw [if_neg h2', if_neg h2, List.append_nil]
theorem pr_take {α β : Type} {F : α → β → Prop} : ∀ {xs : List α} {ys : List β}, Paired F xs ys → ∀ i, Paired F (xs.take i) (ys.take i)
  | _, _, _, 0 => .nil
  | _, _, .nil, i + 1 => .nil
  | _, _, .cons r t, i + 1 => .cons r (pr_take t i)
theorem nodup_take {α : Type} {l : List α} (h : l.Nodup) {i : Nat} {q : α} (e : l[i]? = some q) : q ∉ l.take i := fun m => by
  obtain ⟨j, hj, e2⟩ := List.mem_iff_getElem.mp m
  have hj' : j < i ∧ j < l.length := by rw [List.length_take] at hj; omega
  have e3 : l[j]? = some q := by rw [← e2, List.getElem_take, List.getElem?_eq_getElem hj'.2]
  obtain ⟨h1, q1⟩ := List.getElem?_eq_some_iff.mp e
  obtain ⟨h2, q2⟩ := List.getElem?_eq_some_iff.mp e3
  have z := (List.getElem_inj h).mp (q1.trans q2.symm)
  omega
theorem perm_mid {α : Type} (a b c : α) (l : List α) : (b :: c :: (l ++ [a])).Perm (a :: b :: c :: l) :=
  ((List.perm_append_singleton a (b :: c :: l)))
abbrev s_Network___init__ : Stmt := inClass (top 14) 0
theorem sc_Network___init__ : FnScope ["self", "stations", "links", "index", "link", "one", "other", "station"] ["self", "stations", "links"] (defScope s_Network___init__) := ⟨rfl, rfl, rfl, by decide +kernel, rfl, by decide +kernel, by decide +kernel⟩
def spInit (C : Addr) : Sp := fun vs H Q _ => ∃ (x lp dx : Addr) (n : Nat) (xs : List V) (ps : List Pr) (G : Hp), vs = [.ref x, .int (n : Int), .ref lp] ∧ Own G [(x, .ins C dx [])] H ∧ G lp = some (.lst xs) ∧ Lks G xs ps ∧
  Okl n ps ∧ ps.Nodup ∧ 1 ≤ n ∧ n ≤ 60 ∧ ps.length ≤ 10000 ∧ ∀ H', Ex G H' → NetAt C (nw G H') x n (sortP ps) → Q .non H'
section
variable {P : Program} {w : World} {K : PySem.W.Frag} {mg : Str → Option Value} {base : Heap}
theorem ok_init {f C : Addr} {fd : FuncData} (F : Fun K "__init__" "Network.__init__" s_Network___init__ f fd) (T : Txt mg) (N : NetC K C) (c_is_int : Cal P w K mg base 1 "is_int" ["value"] [] (spIsInt K))
    (c_is_link : Cal P w K mg base 2 "is_link" ["value", "stations"] [] spIsLink) : FnOk P w K mg base CX0 3 f fd ["self", "stations", "links"] (spInit C) := by
  refine F.ok sc_Network___init__ (fun vs H Q E h => ?_) (fun cdv A outer s H vs Q E hr h => ?_)
  · obtain ⟨x, lp, dx, n, xs, ps, G, rfl, _⟩ := h
    rfl
  · obtain ⟨x, lp, dx, n, xs, ps, G, rfl, S0, hlp, hl, hok, hnd, h1, h60, hz, k⟩ := h
    have hu65 : ∀ X : Cx, X.A = A.deeper (envOfC "Network.__init__" (defScope s_Network___init__) s.heap.objs.size f cdv) → X.A.units + 65 < cLine := fun X e => by rw [e]; have := hr.un; omega
    refine ⟨_, (pss_cons (ps_if (PW.pt (pw_or (pt_not (pt_val (pe_cal c_is_int (hr.mono (by first | decide | omega)) passN (pa_cons (pv 1) pa_nil)))) (pw_or (pt_not (pt_chain op_le op_le pe_int (pv 1) (pe_cst (by rfl) T.m_MAX_STATIONS))) (pw_or1 (pt_not (pt_val (pe_callB call_isi (by rfl) T.n_isinstance (by decide +kernel) (pa_cons (pv 2) (pa_cons (pe_bltn (v := .ty "list") (by rfl) T.n_list (by decide +kernel) rfl) pa_nil))))))))) (pss_one ps_never) pss_nil)
      (pss_cons (ps_for PassesOwn.never rfl (pi_enum (by rfl) T.n_enumerate (pa_cons (pv 2) pa_nil)) (pg_tup (n := 2) rfl (pgs_cons (pg_name (i := 3) sc_Network___init__.nd rfl (Or.inl rfl)) (pgs_cons (pg_name (i := 4) sc_Network___init__.nd rfl (Or.inl rfl)) pgs_nil))) (pss_one (ps_if (PW.pt (pw_or (pt_not (pt_val (pe_cal c_is_link (hr.mono (by first | decide | omega)) passN (pa_cons (pv 4) (pa_cons (pv 1) pa_nil))))) (pw_or1 (pt_cmpR (op_inD (hu65 _ rfl)) (pv 4) (pe_slice sl_list (pv 2) po_none (po_some (pv 3))) rfl)))) (pss_one ps_never) pss_nil)))
      (pss_cons (ps_fld (pv 0) (pe_callB cr_sortedPO (by rfl) T.n_sorted (by decide +kernel) (pa_cons (pv 2) pa_nil)) rfl)
      (pss_cons (ps_fld (pv 0) (pe_lc (own := [("station", 7)]) (by rfl) sc_Network___init__.nd (pi_range1 (by rfl) T.n_range (pa_cons (pv 1) pa_nil)) (blkOk_by (own := [("station", 7)]) (N := ["self", "stations", "links", "index", "link", "one", "other", "station"]) (sc := defScope s_Network___init__) (by decide +kernel)) (fun _ _ _ _ _ => (pg_name (i := 7) sc_Network___init__.nd rfl (Or.inl rfl))) (fun _ _ _ _ _ => pts_nil) (fun _ _ _ _ _ => (pe_lst pa_nil))) rfl)
      (pss_one (ps_for PassesOwn.never rfl (pi_list (pe_fld (pv 0) rfl)) (pg_tup (n := 2) rfl (pgs_cons (pg_name (i := 5) sc_Network___init__.nd rfl (Or.inl rfl)) (pgs_cons (pg_name (i := 6) sc_Network___init__.nd rfl (Or.inl rfl)) pgs_nil))) (pss_cons (ps_expr (pe_bm PySem.F.plainAttrs_list PySem.F.slot_list_append PySem.F.type_list_append mt_append (pe_ix ix_list (pe_fld (pv 0) rfl) (pv 5) (fun _ _ => rfl)) (pa_cons (pv 6) pa_nil)))
      (pss_one (ps_expr (pe_bm PySem.F.plainAttrs_list PySem.F.slot_list_append PySem.F.type_list_append mt_append (pe_ix ix_list (pe_fld (pv 0) rfl) (pv 6) (fun _ _ => rfl)) (pa_cons (pv 5) pa_nil))))))))))), ?_⟩
    walk_at "go"
    refine g_isint ?_
    walk_at "go"
    refine if_tt (dtrue (by omega)) ?_
    walk_at "go"
    refine if_ff (ntrue (by omega)) ?_
    walk_at "go"
    refine n_isiLst (S0.ex _ _ hlp) ?_
    walk_at "go"
    refine w_enum (fun i σ' H' => (∃ x1 x2 x3 x4 x5, σ' = [some (.ref x), some (.int (n : Int)), some (.ref lp), x1, x2, x3, x4, x5]) ∧ ∃ G', Ex G G' ∧ Own G' [(x, .ins C dx [])] H') (SqL.of (S0.ex _ _ hlp)) ⟨⟨_, _, _, _, _, rfl⟩, G, Ex.refl G, S0⟩ (fun i σ' H' ⟨_, G', e, S⟩ => SqL.of (S.ex _ _ (e _ _ hlp))) ?_ ?_
    · rintro i y T σ' H' hy ⟨⟨x1, x2, x3, x4, x5, rfl⟩, G', e, S⟩ hT
      obtain ⟨q, hq, t, rfl, ht⟩ := pr_get hl hy
      have hb := hok q (List.mem_of_getElem? hq)
      have S1 := (S.still (o := .tup [.int (i : Int), .ref t]) hT).1
      have e1 := e.trans (S.still (o := .tup [.int (i : Int), .ref t]) hT).2.1
      refine s_gtup (SqT.of upd_same) rfl ?_
      walk_at "go"
      refine ⟨t, q.1, q.2, n, rfl, S1.ex _ _ (e1 _ _ ht), hb, fun H2 e2 => ?_⟩
      have S2 := S1.grow e2
      walk_at "go"
      refine n_sl S2 (SqL.of (S2.ex _ _ (e1 _ _ hlp))) fun p G3 H3 _ e3 _ hp S3 => ?_
      have e13 := e1.trans e3
      rw [cutV_to] at hp
      have hlt : Lks G (xs.take i) (ps.take i) := by
        have z := hl
        exact pr_take z i
      refine ⟨pd q, (ps.take i).map pd, dp_pr ⟨t, rfl, S3.ex _ _ (e13 _ _ ht)⟩, .lst (SqL.of (S3.ex _ _ hp)) (dp_lks (hlt.mono (e13.trans S3.ex))), shaped_pd q, shaped_lks _, ?_⟩
      rw [any_pd, dfalse (nodup_take hnd hq)]
      walk_at "go"
      exact ⟨⟨_, _, _, _, _, rfl⟩, G3, e13, S3⟩
    · rintro σ' H' ⟨⟨x1, x2, x3, x4, x5, rfl⟩, G1, e1, S1⟩
      walk_at "go"
      refine n_sortP S1 (SqL.of (S1.ex _ _ (e1 _ _ hlp))) (e1.trans S1.ex) hl fun kp ys G2 H2 hkp e2 e2' hk2 hl2 S2 => ?_
      walk_at "go"
      refine n_setF S2 N.cl N.nK (by decide) fun H3 S3 => ?_
      walk_at "go"
      refine v_rng1 (j := (n : Int)) (fun i acc G' L' => G' = G2 ∧ ∃ nps : List Addr, nps.length = i ∧ acc = nps.map V.ref ∧ L' = (x, .ins C dx (putF "kept" (.ref kp) [])) :: nearL nps fun _ => []) S3 (by omega) ⟨rfl, [], rfl, rfl, rfl⟩ ?_ ?_
      · rintro D i acc G' L' H4 hi hi' e4 hl4 ⟨rfl, nps, rfl, rfl, rfl⟩ S4
        walk_at "go"
        refine ⟨rfl, ?_⟩
        walk_at "go"
        refine n_lst S4 (by decide) fun p H5 hp S5 => ?_
        refine c_yes (acc := nps.map V.ref) (L1 := (x, .ins C dx (putF "kept" (.ref kp) [])) :: nearL (nps ++ [p]) fun _ => []) (S5.perm ?_) e4 (by rw [List.length_map]; exact Nat.le_refl _) hi' ⟨rfl, nps ++ [p], by rw [List.length_append]; rfl, by rw [List.map_append] <;> rfl, rfl⟩
        rw [nearL_snoc]
        exact (perm_mid _ _ _ _)
      · rintro np acc G' L' H4 e4 _ ⟨rfl, nps, hlen, rfl, rfl⟩ S4
        have hlen : nps.length = n := by omega
        walk_at "go"
        refine n_setF S4.swap N.cl N.nN (by show 1 < 1000; decide) fun H5 S5 => ?_
        obtain ⟨S6, e6, hnp⟩ := S5.swap.freeze
        have hnG : Ex G (upd G' np (.lst (nps.map V.ref))) := (e1.trans e2).trans e6
        generalize upd G' np (.lst (nps.map V.ref)) = G6 at S6 e6 hnp hnG
        have hkp6 := e6 _ _ hk2
        walk_at "go"
        refine n_fld S6.get0 N.cl N.nK (nf_kept kp np) ?_
        refine w_list (xs := ys) (fun i σ' H' => (∃ x1 x2 x3 x4 x5, σ' = [some (.ref x), some (.int (n : Int)), some (.ref lp), x1, x2, x3, x4, x5]) ∧ Own G6 ((x, .ins C dx (NF kp np)) :: nearL nps fun j => nb ((sortP ps).take i) (j : Int)) H') (SqL.of (S6.ex _ _ hkp6)) ⟨⟨_, _, _, _, _, rfl⟩, S6⟩ (fun i σ' H' h => SqL.of (h.2.ex _ _ hkp6)) ?_ ?_
        · rintro i y σ' H' hy ⟨⟨x1, x2, x3, x4, x5, rfl⟩, S⟩
          obtain ⟨q, hq, t, rfl, ht⟩ := pr_get hl2 hy
          have hb := (hok.sort) q (List.mem_of_getElem? hq)
          have ht6 : G6 t = some (.tup [.int q.1, .int q.2]) := hnG _ _ ht
          obtain ⟨a, ha⟩ : ∃ a : Nat, q.1 = (a : Int) := ⟨q.1.toNat, by omega⟩
          obtain ⟨b, hbq⟩ : ∃ b : Nat, q.2 = (b : Int) := ⟨q.2.toNat, by omega⟩
          have hab : a ≠ b := by omega
          obtain ⟨pa, hpa⟩ : ∃ p, nps[a]? = some p := ⟨_, List.getElem?_eq_getElem (by omega)⟩
          obtain ⟨pb, hpb⟩ : ∃ p, nps[b]? = some p := ⟨_, List.getElem?_eq_getElem (by omega)⟩
          have hz2 : ∀ j : Nat, (nb ((sortP ps).take i) (j : Int)).length ≤ 10000 := fun j => Nat.le_trans (List.length_filterMap_le _ _) (by rw [List.length_take, sortP_len]; omega)
          refine s_gtup (S.st (SqT.of ht6)) rfl ?_
          walk_at "go"
          refine n_fld S.get0 N.cl N.nN (nf_near kp np) ?_
          walk_at "go"
          rw [ha]
          refine g_ixL (SqL.of (S.ex _ _ hnp)) (atI_nat (j := a) (v := .ref pa) (by rw [List.getElem?_map, hpa] <;> rfl)) ?_
          have ea : ((x, HO.ins C dx (NF kp np)) :: nearL nps fun j => nb ((sortP ps).take i) (j : Int))[a + 1]? = some (pa, .lst ((nb ((sortP ps).take i) (a : Int)).map V.int)) := nearL_get hpa
          refine ⟨tyL (SqL.of (S.getM (List.mem_of_getElem? ea))), ?_⟩
          walk_at "go"
          refine n_appM S ea (by rw [List.length_map]; have := hz2 a; omega) fun H7 S7 => ?_
          have eset : ((x, HO.ins C dx (NF kp np)) :: nearL nps fun j => nb ((sortP ps).take i) (j : Int)).set (a + 1) (pa, .lst ((nb ((sortP ps).take i) (a : Int)).map V.int ++ [.int q.2])) =
              (x, HO.ins C dx (NF kp np)) :: nearL nps fun j => if j = a then nb ((sortP ps).take i) (j : Int) ++ [q.2] else nb ((sortP ps).take i) (j : Int) := by
            show (x, HO.ins C dx (NF kp np)) :: (nearL nps fun j => nb ((sortP ps).take i) (j : Int)).set a _ = _
            have e := nearL_set (g := fun j => nb ((sortP ps).take i) (j : Int)) (g' := fun j => if j = a then nb ((sortP ps).take i) (j : Int) ++ [q.2] else nb ((sortP ps).take i) (j : Int)) hpa (fun j hj => if_neg hj)
            rw [← e]
            simp
          rw [eset] at S7
          walk_at "go"
          refine n_fld S7.get0 N.cl N.nN (nf_near kp np) ?_
          walk_at "go"
          rw [hbq]
          refine g_ixL (SqL.of (S7.ex _ _ hnp)) (atI_nat (j := b) (v := .ref pb) (by rw [List.getElem?_map, hpb] <;> rfl)) ?_
          have eb : ((x, HO.ins C dx (NF kp np)) :: nearL nps fun j => if j = a then nb ((sortP ps).take i) (j : Int) ++ [q.2] else nb ((sortP ps).take i) (j : Int))[b + 1]? = some (pb, .lst ((nb ((sortP ps).take i) (b : Int)).map V.int)) := by
            have z := nearL_get (g := fun j => if j = a then nb ((sortP ps).take i) (j : Int) ++ [q.2] else nb ((sortP ps).take i) (j : Int)) hpb
            rw [if_neg (Ne.symm hab)] at z
            exact z
          refine ⟨tyL (SqL.of (S7.getM (List.mem_of_getElem? eb))), ?_⟩
          walk_at "go"
          refine n_appM S7 eb (by rw [List.length_map]; have := hz2 b; omega) fun H8 S8 => ?_
          have etk : (sortP ps).take (i + 1) = (sortP ps).take i ++ [q] := take_snoc hq
          have eset2 : ((x, HO.ins C dx (NF kp np)) :: nearL nps fun j => if j = a then nb ((sortP ps).take i) (j : Int) ++ [q.2] else nb ((sortP ps).take i) (j : Int)).set (b + 1) (pb, .lst ((nb ((sortP ps).take i) (b : Int)).map V.int ++ [.int q.1])) =
              (x, HO.ins C dx (NF kp np)) :: nearL nps fun j => nb ((sortP ps).take (i + 1)) (j : Int) := by
            show (x, HO.ins C dx (NF kp np)) :: (nearL nps fun j => if j = a then nb ((sortP ps).take i) (j : Int) ++ [q.2] else nb ((sortP ps).take i) (j : Int)).set b _ = _
            have e := nearL_set (g := fun j => if j = a then nb ((sortP ps).take i) (j : Int) ++ [q.2] else nb ((sortP ps).take i) (j : Int)) (g' := fun j => nb ((sortP ps).take (i + 1)) (j : Int)) hpb (fun j hj => by
              rw [etk, nb_one_n (n := n) ha hbq hab, if_neg hj, ← hbq])
            rw [← e]
            simp only [etk]
            rw [nb_one_n (n := n) ha hbq hab, if_neg (Ne.symm hab), if_pos rfl]
            simp [ha]
          rw [ha] at eset2
          rw [eset2] at S8
          walk_at "go"
          exact ⟨⟨_, _, _, _, _, rfl⟩, S8⟩
        · rintro σ' H' ⟨_, S⟩
          rw [(pr_len hl2), List.take_length] at S
          walk_at "go"
          have new : ∀ a : Addr, G a = none → nw G H' a = H' a := fun a h => nw_new h
          refine k H' (hnG.trans S.ex) ⟨⟨dx, kp, np, ys, nps, ?_⟩, hok.sort, sortP_up _, (sortP_perm ps).nodup_iff.mpr hnd, h1, h60⟩
          have hx0 : G x = none := S0.no0
          have hk0 : G kp = none := fresh_back (e1.trans S1.ex) hkp
          have hn0 : G np = none := fresh_back (e1.trans e2) S4.no0
          refine ⟨(new x hx0).trans S.get0, (new kp hk0).trans (S.ex _ _ hkp6), Paired.mapP hl2 fun y q ⟨t, e, ht⟩ => ⟨t, e, (nw_tup ht rfl).trans (S.ex _ _ (hnG _ _ ht))⟩, (new np hn0).trans (S.ex _ _ hnp), hlen, fun i p hp => ?_⟩
          have m := List.mem_cons_of_mem (x, HO.ins C dx (NF kp np)) (List.mem_of_getElem? (nearL_get (g := fun j => nb (sortP ps) (j : Int)) hp))
          exact (new p (fresh_back hnG (S.at_ _ m).1)).trans (S.at_ _ m).2
end
end NX

namespace NX
open PySem PySem.Spec PyProof.Rows L2
open Evl (Ex ex_l ex_t fresh_back)
/-! ### len, ==, != of networks -/
section
variable {X : Cx}
/-- a def runs below the running body -/
theorem run_at {A : Around} {CX : CXT} {k : Nat} {f : Addr} {fd : FuncData} {ps : List Str} {sp : Sp} {E : XK} {pins : List (Addr × Obj)} {σ : L2.St} {H : Hp} {s : Shared} {Q : VK} {us : List Value} {vs : List V} (sb : L2.Sub X k A)
    (F : FnOk X.prog X.w X.K X.mg X.base CX k f fd ps sp) (hb : Binds X.K fd ps []) (hx : Passes CX X E) (I : L2.Inv X pins σ H s) (r : Vals vs us) (h : sp vs H Q E) :
    wpAny (model X.prog X.w) A (call (.ref f) us) (EP X pins σ Q) X.xe s := by
  have e0 : Env0 X.prog X.w X.K X.mg X.base A X.stack s H := by
    have e := I.env0
    exact ⟨by rw [sb.fr]; exact e.frames, e.mod, e.bs, e.bsz, e.funs, e.frf, e.hok, e.bare⟩
  have hl := F.len _ _ _ _ h
  refine wpAny_call (codeAny_mono (F.run A X.stack s H ⟨us, []⟩ us vs Q E sb.room e0 (by
    have := hb s us I.kIn (by rw [List.append_nil, ← r.length]; exact hl)
    simpa using this) r h) fun r s' hq => ?_)
  cases r with
  | error e => exact hx pins σ H s e s' I hq
  | ok fl =>
    cases fl with
    | ret w => exact I.after hq
    | next => exact False.elim hq
    | brk => exact False.elim hq
    | cont => exact False.elim hq
def spLen (C : Addr) : Sp := fun vs H Q _ => ∃ (a : Addr) (n : Nat) (ks : List Pr), vs = [.ref a] ∧ NetAt C H a n ks ∧ Q (.int (n : Int)) H
def spEqN (C : Addr) : Sp := fun vs H Q _ => ∃ (a b : Addr) (n m : Nat) (ks ls : List Pr), vs = [.ref a, .ref b] ∧ NetAt C H a n ks ∧ NetAt C H b m ls ∧ ∀ H', Ex H H' → Q (.bl (decide (n = m ∧ ks = ls))) H'
def rLenNet (C : Addr) : List V → Hp → VK → Prop := fun xs H Q => ∃ (a : Addr) (n : Nat) (ks : List Pr), xs = [.ref a] ∧ NetAt C H a n ks ∧ Q (.int (n : Int)) H
def rEqNet (C : Addr) : R2 := fun x y H Q => ∃ (a b : Addr) (n m : Nat) (ks ls : List Pr), x = .ref a ∧ y = .ref b ∧ NetAt C H a n ks ∧ NetAt C H b m ls ∧ ∀ H', Ex H H' → Q (.bl (decide (n = m ∧ ks = ls))) H'
def rNeNet (C : Addr) : R2 := fun x y H Q => ∃ (a b : Addr) (n m : Nat) (ks ls : List Pr), x = .ref a ∧ y = .ref b ∧ NetAt C H a n ks ∧ NetAt C H b m ls ∧ ∀ H', Ex H H' → Q (.bl (!decide (n = m ∧ ks = ls))) H'
theorem inst_net {pins : List (Addr × Obj)} {σ : L2.St} {H : Hp} {s : Shared} {C a : Addr} {n : Nat} {ks : List Pr} (I : L2.Inv X pins σ H s) (N : NetAt C H a n ks) : ∃ dx od, PySem.W.InstAt s.heap a (PySem.W.instObj C dx) C od := by
  obtain ⟨dx, kp, np, xs, nps, o⟩ := N.at_
  obtain ⟨mA, J, _⟩ := ins_get I.hok o.ins
  obtain ⟨od, J, _⟩ := J.look
  exact ⟨_, _, J⟩
theorem call_lenNet {C : Addr} {k : Nat} (_NC : NetC X.K C) (M : Mth X.prog X.w X.K X.mg X.base k C "__len__" ["self"] (spLen C)) (hr : Room (k + 1) X.A) : CallR X (.builtin "len") (rLenNet C) := by
  intro pins s σ H xs us Q I r h
  obtain ⟨a, n, ks, rfl, N, q⟩ := h
  obtain ⟨f, fd, hm, F, hb⟩ := M
  obtain ⟨u, rfl, ru⟩ := vals1 r
  obtain rfl : u = Value.ref a := ru
  obtain ⟨dx, od, J⟩ := inst_net I N
  obtain ⟨m, hF⟩ := I.fr
  refine PySem.W.len_K hF I.ok.mod.kin J hm.at_ hm.fn (wpAny_mono (run_at (L2.Sub.in1 ⟨hr, rfl⟩) F hb passN I r (Q := fun v H' => v = .int (n : Int) ∧ Q (.int (n : Int)) H') ⟨a, n, ks, rfl, N, rfl, q⟩) (fun v s' z => ?_) fun _ _ z => z)
  obtain ⟨w, H', I', rv, rfl, q'⟩ := z
  obtain ⟨t, rfl⟩ := rv
  refine ⟨⟨by omega, ?_⟩, ⟨V.int (n : Int), H', I'.tok _, ⟨_, rfl⟩, q'⟩⟩
  have := N.sz.2
  omega
theorem notFirst_self {K : PySem.W.Frag} {C : Addr} : PySem.W.notFirst K C (.ref C) = true := by simp [PySem.W.notFirst]
theorem op_eqNet {C : Addr} {k : Nat} (_NC : NetC X.K C) (M : Mth X.prog X.w X.K X.mg X.base k C "__eq__" ["self", "other"] (spEqN C)) (hr : Room (k + 1) X.A) : OpR X (compareOp .Eq) (rEqNet C) := by
  intro pins s σ H x y v u Q I rx ry h
  obtain ⟨a, b, n, m, ks, ls, rfl, rfl, N1, N2, q⟩ := h
  cases rx
  cases ry
  obtain ⟨f, fd, hm, F, hb⟩ := M
  obtain ⟨dx, od, J⟩ := inst_net I N1
  obtain ⟨dy, oe, J'⟩ := inst_net I N2
  obtain ⟨mm, hF⟩ := I.fr
  show wpAny (model X.prog X.w) X.A (richCompare .Eq (.ref a) (.ref b)) (EP X pins σ Q) X.xe s
  have hr0 : Room k X.A := hr.mono (Nat.le_succ k)
  refine PySem.W.cmp_K (op := .Eq) (tb := .ref C) hr.units0 hF I.ok.mod.kin J J'.type notFirst_self hm.at_ hm.fn (wpAny_mono (run_at ⟨hr0, rfl⟩ F hb passN I (vs := [V.ref a, V.ref b]) (.cons rfl (.cons rfl .nil)) (Q := fun v H' => v = .bl (decide (n = m ∧ ks = ls)) ∧ Q v H')
    ⟨a, b, n, m, ks, ls, rfl, N1, N2, fun H' e => ⟨rfl, q H' e⟩⟩) (fun v s' z => ?_) fun _ _ z => z)
  obtain ⟨w, H', I', rv, rfl, q'⟩ := z
  cases rv
  exact ⟨V.bl (decide (n = m ∧ ks = ls)), H', I', rfl, q'⟩
theorem op_neNet {C : Addr} {k : Nat} (NC : NetC X.K C) (M : Mth X.prog X.w X.K X.mg X.base k C "__eq__" ["self", "other"] (spEqN C)) (hr : Room (k + 1) X.A) : OpR X (compareOp .NotEq) (rNeNet C) := by
  intro pins s σ H x y v u Q I rx ry h
  obtain ⟨a, b, n, m, ks, ls, rfl, rfl, N1, N2, q⟩ := h
  cases rx
  cases ry
  obtain ⟨f, fd, hm, F, hb⟩ := M
  obtain ⟨dx, od, J⟩ := inst_net I N1
  obtain ⟨dy, oe, J'⟩ := inst_net I N2
  obtain ⟨mm, hF⟩ := I.fr
  show wpAny (model X.prog X.w) X.A (richCompare .NotEq (.ref a) (.ref b)) (EP X pins σ Q) X.xe s
  refine ne_K (tb := .ref C) (hu_of hr) hF I.ok.mod.kin J J'.type notFirst_self NC.ne NC.hm hm.at_ hm.fn (wpAny_mono (run_at (L2.Sub.in1 ⟨hr, rfl⟩) F hb passN I (vs := [V.ref a, V.ref b]) (.cons rfl (.cons rfl .nil)) (Q := fun v H' => v = .bl (decide (n = m ∧ ks = ls)) ∧ Q (.bl (!decide (n = m ∧ ks = ls))) H')
    ⟨a, b, n, m, ks, ls, rfl, N1, N2, fun H' e => ⟨rfl, q H' e⟩⟩) (fun v s' z => ?_) fun _ _ z => z)
  obtain ⟨w, H', I', rv, rfl, q'⟩ := z
  cases rv
  exact ⟨_, rfl, ⟨V.bl (!decide (n = m ∧ ks = ls)), H', I', rfl, q'⟩⟩
end
section
variable {C a b lp : Addr} {n m : Nat} {ks ls ps : List Pr} {G H : Hp} {L : List (Addr × HO)} {Q : VK} {E : XK} {xs : List V}
theorem n_lenNet (N : NetAt C H a n ks) (k : Q (.int (n : Int)) H) : rLenNet C [.ref a] H Q := ⟨a, n, ks, rfl, N, k⟩
theorem n_eqNet (S : Own G L H) (N1 : NetAt C G a n ks) (N2 : NetAt C G b m ls) (k : ∀ H1, Own G L H1 → Q (.bl (decide (n = m ∧ ks = ls))) H1) : rEqNet C (.ref a) (.ref b) H Q := ⟨a, b, n, m, ks, ls, rfl, rfl, N1.mono S.ex, N2.mono S.ex, fun H' e => k H' (S.grow e)⟩
theorem n_neNet (S : Own G L H) (N1 : NetAt C G a n ks) (N2 : NetAt C G b m ls) (k : ∀ H1, Own G L H1 → Q (.bl (!decide (n = m ∧ ks = ls))) H1) : rNeNet C (.ref a) (.ref b) H Q := ⟨a, b, n, m, ks, ls, rfl, rfl, N1.mono S.ex, N2.mono S.ex, fun H' e => k H' (S.grow e)⟩
theorem NetAt.ins (N : NetAt C H a n ks) {m : Str} (h1 : ¬ m = "near") (h2 : ¬ m = "kept") : INS C m (.ref a) H := by
  obtain ⟨dx, kp, np, xs, nps, o⟩ := N.at_
  exact ⟨a, dx, _, rfl, o.ins, nf_no kp np h1 h2⟩
/-- Network(n, links) -/
theorem n_netN (hlp : H lp = some (.lst xs)) (hl : Lks H xs ps) (hok : Okl n ps) (hnd : ps.Nodup) (hn : 1 ≤ n ∧ n ≤ 60) (hz : ps.length ≤ 10000)
    (k : ∀ x H1, H x = none → Ex H H1 → NetAt C (nw H H1) x n (sortP ps) → Q (.ref x) H1) : MAKE C (spInit C) E [.int (n : Int), .ref lp] H Q := by
  intro x dx hx hdx ne
  have hx' : upd H dx (.own x) x = none := by rw [upd_ne (Ne.symm ne)]; exact hx
  have e1 : Ex H (upd H dx (.own x)) := Ex.new hdx
  exact ⟨x, lp, dx, n, xs, ps, upd H dx (.own x), rfl, (Own.start _).lay hx', e1 _ _ hlp, hl.mono e1, hok, hnd, hn.1, hn.2, hz, fun H' e N => ⟨rfl, k x H' hx (e1.trans e) (N.mono (nw_mono e1))⟩⟩
theorem n_net (S : Own G L H) (hlp : H lp = some (.lst xs)) (hl : Lks H xs ps) (hok : Okl n ps) (hnd : ps.Nodup) (hn : 1 ≤ n ∧ n ≤ 60) (hz : ps.length ≤ 10000)
    (k : ∀ x G1 H1, H x = none → Ex G G1 → Ex H H1 → Own G1 L H1 → NetAt C G1 x n (sortP ps) → Q (.ref x) H1) : MAKE C (spInit C) E [.int (n : Int), .ref lp] H Q :=
  n_netN hlp hl hok hnd hn hz fun x H1 hx e N => by
    obtain ⟨S1, e2, e3⟩ := S.absorb e
    exact k x _ H1 hx e2 e S1 (N.mono e3)
end
end NX

namespace NX
open PySem PySem.Spec PyProof.Rows L2
open Evl (Ex ex_l ex_t fresh_back)
theorem lks_nw {H H' : Hp} (e : Ex H H') {xs : List V} {ks : List Pr} (h : Lks H xs ks) : Lks (nw H H') xs ks := Paired.mapP h fun _ _ ⟨t, a, b⟩ => ⟨t, a, by rw [nw_tup b rfl]; exact e _ _ b⟩
abbrev s_Network_links : Stmt := inClass (top 14) 1
theorem sc_Network_links : FnScope ["self"] ["self"] (defScope s_Network_links) := ⟨rfl, rfl, rfl, by decide +kernel, rfl, by decide +kernel, by decide +kernel⟩
abbrev s_Network_check_station : Stmt := inClass (top 14) 5
theorem sc_Network_check_station : FnScope ["self", "station"] ["self", "station"] (defScope s_Network_check_station) := ⟨rfl, rfl, rfl, by decide +kernel, rfl, by decide +kernel, by decide +kernel⟩
def spLinks (C : Addr) : Sp := fun vs H Q _ => ∃ (a : Addr) (n : Nat) (ks : List Pr), vs = [.ref a] ∧ NetAt C H a n ks ∧ ∀ xs, Lks H xs ks → Ret (.lst xs) H Q
/-- the station is one -/
def spChk (C : Addr) : Sp := fun vs H Q _ => ∃ (a : Addr) (n : Nat) (ks : List Pr) (i : Int), vs = [.ref a, .int i] ∧ NetAt C H a n ks ∧ (0 ≤ i ∧ i < (n : Int)) ∧ ∀ H', Ex H H' → Q .non H'
section
variable {C : Addr} {G H : Hp} {L : List (Addr × HO)} {a : Addr} {n : Nat} {ks : List Pr} {Q : VK} {E : XK}
theorem n_links (S : Own G L H) (N : NetAt C G a n ks) (k : ∀ xs p G1 H1, Lks G1 xs ks → H p = none → Ex G G1 → Ex H H1 → G1 p = some (.lst xs) → Own G1 L H1 → Q (.ref p) H1) : spLinks C [.ref a] H Q E :=
  ⟨a, n, ks, rfl, N.mono S.ex, fun xs hx p H' hp e h => by
    obtain ⟨S1, e1, e2⟩ := S.absorb e
    exact k xs p _ H' ((lks_nw e hx).mono e2) hp e1 e (e2 _ _ ((nw_new hp).trans h)) S1⟩
theorem n_linksO (S : Own G L H) (N : NetAt C G a n ks) (k : ∀ xs p G1 H1, Lks G1 xs ks → H p = none → Ex G G1 → Ex H H1 → Own G1 ((p, .lst xs) :: L) H1 → Q (.ref p) H1) : spLinks C [.ref a] H Q E :=
  n_links S N fun xs p G1 H1 hl hp e1 e2 h S1 => by
    obtain ⟨S2, k2⟩ := S1.thaw h
    refine k xs p _ H1 (Paired.mapP hl fun _ _ ⟨t, b, c⟩ => ⟨t, b, k2 _ _ (fun z => ?_) c⟩) hp (fun b u hb => k2 _ _ (ne_of_none hb (fresh_back S.ex hp)) (e1 _ _ hb)) e2 S2
    rw [z, h] at c
    cases c
theorem n_chk {i : Int} (S : Own G L H) (N : NetAt C G a n ks) (h : 0 ≤ i ∧ i < (n : Int)) (k : ∀ H1, Ex H H1 → Own G L H1 → Q .non H1) : spChk C [.ref a, .int i] H Q E :=
  ⟨a, n, ks, i, rfl, N.mono S.ex, h, fun H' e => k H' e (S.grow e)⟩
end
section
variable {P : Program} {w : World} {K : PySem.W.Frag} {mg : Str → Option Value} {base : Heap} {C : Addr}
theorem ok_links {f : Addr} {fd : FuncData} (F : Fun K "links" "Network.links" s_Network_links f fd) (T : Txt mg) (NC : NetC K C) : FnOk P w K mg base CX0 1 f fd ["self"] (spLinks C) := by
  refine F.ok sc_Network_links (fun vs H Q E h => ?_) (fun cdv A outer s H vs Q E hr h => ?_)
  · obtain ⟨a, n, ks, rfl, _⟩ := h
    rfl
  · obtain ⟨a, n, ks, rfl, N, k⟩ := h
    obtain ⟨dx, kp, np, xs, nps, o⟩ := N.at_
    refine ⟨_, (pss_one (ps_ret (pe_callTy call_listN (by rfl) T.n_list (by decide +kernel) (pa_cons (pe_fld (pv 0) rfl) pa_nil)))), ?_⟩
    walk_at "go"
    refine n_fld o.ins NC.cl NC.nK (nf_kept kp np) ?_
    walk_at "go"
    exact ⟨kp, xs, rfl, .inl (SqL.of o.kept), fun p hp => k xs o.lks p _ hp (Ex.new hp) upd_same⟩
theorem ok_chk {f : Addr} {fd : FuncData} (F : Fun K "check_station" "Network.check_station" s_Network_check_station f fd) (T : Txt mg) (NC : NetC K C) (c_is_int : Cal P w K mg base 1 "is_int" ["value"] [] (spIsInt K)) : FnOk P w K mg base CX0 2 f fd ["self", "station"] (spChk C) := by
  refine F.ok sc_Network_check_station (fun vs H Q E h => ?_) (fun cdv A outer s H vs Q E hr h => ?_)
  · obtain ⟨a, n, ks, i, rfl, _⟩ := h
    rfl
  · obtain ⟨a, n, ks, i, rfl, N, hi, k⟩ := h
    obtain ⟨dx, kp, np, xs, nps, o⟩ := N.at_
    refine ⟨_, (pss_one (ps_if (PW.pt (pw_or (pt_not (pt_val (pe_cal c_is_int (hr.mono (by first | decide | omega)) passN (pa_cons (pv 1) pa_nil)))) (pw_or1 (pt_not (pt_chain op_le op_lt pe_int (pv 1) (pe_callB call_lenN (by rfl) T.n_len (by decide +kernel) (pa_cons (pe_fld (pv 0) rfl) pa_nil))))))) (pss_one ps_never) pss_nil)), ?_⟩
    walk_at "go"
    refine g_isint ?_
    walk_at "go"
    refine if_tt (dtrue (by omega)) ?_
    walk_at "go"
    refine n_fld o.ins NC.cl NC.nN (nf_near kp np) ?_
    walk_at "go"
    refine n_len (SqL.of o.near) ?_
    rw [List.length_map, o.len]
    walk_at "go"
    refine if_ff (ntrue (by omega)) ?_
    walk_at "go"
    exact k H (Ex.refl H)
end
end NX

namespace NX
open PySem PySem.Spec PyProof.Rows L2
open Evl (Ex ex_l ex_t fresh_back)
abbrev s_NoStation___init__ : Stmt := inClass (top 3) 0
theorem sc_NoStation___init__ : FnScope ["self", "station"] ["self", "station"] (defScope s_NoStation___init__) := ⟨rfl, rfl, rfl, by decide +kernel, rfl, by decide +kernel, by decide +kernel⟩
theorem ok_ini_NoStation {P : Program} {w : World} {K : PySem.W.Frag} {mg : Str → Option Value} {base : Heap} {CL C0 : Addr} {f : Addr} {fd : FuncData} (F : Fun K "__init__" "NoStation.__init__" s_NoStation___init__ f fd) (m_ChannelError : mg "ChannelError" = some (.ref C0)) (BC : BaseC K C0) (hno : PySem.W.findIn K (.ref CL) "station" = some none) : FnOk P w K mg base CX0 1 f fd ["self", "station"] (spExInit K CL "station") := by
  refine F.ok sc_NoStation___init__ (fun vs H Q E h => ?_) (fun cdv A outer s H vs Q E hr h => ?_)
  · obtain ⟨a, v, rfl, _⟩ := h
    rfl
  · obtain ⟨a, v, rfl, ha, T, k⟩ := h
    refine ⟨_, (pss_cons (ps_expr (pe_oeinit (K := K) m_ChannelError BC (pa_cons (pv 0) (pa_cons pe_str pa_nil))))
      (pss_one (ps_ost (pv 0) (pv 1) rfl))), ?_⟩
    walk_at "go"
    refine n_vei ?_
    walk_at "go"
    refine ⟨a, CL, _, rfl, by simp, T, ha, ?_⟩
    refine s_ost ?_
    walk_at "go"
    exact ⟨a, CL, rfl, T, hno, .inl ⟨ha, fun dx h1 h2 => k dx h1 h2⟩⟩
/-- no station of n -/
def OddSt (H : Hp) (n : Nat) (v : V) : Prop := ∃ t, OddV H v t ∧ NoIn 0 ((n : Int) - 1) v t
/-- no channel -/
def OddCh (H : Hp) (v : V) : Prop := ∃ t, OddV H v t ∧ (t = "int" → ∃ i, v = .int i ∧ i < 1)
def OkSt (n : Nat) (v : V) : Prop := ∃ i : Int, v = .int i ∧ 0 ≤ i ∧ i < (n : Int)
def spChkX (C CS : Addr) : Sp := fun vs H Q E => ∃ (a : Addr) (n : Nat) (ks : List Pr) (v : V), vs = [.ref a, v] ∧ NetAt C H a n ks ∧ ((OkSt n v ∧ ∀ H', Ex H H' → Q .non H') ∨ (OddSt H n v ∧ Thr E CS "station" v H))
section
variable {P : Program} {w : World} {K : PySem.W.Frag} {mg : Str → Option Value} {base : Heap} {C CS : Addr}
theorem ok_chkX {f : Addr} {fd : FuncData} (F : Fun K "check_station" "Network.check_station" s_Network_check_station f fd) (T : Txt mg) (NC : NetC K C) (c_is_int : Cal P w K mg base 1 "is_int" ["value"] [] (spIsInt K)) (X_NoStation : Exn P w K mg base "NoStation" CS "station") : FnOk P w K mg base (L2.CX P w) 3 f fd ["self", "station"] (spChkX C CS) := by
  refine F.okX sc_Network_check_station (fun vs H Q E h => ?_) (fun cdv A outer s H vs Q E hr h => ?_)
  · obtain ⟨a, n, ks, v, rfl, _⟩ := h
    rfl
  · obtain ⟨a, n, ks, v, rfl, N, h⟩ := h
    obtain ⟨dx, kp, np, xs, nps, o⟩ := N.at_
    refine ⟨_, (pss_one (ps_if (PW.pt (pw_or (pt_not (pt_val (pe_cal c_is_int (hr.mono (by first | decide | omega)) passN (pa_cons (pv 1) pa_nil)))) (pw_or1 (pt_not (pt_chain op_le op_lt pe_int (pv 1) (pe_callB call_lenN (by rfl) T.n_len (by decide +kernel) (pa_cons (pe_fld (pv 0) rfl) pa_nil))))))) (pss_one (ps_raiseE (K := K) rfl (takes_of rfl rfl rfl rfl) X_NoStation (hr.mono (by first | decide | omega)) (pa_cons (pv 1) pa_nil))) pss_nil)), ?_⟩
    rcases h with ⟨⟨i, rfl, h0, h1⟩, k⟩ | ⟨⟨t, ho, hno⟩, kE⟩
    · walk_at "go"
      refine g_isint ?_
      walk_at "go"
      refine if_tt (dtrue (by omega)) ?_
      walk_at "go"
      refine n_fld o.ins NC.cl NC.nN (nf_near kp np) ?_
      walk_at "go"
      refine n_len (SqL.of o.near) ?_
      rw [List.length_map, o.len]
      walk_at "go"
      refine if_ff (ntrue (by omega)) ?_
      walk_at "go"
      exact k H (Ex.refl H)
    · walk_at "go"
      refine ⟨v, t, rfl, ho.isT, ?_⟩
      walk_at "go"
      have fin : ∀ H1, Ex H H1 → RAISE K CS "station" (fun cls d _ H => E cls d H) (L2.start ["self", "station"] [.ref a, v]) [v] H1 := fun H1 e1 => n_raise X_NoStation.oex fun d H4 _ e4 hd => kE d H4 (e1.trans e4) hd
      by_cases c : t = "int"
      · subst c
        obtain ⟨i, rfl, hi⟩ := hno rfl
        refine if_ff (by decide +kernel) ?_
        walk_at "go"
        refine if_2 (fun e1 => ?_) (fun e1 => ?_)
        · have e1 := of_decide_eq_true e1
          walk_at "go"
          refine n_fld o.ins NC.cl NC.nN (nf_near kp np) ?_
          walk_at "go"
          refine n_len (SqL.of o.near) ?_
          rw [List.length_map, o.len]
          walk_at "go"
          refine if_tt (nfalse (by omega)) ?_
          refine s_raiseE ?_
          walk_at "go"
          exact n_raise X_NoStation.oex fun d H4 _ e4 hd => kE d H4 e4 hd
        · walk_at "go"
          refine s_raiseE ?_
          walk_at "go"
          exact n_raise X_NoStation.oex fun d H4 _ e4 hd => kE d H4 e4 hd
      · have e : (t == "int") = false := by simp [c]
        rw [e]
        walk_at "go"
        refine s_raiseE ?_
        walk_at "go"
        exact n_raise X_NoStation.oex fun d H4 _ e4 hd => kE d H4 e4 hd
end
end NX

namespace NX
open PySem PySem.Spec PyProof.Rows L2
open Evl (Ex ex_l ex_t fresh_back)
/-! ### odd values, their reprs; what is told of outcomes, compared -/
mutual
theorem dp_noT {K : PySem.W.Frag} {G : Hp} : ∀ (d : PyData) (v : V), Dp K G v d → Dp K (noT G) v d
  | .none, _, .non => .non
  | .bool _, _, .bl b => .bl b
  | .int _, _, .int i => .int i
  | .str _, _, .str x => .str x
  | .list ds, _, .lst h1 h2 => .lst (by
      rcases h1 with (h | ⟨o, h⟩) | h
      · exact .inl (.inl (noT_of h fun ps z => by cases z))
      · exact .inl (.inr ⟨o, noT_of h fun ps z => by cases z⟩)
      · exact .inr h) (dp_noTA ds _ h2)
  | .tuple ds, _, .tup h1 h2 => .tup (by
      rcases h1 with (h | ⟨o, h⟩) | h
      · exact .inl (.inl (noT_of h fun ps z => by cases z))
      · exact .inl (.inr ⟨o, noT_of h fun ps z => by cases z⟩)
      · exact .inr h) (dp_noTA ds _ h2)
theorem dp_noTA {K : PySem.W.Frag} {G : Hp} : ∀ (ds : List PyData) (vs : List V), DpAll K G vs ds → DpAll K (noT G) vs ds
  | [], _, .nil => .nil
  | d :: ds, _, .cons h1 h2 => .cons (dp_noT d _ h1) (dp_noTA ds _ h2)
end
/-- no station of n, its repr t -/
structure OdS (K : PySem.W.Frag) (H : Hp) (n : Nat) (v : V) (t : Str) : Prop where
  odd : OddSt H n v
  sh : ShV K H v t
  ok : PyData.strOk t = true
theorem OdS.mono {K : PySem.W.Frag} {G H : Hp} {n : Nat} {v : V} {t : Str} (h : OdS K G n v t) (e : Ex G H) : OdS K H n v t := by
  obtain ⟨⟨ty, o1, o2⟩, h2, h3⟩ := h
  exact ⟨⟨ty, o1.mono e, o2⟩, h2.mono e fun d => dp_mono e d _, h3⟩
theorem ok_int {i : Nat} (h : i ≤ 60) : PyData.strOk (toString ((i : Int))) = true ∧ ((i : Int)).natAbs.log2 < 1920 := by
  have z : ∀ j : Fin 61, PyData.strOk (toString (((j : Nat) : Int))) = true ∧ (((j : Nat) : Int)).natAbs.log2 < 1920 := by decide +kernel
  exact z ⟨i, by omega⟩
def big20 : Int := 10 ^ (20 : Int).toNat
theorem odS_at {K : PySem.W.Frag} {G : Hp} {n : Nat} {pl pd : Addr} (hn : n ≤ 60) (h1 : G pl = some (.lst [.int 0])) (h2 : G pd = some (.dT [])) {r : Int} (h0 : 0 ≤ r) (h8 : r < 8) :
    ∃ v t, atI [V.int (n : Int), V.int (-1), V.non, V.bl true, V.str (Str.ofString "0"), V.ref pl, V.ref pd, V.int (10 ^ (20 : Int).toNat)] r = some v ∧ OdS K G n v t := by
  have : r = 0 ∨ r = 1 ∨ r = 2 ∨ r = 3 ∨ r = 4 ∨ r = 5 ∨ r = 6 ∨ r = 7 := by omega
  rcases this with rfl | rfl | rfl | rfl | rfl | rfl | rfl | rfl
  · exact ⟨_, _, rfl, ⟨"int", .int _, fun _ => ⟨_, rfl, by omega⟩⟩, .int _ (ok_int hn).2, (ok_int hn).1⟩
  · exact ⟨_, _, rfl, ⟨"int", .int _, fun _ => ⟨_, rfl, by omega⟩⟩, .int (-1) (by decide +kernel), by decide +kernel⟩
  · exact ⟨_, _, rfl, ⟨"NoneType", .non, fun h => absurd h (by decide)⟩, .non, by decide +kernel⟩
  · exact ⟨_, _, rfl, ⟨"bool", .bl true, fun h => absurd h (by decide)⟩, .bl true, by decide +kernel⟩
  · exact ⟨_, _, rfl, ⟨"str", .str _, fun h => absurd h (by decide)⟩, .str _ (by decide +kernel), by decide +kernel⟩
  · exact ⟨_, _, rfl, ⟨"list", .lst h1, fun h => absurd h (by decide)⟩, .dat (.list [.int 0]) (.lst (.inl (.inl h1)) (.cons (.int 0) .nil)) (by decide +kernel) (by decide +kernel) (by decide +kernel) (by decide +kernel), by decide +kernel⟩
  · exact ⟨_, _, rfl, ⟨"dict", .dct h2, fun h => absurd h (by decide)⟩, .dct h2, by decide +kernel⟩
  · refine ⟨_, _, rfl, ⟨"int", .int _, fun _ => ⟨_, rfl, ?_⟩⟩, .int _ (by decide +kernel), by decide +kernel⟩
    have e : (10 : Int) ^ (20 : Int).toNat = 100000000000000000000 := by decide
    rw [e]
    omega
/-- p holds (w, t) -/
def WT (H : Hp) (p : Addr) (w t : Str) : Prop := H p = some (.tup [.str w, .str t])
theorem dp_wt {K : PySem.W.Frag} {H : Hp} {p : Addr} {w t : Str} (h : WT H p w t) : Dp K H (.ref p) (.tuple [.str w, .str t]) := .tup (SqT.of h) (.cons (.str w) (.cons (.str t) .nil))
section
variable {K : PySem.W.Frag} {H : Hp} {a b p1 p2 p3 q : Addr} {w t : Str} {Q : VK}
theorem sh_wt2 (hw : PyData.strOk w = true) (ht : PyData.strOk t = true) : SeqAt.shaped (.list [.tuple [.str w, .str t], .tuple [.str w, .str t]]) = true := by
  unfold SeqAt.shaped
  simp [PyData.canLay0, PyData.canLayAll0, PyData.depth, PyData.depthAll, hw, ht]
theorem sh_wt3 (hw : PyData.strOk w = true) (ht : PyData.strOk t = true) : SeqAt.shaped (.list [.tuple [.str w, .str t], .tuple [.str w, .str t], .tuple [.str w, .str t]]) = true := by
  unfold SeqAt.shaped
  simp [PyData.canLay0, PyData.canLayAll0, PyData.depth, PyData.depthAll, hw, ht]
theorem n_neWT2 (hw : PyData.strOk w = true) (ht : PyData.strOk t = true) (ha : SqL K H a [.ref p1, .ref p2]) (hb : SqL K H b [.ref q, .ref q]) (h1 : WT H p1 w t) (h2 : WT H p2 w t) (hq : WT H q w t) (k : Q (.bl false) H) : rNeD K (.ref a) (.ref b) H Q :=
  ⟨_, _, .lst ha (.cons (dp_wt h1) (.cons (dp_wt h2) .nil)), .lst hb (.cons (dp_wt hq) (.cons (dp_wt hq) .nil)), sh_wt2 hw ht, sh_wt2 hw ht, by simpa [PyData.eqv, PyData.eqvAll] using k⟩
theorem n_neWT3 (hw : PyData.strOk w = true) (ht : PyData.strOk t = true) (ha : SqL K H a [.ref p1, .ref p2, .ref p3]) (hb : SqL K H b [.ref q, .ref q, .ref q]) (h1 : WT H p1 w t) (h2 : WT H p2 w t) (h3 : WT H p3 w t) (hq : WT H q w t) (k : Q (.bl false) H) : rNeD K (.ref a) (.ref b) H Q :=
  ⟨_, _, .lst ha (.cons (dp_wt h1) (.cons (dp_wt h2) (.cons (dp_wt h3) .nil))), .lst hb (.cons (dp_wt hq) (.cons (dp_wt hq) (.cons (dp_wt hq) .nil))), sh_wt3 hw ht, sh_wt3 hw ht, by simpa [PyData.eqv, PyData.eqvAll] using k⟩
theorem n_eqWT3 (hw : PyData.strOk w = true) (ht : PyData.strOk t = true) (ha : SqL K H a [.ref p1, .ref p2, .ref p3]) (hb : SqL K H b [.ref q, .ref q, .ref q]) (h1 : WT H p1 w t) (h2 : WT H p2 w t) (h3 : WT H p3 w t) (hq : WT H q w t) (k : Q (.bl true) H) : rEqD K (.ref a) (.ref b) H Q :=
  ⟨_, _, .lst ha (.cons (dp_wt h1) (.cons (dp_wt h2) (.cons (dp_wt h3) .nil))), .lst hb (.cons (dp_wt hq) (.cons (dp_wt hq) (.cons (dp_wt hq) .nil))), sh_wt3 hw ht, sh_wt3 hw ht, by simpa [PyData.eqv, PyData.eqvAll] using k⟩
end
/-- a list of one item, some times -/
theorem n_repV {G H : Hp} {L : List (Addr × HO)} {p : Addr} {v : V} {m : Nat} {Q : VK} (S : Own G L H) (hp : H p = some (.lst [v])) (hz : m ≤ 1000) (k : ∀ q G1 H1, Ex G G1 → G1 q = some (.lst (List.replicate m v)) → Own G1 L H1 → Q (.ref q) H1) : rRep (.ref p) (.int (m : Int)) H Q := by
  refine ⟨p, (m : Int), [v], rfl, rfl, hp, by omega, by omega, ?_, fun q hq => ?_⟩
  · have := sizeLine_eq
    simp
    omega
  · have e : (List.replicate (m : Int).toNat [v]).flatten = List.replicate m v := by
      rw [Int.toNat_natCast]
      clear hz hp k S
      induction m with
      | zero => rfl
      | succ m ih => rw [List.replicate_succ, List.flatten_cons, ih, List.replicate_succ] <;> rfl
    rw [e]
    exact k q _ _ (S.still hq).2.1 (S.still hq).2.2 (S.still hq).1
theorem NetAt.noT {C : Addr} {G : Hp} {a : Addr} {n : Nat} {ks : List Pr} (h : NetAt C G a n ks) : NetAt C (NX.noT G) a n ks := by
  obtain ⟨⟨dx, kp, np, xs, nps, o⟩, h1, h2, h3, h4⟩ := h
  have ne : ∀ {b : Addr} {u : HO}, G b = some u → (∀ ps, u ≠ .tbl ps) → NX.noT G b = some u := fun h n => noT_of h n
  refine ⟨⟨dx, kp, np, xs, nps, ⟨ne o.ins (fun ps z => by cases z), ne o.kept (fun ps z => by cases z), ?_, ne o.near (fun ps z => by cases z), o.len, fun i p q => ne (o.each i p q) (fun ps z => by cases z)⟩⟩, h1, h2, h3, h4⟩
  have hl := o.lks
  clear o h1 h2 h3
  unfold Lks at *
  induction hl with
  | nil => exact .nil
  | cons h _ ih =>
    obtain ⟨t, e1, e2⟩ := h
    exact .cons ⟨t, e1, ne e2 (fun ps z => by cases z)⟩ ih
theorem n_dnewG' {G H : Hp} {L : List (Addr × HO)} {σ : L2.St} {Q : VK} (S : Own G L H) (k : ∀ p G1 H1, Ex G G1 → G1 p = some (.dT []) → Own G1 L H1 → Q (.ref p) H1) : tDNewT σ H Q :=
  fun p hp => k p _ _ (S.lay hp).freeze.2.1 (S.lay hp).freeze.2.2 (S.lay hp).freeze.1
theorem ex_step {B G G1 : Hp} (c : Ex (noT B) G) (e : Ex (noT G) G1) : Ex (noT B) G1 := fun a o h => e _ _ (noT_of (c _ _ h) (of_noT h).2)
theorem WT.noT {G : Hp} {p : Addr} {w t : Str} (h : WT G p w t) : WT (NX.noT G) p w t := noT_of h fun ps z => by cases z
theorem WT.mono {G H : Hp} {p : Addr} {w t : Str} (h : WT G p w t) (e : Ex G H) : WT H p w t := e _ _ h
theorem WT.lam {G G1 : Hp} {p : Addr} {w t : Str} (h : WT G p w t) (e : Ex (NX.noT G) G1) : WT G1 p w t := h.noT.mono e
theorem lst1 {W : Addr} {xs : List V} : ∀ p ∈ [(W, HO.lst xs)], ∃ ys, p.2 = HO.lst ys := fun p hp => by
  rw [List.mem_singleton.mp hp]
  exact ⟨_, rfl⟩
theorem lst2 {W p : Addr} {xs ys : List V} : ∀ q ∈ [(p, HO.lst ys), (W, HO.lst xs)], ∃ zs, q.2 = HO.lst zs := fun q hq => by
  rcases List.mem_cons.mp hq with rfl | hq
  · exact ⟨_, rfl⟩
  · exact lst1 q hq
theorem ex_nn {B G : Hp} (c : Ex (noT B) G) : Ex (noT B) (noT G) := fun a o h => noT_of (c _ _ h) (of_noT h).2
/-- behind a call that may only change the first -/
theorem Own.pass {G H H' : Hp} {L : List (Addr × HO)} {p : Addr} {o : HO} (S : Own G ((p, o) :: L) H) (e : Ex (cut H [(p, o)]) H') : Own G L H' :=
  ⟨S.keep.trans e, fun x hx => ⟨(S.forget.at_ x hx).1, e _ _ (by
    rw [cut_out (fun m => S.nin (by
      rw [← show x.1 = p by simpa using m]
      exact List.mem_map_of_mem hx))]
    exact (S.forget.at_ x hx).2)⟩, S.forget.nd, S.forget.nt⟩
theorem own_tabs {H : Hp} {T : List (Addr × Str)} (h : ∀ p ∈ T, H p.1 = some (.tbl #[])) (nd : (T.map Prod.fst).Nodup) : Own (cut H (tl T fun _ => #[])) (tl T fun _ => #[]) H :=
  ⟨fun a u e => by
    by_cases m : a ∈ (tl T fun _ => #[]).map Prod.fst
    · rw [cut_in m] at e
      cases e
    · rw [cut_out m] at e
      exact e, fun x hx => ⟨cut_in (List.mem_map_of_mem hx), by
    obtain ⟨p, hp, rfl⟩ := tl_mem hx
    exact h p hp⟩, by rw [tl_fst]; exact nd, fun x hx => by
    obtain ⟨p, hp, rfl⟩ := tl_mem hx
    rfl⟩
theorem sq_tabs {K : PySem.W.Frag} {H : Hp} {T : List (Addr × Str)} {a : Addr} {xs : List V} (h : ∀ p ∈ T, H p.1 = some (.tbl #[])) (hs : SqL K H a xs) : SqL K (noT (cut H (tl T fun _ => #[]))) a xs := by
  have ne : ∀ o, H a = some o → (∀ qs, o ≠ .tbl qs) → noT (cut H (tl T fun _ => #[])) a = some o := fun o e n => by
    refine noT_of ?_ n
    rw [cut_out]
    · exact e
    · intro m
      rw [tl_fst] at m
      obtain ⟨p, hp, rfl⟩ := List.mem_map.mp m
      rw [h p hp] at e
      exact n _ (Option.some.inj e).symm
  rcases hs with (hs | ⟨o, hs⟩) | hs
  · exact .inl (.inl (ne _ hs fun qs z => by cases z))
  · exact .inl (.inr ⟨o, ne _ hs fun qs z => by cases z⟩)
  · exact .inr hs
end NX

namespace NX
open PySem PySem.Spec PyProof.Rows L2
open Evl (Ex ex_l ex_t fresh_back)
/-! ### three outcomes -/
/-- p holds (w, i) -/
def WI (H : Hp) (p : Addr) (w : Str) (i : Int) : Prop := H p = some (.tup [.str w, .int i])
theorem WI.noT {G : Hp} {p : Addr} {w : Str} {i : Int} (h : WI G p w i) : WI (NX.noT G) p w i := noT_of h fun ps z => by cases z
theorem WI.mono {G H : Hp} {p : Addr} {w : Str} {i : Int} (h : WI G p w i) (e : Ex G H) : WI H p w i := e _ _ h
theorem WI.lam {G G1 : Hp} {p : Addr} {w : Str} {i : Int} (h : WI G p w i) (e : Ex (NX.noT G) G1) : WI G1 p w i := h.noT.mono e
theorem dp_wi {K : PySem.W.Frag} {H : Hp} {p : Addr} {w : Str} {i : Int} (h : WI H p w i) : Dp K H (.ref p) (.tuple [.str w, .int i]) := .tup (SqT.of h) (.cons (.str w) (.cons (.int i) .nil))
section
variable {K : PySem.W.Frag} {H : Hp} {a b p1 p2 p3 q q2 : Addr} {w t w2 : Str} {i j : Int} {Q : VK}
theorem sh_wi (hw : PyData.strOk w = true) : SeqAt.shaped (.tuple [.str w, .int i]) = true := by
  unfold SeqAt.shaped
  simp [PyData.canLay0, PyData.canLayAll0, PyData.depth, PyData.depthAll, hw]
theorem sh_wi3 (hw : PyData.strOk w = true) : SeqAt.shaped (.list [.tuple [.str w, .int i], .tuple [.str w, .int i], .tuple [.str w, .int i]]) = true := by
  unfold SeqAt.shaped
  simp [PyData.canLay0, PyData.canLayAll0, PyData.depth, PyData.depthAll, hw]
theorem n_neWI (hw : PyData.strOk w = true) (h1 : WI H a w i) (h2 : WI H b w i) (k : Q (.bl false) H) : rNeD K (.ref a) (.ref b) H Q :=
  ⟨_, _, dp_wi h1, dp_wi h2, sh_wi hw, sh_wi hw, by simpa [PyData.eqv, PyData.eqvAll] using k⟩
theorem n_neWI3 (hw : PyData.strOk w = true) (ha : SqL K H a [.ref p1, .ref p2, .ref p3]) (hb : SqL K H b [.ref q, .ref q, .ref q]) (h1 : WI H p1 w i) (h2 : WI H p2 w i) (h3 : WI H p3 w i) (hq : WI H q w i) (k : Q (.bl false) H) : rNeD K (.ref a) (.ref b) H Q :=
  ⟨_, _, .lst ha (.cons (dp_wi h1) (.cons (dp_wi h2) (.cons (dp_wi h3) .nil))), .lst hb (.cons (dp_wi hq) (.cons (dp_wi hq) (.cons (dp_wi hq) .nil))), sh_wi3 hw, sh_wi3 hw, by simpa [PyData.eqv, PyData.eqvAll] using k⟩
theorem n_eqWI3 (hw : PyData.strOk w = true) (ha : SqL K H a [.ref p1, .ref p2, .ref p3]) (hb : SqL K H b [.ref q, .ref q, .ref q]) (h1 : WI H p1 w i) (h2 : WI H p2 w i) (h3 : WI H p3 w i) (hq : WI H q w i) (k : Q (.bl true) H) : rEqD K (.ref a) (.ref b) H Q :=
  ⟨_, _, .lst ha (.cons (dp_wi h1) (.cons (dp_wi h2) (.cons (dp_wi h3) .nil))), .lst hb (.cons (dp_wi hq) (.cons (dp_wi hq) (.cons (dp_wi hq) .nil))), sh_wi3 hw, sh_wi3 hw, by simpa [PyData.eqv, PyData.eqvAll] using k⟩
/-- [(w, i), (w2, j), None] twice -/
theorem n_neWWN (hw : PyData.strOk w = true) (hw2 : PyData.strOk w2 = true) (ha : SqL K H a [.ref p1, .ref p2, .non]) (hb : SqL K H b [.ref q, .ref q2, .non]) (h1 : WI H p1 w i) (h2 : WI H p2 w2 j) (h3 : WI H q w i) (h4 : WI H q2 w2 j) (k : Q (.bl false) H) : rNeD K (.ref a) (.ref b) H Q := by
  have z : SeqAt.shaped (.list [.tuple [.str w, .int i], .tuple [.str w2, .int j], .none]) = true := by
    unfold SeqAt.shaped
    simp [PyData.canLay0, PyData.canLayAll0, PyData.depth, PyData.depthAll, hw, hw2]
  exact ⟨_, _, .lst ha (.cons (dp_wi h1) (.cons (dp_wi h2) (.cons .non .nil))), .lst hb (.cons (dp_wi h3) (.cons (dp_wi h4) (.cons .non .nil))), z, z, by simpa [PyData.eqv, PyData.eqvAll] using k⟩
end
/-- no channel, its repr t -/
structure OdC (K : PySem.W.Frag) (H : Hp) (v : V) (t : Str) : Prop where
  odd : OddCh H v
  sh : ShV K H v t
  ok : PyData.strOk t = true
theorem OdC.mono {K : PySem.W.Frag} {G H : Hp} {v : V} {t : Str} (h : OdC K G v t) (e : Ex G H) : OdC K H v t := by
  obtain ⟨⟨ty, o1, o2⟩, h2, h3⟩ := h
  exact ⟨⟨ty, o1.mono e, o2⟩, h2.mono e fun d => dp_mono e d _, h3⟩
theorem odC_at {K : PySem.W.Frag} {G : Hp} {pl pd : Addr} (h1 : G pl = some (.lst [.int 1])) (h2 : G pd = some (.dT [])) {r : Int} (h0 : 0 ≤ r) (h8 : r < 8) :
    ∃ v t, atI [V.int 0, V.int (-1), V.non, V.bl true, V.str (Str.ofString "1"), V.ref pl, V.ref pd, V.int (-(10 ^ (20 : Int).toNat))] r = some v ∧ OdC K G v t := by
  have : r = 0 ∨ r = 1 ∨ r = 2 ∨ r = 3 ∨ r = 4 ∨ r = 5 ∨ r = 6 ∨ r = 7 := by omega
  rcases this with rfl | rfl | rfl | rfl | rfl | rfl | rfl | rfl
  · exact ⟨_, _, rfl, ⟨"int", .int _, fun _ => ⟨_, rfl, by decide⟩⟩, .int 0 (by decide +kernel), by decide +kernel⟩
  · exact ⟨_, _, rfl, ⟨"int", .int _, fun _ => ⟨_, rfl, by decide⟩⟩, .int (-1) (by decide +kernel), by decide +kernel⟩
  · exact ⟨_, _, rfl, ⟨"NoneType", .non, fun h => absurd h (by decide)⟩, .non, by decide +kernel⟩
  · exact ⟨_, _, rfl, ⟨"bool", .bl true, fun h => absurd h (by decide)⟩, .bl true, by decide +kernel⟩
  · exact ⟨_, _, rfl, ⟨"str", .str _, fun h => absurd h (by decide)⟩, .str _ (by decide +kernel), by decide +kernel⟩
  · exact ⟨_, _, rfl, ⟨"list", .lst h1, fun h => absurd h (by decide)⟩, .dat (.list [.int 1]) (.lst (.inl (.inl h1)) (.cons (.int 1) .nil)) (by decide +kernel) (by decide +kernel) (by decide +kernel) (by decide +kernel), by decide +kernel⟩
  · exact ⟨_, _, rfl, ⟨"dict", .dct h2, fun h => absurd h (by decide)⟩, .dct h2, by decide +kernel⟩
  · exact ⟨_, _, rfl, ⟨"int", .int _, fun _ => ⟨_, rfl, by decide +kernel⟩⟩, .int _ (by decide +kernel), by decide +kernel⟩
/-- the case of a question: no station; no channel; a good one -/
inductive CaseQ (K : PySem.W.Frag) (G : Hp) (n : Nat) (v u : V) : Str → Str → Prop
  | st {t : Str} : OdS K G n v t → CaseQ K G n v u "station" t
  | ch {t : Str} : OkSt n v → OdC K G u t → CaseQ K G n v u "channel" t
  | ok : OkSt n v → u = .int 1 → CaseQ K G n v u "ok" "ok"
/-- what _law_outcomes finds -/
def OutsOk (G : Hp) (xs : List V) (w t : Str) : Prop := ∃ p1 p2 p3, (w ≠ "ok" ∧ xs = [.ref p1, .ref p2, .ref p3] ∧ WT G p1 w t ∧ WT G p2 w t ∧ WT G p3 w t) ∨ (w = "ok" ∧ xs = [.ref p1, .ref p2, .non] ∧ WI G p1 "many" 0 ∧ WI G p2 "closed" (-1))
theorem lstA {A : List (Addr × HO)} {p : Addr} {xs : List V} (h : ∀ q ∈ A, ∃ ys, q.2 = HO.lst ys) : ∀ q ∈ (p, HO.lst xs) :: A, ∃ zs, q.2 = HO.lst zs := fun q hq => by
  rcases List.mem_cons.mp hq with rfl | hq
  · exact ⟨_, rfl⟩
  · exact h q hq
end NX

namespace NX
open PySem PySem.Spec PyProof.Rows L2
open LamX (TabB)
/-! ### the end of a law that makes lambdas and shows values -/
section
variable {P : Program} {w : World} {K : PySem.W.Frag} {mg : Str → Option Value} {base : Heap}
theorem okGC {x qual : Str} {st : Stmt} {f : Addr} {fd : FuncData} {c : Addr} {N ps : List Str} {k : Nat} {sp : Sp} (F : FunC K x qual st f fd c) (S : FnScope N ps (defScope st)) (len : ∀ vs H Q E, sp vs H Q E → vs.length = ps.length)
    (hbody : ∀ (A : Around) (outer : List Env) (s : Shared) (H : Hp) (vs : List V) (Q : VK) (E : XK), A.guards = some [] → Room k (A.deeper (envOfC qual (defScope st) s.heap.objs.size f (.ref c))) → sp vs H Q E →
      ∃ t, PSs (cxOf CX0 P w K mg base N qual (defScope st) f (.ref c) A outer s H E).nox (defBody st) t ∧ t { nx := fun _ H' => Q .non H', rt := Q } (L2.start N vs) H) : FnOkG P w K mg base (k + 1) f fd ps sp := by
  obtain ⟨oc, od, kV, doc, pm, an, ct, osl, rfl, lk, hcd⟩ := F.ex
  exact okG0 lk hcd S len hbody
end
/-- the tables' addresses -/
abbrev tbs (cs : List (Addr × Addr)) : List Addr := cs.map Prod.snd
theorem call_tabsG {P : Program} {w : World} {K : PySem.W.Frag} {mg mb : Str → Option Value} {k : Nat} {fa a : Addr} {cs : List (Addr × Addr)} {fd : FuncData} {x : Str} {sp : Sp} {s1 : Shared} {vs : List Value} {ns : List Int}
    (inK : K.In s1.heap) (nsG : s1.heap.Ns mainGlobals mg) (nsB : s1.heap.Ns builtinsNs mb) (boot : ∀ x : Str, x ≠ "__name__" → mb x = bootBuiltins x) (lim : s1.heap.NoLimit) (gens : s1.gens = #[])
    (tab : ∀ p ∈ cs, s1.heap.get? p.2 = some { cls := .none, data := .fields #[] }) (tabK : ∀ p ∈ cs, K.lookup p.2 = none) (code : ∀ p ∈ cs, PySem.W.CodeHd s1.heap p.1 p.2)
    (bmod : ∃ (bm : Addr) (ob : Obj), mg "__builtins__" = some (.ref bm) ∧ bm ≠ builtinsNs ∧ s1.heap.get? bm = some ob ∧ ob.cls = .type "module" ∧ ob.dict = some builtinsNs ∧ ob.data = .plain)
    (script : s1.heap.get? a = some { cls := .type "list", data := .seq vs.toArray }) (nums : IntsAre vs ns) (few : ns.length ≤ sizeLine) (room : Room k callerA)
    (F : ∀ base : Heap, K.In base → base.Ns mainGlobals mg → (∀ p ∈ cs, TabB base mg p.1 p.2) → FnOkG P w K mg base k fa fd [x] sp) (hbind : ∀ (s : Shared) (u : Value), BindsTo s fd ⟨[u], []⟩ [(x, u)])
    (ask : ∀ H : Hp, (∀ p ∈ cs, H p.2 = some (.tbl #[])) → SqL K H a (ns.map V.int) → sp [.ref a] H (fun v _ => v = .bl true) fun _ _ _ => False) :
    codeAny (model P w) callerA (.call (.ref fa) ⟨[.ref a], []⟩) (fun r s' => r = .ok (.ret (.bool true)) ∧ OldK s1.heap s'.heap ∧ s'.os = s1.os ∧ AllBare s'.gens) s1 := by
  have tabA : ∀ b ∈ tbs cs, s1.heap.get? b = some { cls := .none, data := .fields #[] } := by
    intro b hb
    obtain ⟨p, hp, rfl⟩ := List.mem_map.mp hb
    exact tab p hp
  have aOut : a ∉ tbs cs := by
    intro m
    have z := (tabA a m).symm.trans script
    injection z with z
    injection z with _ _ z
    cases z
  -- H: the tables, and it may be the script
  have go : ∀ H : Hp, (∀ b u, H b = some u → (b ∈ tbs cs ∧ u = .tbl #[]) ∨ (b = a ∧ K.lookup a = none ∧ ∃ o xs, u = .frz o (.lst xs))) → (∀ b ∈ tbs cs, H b = some (.tbl #[])) → SqL K H a (ns.map V.int) → HOk P w H s1.heap →
      codeAny (model P w) callerA (.call (.ref fa) ⟨[.ref a], []⟩) (fun r s' => r = .ok (.ret (.bool true)) ∧ OldK s1.heap s'.heap ∧ s'.os = s1.os ∧ AllBare s'.gens) s1 := by
    intro H kinds hT hS ok
    have free : ∀ {b : Addr} {o : Obj}, s1.heap.get? b = some o → (∀ us m, o.data = .seq us m → False) → (o.data = .fields #[] → False) → H b = none := by
      intro b o e n1 n2
      rcases q : H b with _ | u
      · rfl
      · exfalso
        rcases kinds b u q with ⟨m, _⟩ | ⟨rfl, _⟩
        · have z := (tabA b m).symm.trans e
          injection z with z
          exact n2 (by rw [← z])
        · have z := script.symm.trans e
          injection z with z
          exact n1 _ _ (by rw [← z])
    have freeD : ∀ {b : Addr} {o : Obj} {es : Array DictEntry} {ep : Nat}, s1.heap.get? b = some o → o.data = .dict es ep → H b = none := by
      intro b o es ep e d
      exact free e (fun us m z => by rw [d] at z; exact nomatch z) (fun z => by rw [d] at z; exact nomatch z)
    have names : ∀ {b : Addr} {m : Str → Option Value}, s1.heap.Ns b m → (hidT s1.heap H).Ns b m := by
      rintro b m ⟨o, es, ep, e, d, r⟩
      exact ⟨o, es, ep, hidT_get e (freeD e d), d, r⟩
    have inB : K.In (hidT s1.heap H) := by
      intro b o e
      refine hidT_get (inK b o e) ?_
      rcases q : H b with _ | u
      · rfl
      · exfalso
        rcases kinds b u q with ⟨m, _⟩ | ⟨rfl, z, _⟩
        · obtain ⟨p, hp, rfl⟩ := List.mem_map.mp m
          exact nomatch (tabK p hp).symm.trans e
        · exact nomatch z.symm.trans e
    have mod : L2.Mod K mg (hidT s1.heap H) := by
      obtain ⟨mc, l1, l2⟩ := lim
      exact ⟨inB, names nsG, ⟨mb, names nsB, boot⟩, mc, names l1, l2⟩
    have tabs : ∀ p ∈ cs, TabB (hidT s1.heap H) mg p.1 p.2 := by
      intro p hp
      have own := tab p hp
      refine ⟨?_, ?_, ?_⟩
      · obtain ⟨o, us, file, tf, flags, tg, inF, text, tt, e1, r1, r2, r3, rest⟩ := code p hp
        refine ⟨o, us, file, tf, flags, tg, inF, text, tt, hidT_get e1 (free e1 (fun vs n z => ?_) fun z => ?_), r1, r2, r3, rest⟩
        · exact nomatch r2.symm.trans z
        · have z := r2.symm.trans z
          injection z with z
          rw [z] at r3
          exact nomatch r3
      · obtain ⟨bm, ob, b1, b2, b3, b4, b5, b6⟩ := bmod
        refine ⟨bm, ob, b1, b2, ?_, ?_, hidT_get b3 (free b3 (fun vs n z => nomatch b6.symm.trans z) fun z => nomatch b6.symm.trans z), b4, b5, b6⟩
        · rintro rfl
          obtain ⟨o, es, ep, e, hd, _⟩ := nsG
          have z := b3.symm.trans e
          injection z with z
          exact nomatch b6.symm.trans ((congrArg Obj.data z).trans hd)
        · rintro rfl
          have z := b3.symm.trans own
          injection z with z
          exact nomatch b6.symm.trans (congrArg Obj.data z)
      · intro z
        obtain ⟨o, es, ep, e, hd, _⟩ := nsG
        rw [← z] at own
        have z := own.symm.trans e
        injection z with z
        exact nomatch (congrArg Obj.data z).trans hd
    have env : Env0 P w K mg (hidT s1.heap H) callerA [] s1 H := ⟨rfl, mod, fun _ _ e => of_hidT e, Nat.le_of_eq (hidT_size _ _), trivial, fun _ m => absurd m List.not_mem_nil, ok, .of_eq gens⟩
    refine codeAny_mono ((F _ inB (names nsG) tabs).run callerA [] s1 H ⟨[.ref a], []⟩ [.ref a] [.ref a] _ _ rfl room env (hbind s1 (.ref a)) (.cons rfl .nil) (ask H (fun p hp => hT _ (List.mem_map_of_mem hp)) hS)) ?_
    rintro (e | (_ | _ | _ | u)) s' h
    · exact h.elim
    · exact h.elim
    · exact h.elim
    · exact h.elim
    · obtain ⟨v, H', os, bare, un, ok', r', q⟩ := h
      obtain rfl : v = .bl true := q
      obtain rfl : u = Value.bool true := r'
      have old : ∀ b o, b ∉ tbs cs → s1.heap.get? b = some o → s'.heap.get? b = some o := by
        intro b o out e
        rcases q : H b with _ | u
        · exact un.keep b o e q (fun m => absurd m List.not_mem_nil) fun m => absurd m List.not_mem_nil
        · rcases kinds b u q with ⟨m, _⟩ | ⟨rfl, _, ob, xs, rfl⟩
          · exact absurd m out
          · have e1 := (ok b _ q).1
            have e2 := (ok' b _ (un.frzs b ob _ q)).1
            rw [e] at e1
            cases e1
            exact e2
      have more : ∀ b ∈ tbs cs, ∃ ps : Array Value, s'.heap.get? b = some { cls := .none, data := .fields ps } := by
        intro b m
        obtain ⟨ps, z⟩ := un.tbls b #[] (hT b m)
        exact ⟨_, ok' b _ z⟩
      refine ⟨rfl, ⟨fun b o e => ?_, fun b o e => ?_⟩, os, bare⟩
      · by_cases m : b ∈ tbs cs
        · obtain ⟨ps, z⟩ := more b m
          obtain ⟨p, hp, rfl⟩ := List.mem_map.mp m
          have z2 := (tab p hp).symm.trans e
          injection z2 with z2
          subst z2
          exact .inr (.inl ⟨((code p hp).tab (tab p hp)).isCodeTable, rfl, #[], ps, rfl, by rw [Array.empty_append]; exact z⟩)
        · exact .inl (old b o m e)
      · by_cases m : b ∈ tbs cs
        · obtain ⟨ps, z⟩ := more b m
          exact ⟨_, z⟩
        · exact ⟨o, old b o m e⟩
  have vals := vals_ints nums
  rcases hk : K.lookup a with _ | o
  · refine go (fun b => if b ∈ tbs cs then some (.tbl #[]) else if b = a then some (.frz { cls := .type "list", data := .seq vs.toArray } (.lst (ns.map V.int))) else none) ?_ ?_ ?_ ?_
    · intro b u z
      by_cases m : b ∈ tbs cs
      · simp only [if_pos m] at z
        exact .inl ⟨m, (Option.some.inj z).symm⟩
      · simp only [if_neg m] at z
        by_cases e : b = a
        · simp only [if_pos e] at z
          exact .inr ⟨e, hk, _, _, (Option.some.inj z).symm⟩
        · simp only [if_neg e] at z
          cases z
    · intro b m
      exact if_pos m
    · exact .inl (.inr ⟨{ cls := .type "list", data := .seq vs.toArray }, (if_neg aOut).trans (if_pos rfl)⟩)
    · intro b u z
      by_cases m : b ∈ tbs cs
      · simp only [if_pos m] at z
        cases z
        exact tabA b m
      · simp only [if_neg m] at z
        by_cases e : b = a
        · simp only [if_pos e] at z
          cases z
          subst e
          exact ⟨script, by rw [List.length_map]; exact few, vs, _, vals, script⟩
        · simp only [if_neg e] at z
          cases z
  · have e := (inK a o hk).symm.trans script
    injection e with e
    subst e
    refine go (fun b => if b ∈ tbs cs then some (.tbl #[]) else none) ?_ (fun b m => if_pos m) (.inr ⟨_, vs.toArray, _, hk, rfl, rfl, rfl, by rw [List.size_toArray, nums.length]; exact few, by simpa using vals⟩) ?_
    · intro b u z
      by_cases m : b ∈ tbs cs
      · simp only [if_pos m] at z
        exact .inl ⟨m, (Option.some.inj z).symm⟩
      · simp only [if_neg m] at z
        cases z
    · intro b u z
      by_cases m : b ∈ tbs cs
      · simp only [if_pos m] at z
        cases z
        exact tabA b m
      · simp only [if_neg m] at z
        cases z
/-- what is known of such a law's promise at the head's heap h -/
def LawTG (l : PySem.W.OpenLaw) (w : World) (K : PySem.W.Frag) (k : Nat) (mg : Str → Option Value) (fa : Addr) (h : Heap) : Prop :=
  ∃ (fd : FuncData) (cs : List (Addr × Addr)) (sp : Sp), (∀ p ∈ cs, h.get? p.2 = some { cls := .none, data := .fields #[] }) ∧ (∀ p ∈ cs, K.lookup p.2 = none) ∧ (∀ p ∈ cs, PySem.W.CodeHd h p.1 p.2) ∧ (∀ (s : Shared) (u : Value), BindsTo s fd ⟨[u], []⟩ [("_law_script", u)]) ∧
    (∀ (H : Hp) (a : Addr) (ns : List Int), ns.length ≤ 63 → (∀ p ∈ cs, H p.2 = some (.tbl #[])) → SqL K H a (ns.map V.int) → sp [.ref a] H (fun v _ => v = .bl true) fun _ _ _ => False) ∧
    ∀ base : Heap, K.In base → base.Ns mainGlobals mg → (∀ p ∈ cs, TabB base mg p.1 p.2) → FnOkG l.prog w K mg base k fa fd ["_law_script"] sp
theorem walkTG {l : PySem.W.OpenLaw} {q : Program} {loose : List Str} {XP : (Str → Option Value) → Heap → Prop} {YP : World → Heap → Prop} {d : DefRec} {K : Params → PySem.W.Frag} {k : Nat} (hn : l.most = some 63) (hdf : d.params.defaults = []) (hr : Room k callerA)
    (hY : ∀ (w : World) (h : Heap), YP w h → (K w.params).In h) (F : ∀ (w : World) (mg : Str → Option Value) (fa : Addr) (h : Heap), YP w h → (K w.params).In h → h.Ns mainGlobals mg → mg d.name = some (.ref fa) → LawTG l w (K w.params) k mg fa h) :
    PySem.W.WalkO q loose XP YP l.row.toRowW d [] (fun f vs => PySem.call f vs) := by
  refine Att.attach_callB hn hdf fun w s₀ s₁ mg mb fa o pm cd doc a vs ns G Y ho hd hcd hmg hobj hints hlen hbits hg => ?_
  have KX := hY w _ Y
  obtain ⟨fd, cs, sp, hT, nT, C, hb, hsp, hF⟩ := F w mg fa _ Y KX G.T.g hmg
  exact call_tabsG KX G.T.g G.T.b G.T.builtins G.T.nolimit hg hT nT C G.T.bmain hobj hints (Nat.le_trans hlen (by decide)) hr hF hb fun H hH hS => hsp H a ns hlen hH hS
end NX

namespace NX
open PySem PySem.Spec PyProof.Rows L2
open Evl (Ex ex_l ex_t fresh_back)
abbrev s_check_wanted : Stmt := top 22
theorem sc_check_wanted : FnScope ["network", "station", "channel"] ["network", "station", "channel"] (defScope s_check_wanted) := ⟨rfl, rfl, rfl, by decide +kernel, rfl, by decide +kernel, by decide +kernel⟩
def spWanted (C CS CC : Addr) : Sp := fun vs H Q E => ∃ (a : Addr) (n : Nat) (ks : List Pr) (v u : V), vs = [.ref a, v, u] ∧ NetAt C H a n ks ∧ ((OddSt H n v ∧ Thr E CS "station" v H) ∨ (OkSt n v ∧ OddCh H u ∧ Thr E CC "channel" u H) ∨ (OkSt n v ∧ (∃ c : Int, u = .int c ∧ 1 ≤ c) ∧ ∀ H', Ex H H' → Q .non H'))
section
variable {P : Program} {w : World} {K : PySem.W.Frag} {mg : Str → Option Value} {base : Heap} {C CS CC : Addr}
theorem ok_wanted {f : Addr} {fd : FuncData} (F : Fun K "check_wanted" "check_wanted" s_check_wanted f fd) (T : Txt mg) (NC : NetC K C) (c_is_int : Cal P w K mg base 1 "is_int" ["value"] [] (spIsInt K)) (M_check_station : Mth P w K mg base 3 C "check_station" ["self", "station"] (spChkX C CS))
    (X_NoChannel : Exn P w K mg base "NoChannel" CC "channel") : FnOk P w K mg base (L2.CX P w) 4 f fd ["network", "station", "channel"] (spWanted C CS CC) := by
  refine F.okX sc_check_wanted (fun vs H Q E h => ?_) (fun cdv A outer s H vs Q E hr h => ?_)
  · obtain ⟨a, n, ks, v, u, rfl, _⟩ := h
    rfl
  · obtain ⟨a, n, ks, v, u, rfl, N, h⟩ := h
    refine ⟨_, (pss_cons (ps_expr (pe_mth (pv 0) M_check_station NC.cl (hr.mono (by first | decide | omega)) (passE (takes_of rfl rfl rfl rfl) fun _ _ _ _ z => z) (pa_cons (pv 1) pa_nil)))
      (pss_one (ps_if (PW.pt (pw_or (pt_not (pt_val (pe_cal c_is_int (hr.mono (by first | decide | omega)) passN (pa_cons (pv 2) pa_nil)))) (pw_or1 (pt_cmpR op_lt (pv 2) pe_int (nomark _))))) (pss_one (ps_raiseE (K := K) rfl (takes_of rfl rfl rfl rfl) X_NoChannel (hr.mono (by first | decide | omega)) (pa_cons (pv 2) pa_nil))) pss_nil))), ?_⟩
    walk_at "go"
    refine ⟨N.ins (by decide) (by decide), ?_⟩
    walk_at "go"
    rcases h with ⟨ho, kE⟩ | ⟨hk, ⟨t, ho, hno⟩, kE⟩ | ⟨hk, ⟨c, rfl, hc⟩, k⟩
    · exact ⟨a, n, ks, v, rfl, N, .inr ⟨ho, fun d H' e hd => kE d H' e hd⟩⟩
    · refine ⟨a, n, ks, v, rfl, N, .inl ⟨hk, fun H1 e1 => ?_⟩⟩
      walk_at "go"
      refine ⟨u, t, rfl, (ho.mono e1).isT, ?_⟩
      walk_at "go"
      by_cases c : t = "int"
      · subst c
        obtain ⟨i, rfl, hi⟩ := hno rfl
        refine if_ff (by decide +kernel) ?_
        walk_at "go"
        refine if_tt (dtrue hi) ?_
        refine s_raiseE ?_
        walk_at "go"
        exact n_raise X_NoChannel.oex fun d H4 _ e4 hd => kE d H4 (e1.trans e4) hd
      · have e : (t == "int") = false := by simp [c]
        rw [e]
        walk_at "go"
        refine s_raiseE ?_
        walk_at "go"
        exact n_raise X_NoChannel.oex fun d H4 _ e4 hd => kE d H4 (e1.trans e4) hd
    · refine ⟨a, n, ks, v, rfl, N, .inl ⟨hk, fun H1 e1 => ?_⟩⟩
      walk_at "go"
      refine g_isint ?_
      walk_at "go"
      refine if_ff (dfalse (by omega)) ?_
      walk_at "go"
      exact k H1 e1
end
end NX

namespace NX
/-! ### greatest_channels: the table -/
/-- one step of the table -/
def StepT (n : Nat) (ks : List Pr) (t t' : List Int) : Prop := t'.length = n ∧ ∀ i : Nat, i < n → IsCh ((nb ks (i : Int)).map (tv t)) (tv t' (i : Int) - 1)
def TabF (n : Nat) (ks : List Pr) (t : List Int) : Prop := StepT n ks t t
def LowT (n : Nat) (ks : List Pr) (t : List Int) : Prop := t.length = n ∧ (∀ i : Nat, i < n → 0 ≤ tv t (i : Int)) ∧ ∀ t', StepT n ks t t' → ∀ i : Nat, i < n → tv t' (i : Int) ≤ tv t (i : Int)
theorem nb_nat {n : Nat} {ks : List Pr} (h : Okl n ks) {i x : Int} (m : x ∈ nb ks i) : ∃ j : Nat, x = (j : Int) ∧ j < n := by
  have := nb_rng h m
  exact ⟨x.toNat, by omega, by omega⟩
theorem low_step {n : Nat} {ks : List Pr} {t t' : List Int} (ok : Okl n ks) (h : LowT n ks t) (s : StepT n ks t t') : LowT n ks t' := by
  refine ⟨s.1, fun i hi => by have := (s.2 i hi).1; omega, fun t'' s' i hi => ?_⟩
  have := IsCh.mono (f := tv t') (g := tv t) (List.Sublist.refl _) (fun x hx => by
    obtain ⟨j, rfl, hj⟩ := nb_nat ok hx
    exact h.2.2 t' s j hj) (s'.2 i hi) (s.2 i hi)
  omega
theorem low_sum {n : Nat} {ks : List Pr} {t t' : List Int} (h : LowT n ks t) (s : StepT n ks t t') : 0 ≤ t'.sum ∧ t'.sum ≤ t.sum ∧ (t' ≠ t → t'.sum < t.sum) := by
  have z := sum_le (s := t') (t := t) (s.1.trans h.1.symm) fun i hi => h.2.2 t' s i (by have := s.1; omega)
  exact ⟨sum_nn fun i hi => by have := (s.2 i (by have := s.1; omega)).1; omega, z⟩
theorem low_start {n : Nat} {ks : List Pr} {t : List Int} (h : t.length = n) (e : ∀ i : Nat, i < n → tv t (i : Int) = ((nb ks (i : Int)).length : Int) + 1) : LowT n ks t :=
  ⟨h, fun i hi => by rw [e i hi]; omega, fun t' s i hi => by
    have := (s.2 i hi).le_len
    rw [List.length_map] at this
    rw [e i hi]
    omega⟩
theorem TabF.tab {n : Nat} {ks : List Pr} {t : List Int} (h : TabF n ks t) : Tab (fun v : Int => 0 ≤ v ∧ v < (n : Int)) (nb ks) (tv t) := fun v ⟨h1, h2⟩ => by
  obtain ⟨i, rfl⟩ : ∃ i : Nat, v = (i : Int) := ⟨v.toNat, by omega⟩
  exact h.2 i (by omega)
theorem TabF.uniq {n : Nat} {ks : List Pr} {s t : List Int} (ok : Okl n ks) (h : TabF n ks s) (h' : TabF n ks t) : s = t := by
  have a := tab_le h.tab h'.tab id (fun v hv => hv) (fun v _ u hu => by have := nb_rng ok hu; omega) (fun v _ => ⟨_, List.Perm.refl _, by rw [List.map_id]; exact List.Sublist.refl _⟩)
  have b := tab_le h'.tab h.tab id (fun v hv => hv) (fun v _ u hu => by have := nb_rng ok hu; omega) (fun v _ => ⟨_, List.Perm.refl _, by rw [List.map_id]; exact List.Sublist.refl _⟩)
  refine tv_ext (h.1.trans h'.1.symm) fun i hi => ?_
  have hi' : i < n := by have := h.1; omega
  have c := a (i : Int) ⟨by omega, by omega⟩
  have d := b (i : Int) ⟨by omega, by omega⟩
  simp only [id] at c d
  omega
end NX

namespace NX
open PySem PySem.Spec PyProof.Rows L2
open Evl (Ex ex_l ex_t fresh_back)
abbrev s_Network_neighbours : Stmt := inClass (top 14) 4
theorem sc_Network_neighbours : FnScope ["self", "station"] ["self", "station"] (defScope s_Network_neighbours) := ⟨rfl, rfl, rfl, by decide +kernel, rfl, by decide +kernel, by decide +kernel⟩
def spNbrs (C : Addr) : Sp := fun vs H Q _ => ∃ (a : Addr) (n : Nat) (ks : List Pr) (i : Int), vs = [.ref a, .int i] ∧ NetAt C H a n ks ∧ (0 ≤ i ∧ i < (n : Int)) ∧ Ret (.lst ((nb ks i).map V.int)) H Q
theorem asc_uniq : ∀ {l m : List Int}, l.Perm m → l.Pairwise (· ≤ ·) → m.Pairwise (· < ·) → l = m
  | [], m, p, _, _ => (List.nil_perm.mp p).symm
  | x :: l, m, p, hl, hm => by
    cases m with
    | nil => exact absurd (List.perm_nil.mp p) (by simp)
    | cons y m =>
      obtain ⟨h1, h2⟩ := List.pairwise_cons.mp hl
      obtain ⟨h3, h4⟩ := List.pairwise_cons.mp hm
      have hx : x ∈ y :: m := p.mem_iff.mp List.mem_cons_self
      have hy : y ∈ x :: l := p.mem_iff.mpr List.mem_cons_self
      have e : x = y := by
        rcases List.mem_cons.mp hx with e | hx
        · exact e
        · rcases List.mem_cons.mp hy with e | hy
          · exact e.symm
          · have := h3 x hx
            have := h1 y hy
            omega
      subst e
      rw [asc_uniq ((List.perm_cons x).mp p) h2 h4]
section
variable {C : Addr} {G H : Hp} {L : List (Addr × HO)} {a : Addr} {n : Nat} {ks : List Pr} {Q : VK} {E : XK}
theorem n_nbrs {i : Int} (S : Own G L H) (N : NetAt C G a n ks) (h : 0 ≤ i ∧ i < (n : Int)) (k : ∀ p G1 H1, H p = none → Ex G G1 → Ex H H1 → G1 p = some (.lst ((nb ks i).map V.int)) → Own G1 L H1 → Q (.ref p) H1) : spNbrs C [.ref a, .int i] H Q E :=
  ⟨a, n, ks, i, rfl, N.mono S.ex, h, n_retG S k⟩
end
section
variable {P : Program} {w : World} {K : PySem.W.Frag} {mg : Str → Option Value} {base : Heap} {C : Addr}
theorem ok_nbrs {f : Addr} {fd : FuncData} (F : Fun K "neighbours" "Network.neighbours" s_Network_neighbours f fd) (T : Txt mg) (NC : NetC K C) (M_check_station : Mth P w K mg base 2 C "check_station" ["self", "station"] (spChk C)) : FnOk P w K mg base CX0 3 f fd ["self", "station"] (spNbrs C) := by
  refine F.ok sc_Network_neighbours (fun vs H Q E h => ?_) (fun cdv A outer s H vs Q E hr h => ?_)
  · obtain ⟨a, n, ks, i, rfl, _⟩ := h
    rfl
  · obtain ⟨a, n, ks, i, rfl, N, hi, k⟩ := h
    refine ⟨_, (pss_cons (ps_expr (pe_mth (pv 0) M_check_station NC.cl (hr.mono (by first | decide | omega)) passN (pa_cons (pv 1) pa_nil)))
      (pss_one (ps_ret (pe_callB cr_sortedI (by rfl) T.n_sorted (by decide +kernel) (pa_cons (pe_ix ix_list (pe_fld (pv 0) rfl) (pv 1) (fun _ _ => rfl)) pa_nil))))), ?_⟩
    walk_at "go"
    refine ⟨N.ins (by decide) (by decide), ?_⟩
    walk_at "go"
    refine n_chk (Own.start H) N hi fun H1 e1 S1 => ?_
    obtain ⟨dx, kp, np, xs, nps, o⟩ := N.at_
    have o1 := o.mono e1
    obtain ⟨j, rfl⟩ : ∃ j : Nat, i = (j : Int) := ⟨i.toNat, by omega⟩
    obtain ⟨p, hp⟩ : ∃ p, nps[j]? = some p := ⟨_, List.getElem?_eq_getElem (by have := o.len; omega)⟩
    walk_at "go"
    refine n_fld o1.ins NC.cl NC.nN (nf_near kp np) ?_
    walk_at "go"
    refine g_ixL (SqL.of o1.near) (atI_nat (j := j) (v := .ref p) (by rw [List.getElem?_map, hp] <;> rfl)) ?_
    refine n_sortI (Own.start H1) (SqL.of (o1.each j p hp)) fun ms q G2 H2 hpm hup hq e2 e2' hq2 S2 => ?_
    have e : ms = nb ks (j : Int) := asc_uniq hpm hup (nb_up N.ok N.up N.nd (j : Int))
    rw [e] at hq2
    exact k q H2 (fresh_back e1 hq) (e1.trans e2') (S2.ex _ _ hq2)
end
end NX

namespace PySem
/-- enumerate(a tuple): its two new objects -/
theorem nx_enum_newT (t : Addr) (items : Array Value) :
    Meets (Builtin.«enumerate.__new__» ⟨[.type "enumerate", .ref t], []⟩) (fun _ R s => s.heap.IsTuple t items ∧
      R (.ok (.ret (.ref (s.heap.push { cls := .type "tuple_iterator", data := .fields #[.ref t, .int 0 0] }).objs.size)))
        { s with heap := (s.heap.push { cls := .type "tuple_iterator", data := .fields #[.ref t, .int 0 0] }).push { cls := .type "enumerate", data := .fields #[.none, .bool false, .ref s.heap.objs.size, rawInt 0, .none, .none] } }) :=
  .of_wp fun prog w A R s h => by
    obtain ⟨hp, g, d, tk, os⟩ := s
    obtain ⟨hT, h⟩ := h
    have sE := sub_enumerate
    wp_walk using wpAny_pyIter_tuple hT
    refine wpAny_stack_any (fun _ => wpAny_pure ?_)
    split
    · rename_i cl _ _ _ _ _
      cases (cl == Value.type "enumerate") <;> (wp_walk using wpAny_pyIter_tuple hT) <;> exact ⟨_, rfl, h⟩
    · (wp_walk using wpAny_pyIter_tuple hT) <;> exact ⟨_, rfl, h⟩
theorem nx_enum_callT {prog : Program} {w : World} {A : Around} {E : Value → Shared → Prop} {s : Shared} {t : Addr} {items : Array Value} {Q : Value → Shared → Prop} (hT : s.heap.IsTuple t items)
    (k : ∀ h', IsEnum h' (s.heap.objs.size + 1) s.heap.objs.size 0 .none → h'.IsTupleIter s.heap.objs.size t 0 → (∀ b o, s.heap.get? b = some o → h'.get? b = some o) → Q (.ref (s.heap.objs.size + 1)) { s with heap := h' }) :
    wpAny (model prog w) A (call (.type "enumerate") [.ref t]) Q E s := by
  refine callType_new F.called_enumerate (by decide) (F.typeCall_enumerate_1 _) (F.newCall_enumerate_1 _) (fun ob => F.args_object_init_2 ob _) F.entry_enumerate_new (nx_enum_newT t items) ⟨hT, ?_⟩
  have z : (s.heap.push { cls := .type "tuple_iterator", data := .fields #[.ref t, .int 0 0] }).objs.size = s.heap.objs.size + 1 := Heap.size_push ..
  show _ ∧ _
  rw [z]
  have e0 := Heap.get?_push_size (s.heap.push { cls := .type "tuple_iterator", data := .fields #[.ref t, .int 0 0] }) (o := { cls := .type "enumerate", data := .fields #[.none, .bool false, .ref s.heap.objs.size, rawInt 0, .none, .none] }) rfl
  rw [z] at e0
  exact ⟨⟨_, e0, rfl⟩, k _ e0 ⟨_, Heap.get?_push_of_some _ (Heap.get?_push_size _ rfl), rfl, rfl⟩ fun b o x => Heap.get?_push_of_some _ (Heap.get?_push_of_some _ x)⟩
theorem nx_enum_endT {prog : Program} {w : World} {A : Around} {E : Value → Shared → Prop} {s : Shared} {e it t : Addr} {i : Nat} {items : Array Value} {old : Value} {Q : Option Value → Shared → Prop} (hh : A.handled = none) (he : IsEnum s.heap e it ((i : Nat) : Int) old)
    (hit : s.heap.IsTupleIter it t i) (hT : s.heap.IsTuple t items) (hx : items[i]? = none) (hQ : ∀ h', Heap.ExtBut it s.heap h' → Q none { s with heap := h' }) : wpAny (model prog w) A (pyNext (.ref e)) Q E s := by
  have ty : s.TypeIs (.ref e) "enumerate" := ⟨_, he, rfl⟩
  unfold pyNext
  refine wpAny_bind (wpAny_attempt (wpAny_callSpecial?_slot (name := Str.ofString "__next__") ty F.slot_enumerate_next (wpAny_call_entry F.slot_enumerate_next ty F.entry_enumerate_next ?_ (F.args_enumerate_next_1 _))))
  show wpAny _ _ (field (.ref e) 2 >>= _) _ _ _
  refine wpAny_bind (wpAny_field he rfl (x := .ref it) rfl (wpAny_bind (wpAny_nextOf_tuple_end hh hit hT hx fun h' x eb hs => ?_)))
  obtain ⟨o, ho, hc⟩ := hs
  exact wpAny_bind (wpAny_isInstance (T := "StopIteration") (b := true) ⟨o, ho, hc⟩ isSubtype_stop (wpAny_pure (hQ _ eb)))
end PySem
namespace NX
open PySem PySem.Spec PyProof.Rows L2
open Evl (Ex ex_l ex_t fresh_back)
/-! ### enumerate(a tuple) -/
def ItE (K : PySem.W.Frag) (a : Addr) : It :=
  ⟨fun i H => ∃ (xs : List V) (x : V), SqT K H a xs ∧ xs[i]? = some x, fun i H v H' => ∃ T x, v = .ref T ∧ H T = none ∧ H' = upd H T (.tup [.int (i : Nat), x]) ∧ ∀ xs, SqT K H a xs → xs[i]? = some x, fun i H => ∃ xs : List V, SqT K H a xs ∧ xs.length ≤ i⟩
theorem turn_enumT {P : Program} {w : World} {K : PySem.W.Frag} {elts : List Expr} {kk : Nat} {tpos : Pos} (a e it : Addr) :
    Turn P w K (.Tuple elts kk tpos) (ItE K a) [e, it] e (fun i h => (∃ old, IsEnum h e it ((i : Nat) : Int) old) ∧ h.IsTupleIter it a i ∧ e ≠ it) where
  mem := by simp
  obj := fun i h st b hb => by
    obtain ⟨⟨old, he⟩, ⟨o, ho, hc, hd⟩, _⟩ := st
    rcases (show b = e ∨ b = it by simpa using hb) with z | z
    · rw [z]; exact ⟨_, he, fun v q => nomatch q⟩
    · rw [z]; exact ⟨o, ho, fun v q => by rw [hd] at q; cases q⟩
  keep := fun i h h' st k => ⟨⟨st.1.choose, k e (by simp) _ st.1.choose_spec⟩, st.2.1.at fun o q => k it (by simp) o q, st.2.2⟩
  item := by
    intro X hP hw hK hc i pins s σ H E I hf st hg
    subst hP hw hK
    obtain ⟨⟨old, he⟩, hit, hne⟩ := st
    obtain ⟨xs, x, hq, hx⟩ := hg
    obtain ⟨its, rv, p, hz⟩ := I.tuple hq
    obtain ⟨u, hu, ru⟩ := rv.get hx
    have hel : e < s.heap.objs.size := Heap.lt_size he
    have hil : it < s.heap.objs.size := by obtain ⟨_, q, _⟩ := hit; exact Heap.lt_size q
    have hat : a < s.heap.objs.size := by obtain ⟨_, q, _⟩ := p; exact Heap.lt_size q
    have nai : a ≠ it := fun z => by
      subst z
      obtain ⟨o1, q1, c1, d1⟩ := hit
      obtain ⟨o2, q2, c2, _⟩ := p
      rw [q1] at q2
      cases q2
      rw [c1] at c2
      exact absurd (Value.type.inj c2) (by decide)
    have nae : a ≠ e := fun z => by
      subst z
      obtain ⟨o2, q2, c2, _⟩ := p
      rw [he] at q2
      cases q2
      exact absurd (Value.type.inj c2) (by decide)
    have hsz : i < its.toArray.size := by
      have := (List.getElem?_eq_some_iff.mp hu).1
      simpa using this
    have D := Draws.tuple (prog := X.prog) (w := X.w) (A := X.A.in1) (I.ok.hd hc) it a nai its.toArray
    refine wpAny_pyNext_enum_itemD D he ⟨hit, p⟩ hsz hne (by simp [Ne.symm nae, hne]) fun y h' tk hy ho hst hT hs2 hk => ?_
    have ey : y = u := by
      have : its.toArray[i]? = some u := by simpa using hu
      exact Option.some.inj (hy.symm.trans this)
    subst ey
    refine ⟨_, rfl, wpAny_letOwnedTupleGo_enum (s := { s with heap := h', toks := tk + 1 }) ho fun h'' he' sb => ?_⟩
    have hT2 : h''.get? s.heap.objs.size = some { cls := .type "tuple", data := .seq #[.int i tk, y] } := (sb.2 _ (Nat.ne_of_gt hel)).trans hT
    have nw : ObjOk X.prog X.w (upd H s.heap.objs.size (.tup [.int (i : Nat), x])) h'' s.heap.objs.size (.tup [.int (i : Nat), x]) :=
      ⟨by show 2 ≤ sizeLine; decide, [.int i tk, y], .cons ⟨_, rfl⟩ (.cons ru .nil), ⟨_, hT2, rfl, _, rfl⟩⟩
    have I1 : Inv X pins σ (upd H s.heap.objs.size (.tup [.int (i : Nat), x])) { s with heap := h'', toks := tk + 1 } :=
      I.turnedNew (ch := [e, it]) (fun b ob hb q => (sb.2 b (fun z => hb (by simp [z]))).trans (hk b ob (fun z => hb (by simp [z])) (fun z => hb (by simp [z])) q)) hf (Nat.le_refl _) nw
    refine ⟨.ref s.heap.objs.size, _, I1, rfl, ⟨_, x, rfl, I.hok.fresh (Nat.le_refl _), rfl, fun ys hy => by rw [I.tuple_inj hy hq]; exact hx⟩, ⟨⟨y, ?_⟩, hst.1.at fun o q => (sb.2 it (Ne.symm hne)).trans q, hne⟩, fun b hb => ?_⟩
    · rw [show ((i + 1 : Nat) : Int) = (i : Int) + 1 by omega]
      exact he'
    · have hb' : b < s.heap.objs.size := by
        rcases (show b = e ∨ b = it by simpa using hb) with z | z
        · rw [z]; exact hel
        · rw [z]; exact hil
      rw [upd_ne (Nat.ne_of_lt hb')]
      exact (hf b hb).1
  done := by
    intro X hP hw hK hc i pins s σ H E I hf st hg
    subst hP hw hK
    obtain ⟨⟨old, he⟩, hit, hne⟩ := st
    obtain ⟨xs, hq, hx⟩ := hg
    obtain ⟨its, rv, p, hz⟩ := I.tuple hq
    obtain ⟨f0, f1, f2, f3, f4, f5⟩ := hf it (by simp)
    have hl := rv.length
    exact nx_enum_endT (I.ok.hd hc) he hit p (by simp; omega) fun h' eb => ⟨rfl, I.turned (t' := s.toks) (fun b o hb q => eb b o hb q) f0 f1 f3 f4 f5⟩
  self := fun A i s Q E st h => wpAny_pyIter_enum st.1.choose_spec h
def iEnumT (K : PySem.W.Frag) (ta : TA) : TI := fun σ H R => ta σ H fun vs H1 => ∃ a xs, vs = [.ref a] ∧ SqT K H1 a xs ∧ R (ItE K a) H1
theorem pi_enumT {X : Cx} {e : Expr} {ta : TA} {p pos tpos : Pos} {elts : List Expr} {kk : Nat} (hg : Gl X "enumerate") (hm : X.mg "enumerate" = none) (ha : PA X [e] ta) (hs : starEach [e] X.env = [(false, eval e X.env)] := by rfl) :
    PI X (.Tuple elts kk tpos) (.Call (.Name "enumerate" p) [e] [] pos) (iEnumT X.K ta) := by
  refine ⟨fun pins s σ H R I h => Call_ (ld_blt I hg hm boot_enumerate (PyProof.Rows.callWith_type1 (thn (ha.run pos pins s σ H _ I h) fun us s1 ⟨vs, H1, I1, r1, a, xs, ex, hq, q⟩ => ?_) hs rfl))⟩
  subst ex
  obtain ⟨u, rfl, ru⟩ := vals1 r1
  obtain rfl : u = Value.ref a := ru
  obtain ⟨its, rv, p', hz⟩ := I1.tuple hq
  refine nx_enum_callT p' fun h' he hit hk => wpAny_pyIter_enum he ?_
  have I2 : Inv X pins σ H1 { s1 with heap := h' } := I1.kept (t' := s1.toks) hk
  refine ⟨s1.heap.objs.size + 1, [s1.heap.objs.size + 1, s1.heap.objs.size], _, _, H1, rfl, I2, turn_enumT a (s1.heap.objs.size + 1) s1.heap.objs.size, ⟨⟨.none, he⟩, hit, Nat.succ_ne_self _⟩, fun b hb => ?_, q⟩
  have hle : s1.heap.objs.size ≤ b := by
    rcases (show b = s1.heap.objs.size + 1 ∨ b = s1.heap.objs.size by simpa using hb) with z | z
    · rw [z]; exact Nat.le_succ _
    · rw [z]; exact Nat.le_refl _
  exact I1.fpOk hle (I1.hok.fresh hle)
section
variable {K : PySem.W.Frag} {σ : L2.St} {G H : Hp} {L : List (Addr × HO)} {ta : TA} {tb : TS} {g : TG} {te : TE} {tt : TT} {vs : List Nat} {Q : VK} {n b c : L2.St → Hp → Prop} {rt : VK} {a : Addr} {xs : List V}
theorem g_iEnumT {R : It → Hp → Prop} (k : ta σ H fun vs H1 => ∃ a xs, vs = [.ref a] ∧ SqT K H1 a xs ∧ R (ItE K a) H1) : iEnumT K ta σ H R := k
theorem w_enumT (Pv : Nat → L2.St → Hp → Prop) (hx : SqT K H a xs) (h0 : Pv 0 σ H) (hl : ∀ i σ H, Pv i σ H → SqT K H a xs)
    (hs : ∀ (i : Nat) x T σ H, xs[i]? = some x → Pv i σ H → H T = none → g (.ref T) σ (upd H T (.tup [.int (i : Int), x])) fun σ2 H2 => tb ⟨Pv (i + 1), rt, n, Pv (i + 1)⟩ σ2 H2) (hd : ∀ σ H, Pv xs.length σ H → n σ H) :
    ∃ p xs, [V.ref a] = [.ref p] ∧ SqT K H p xs ∧ FORJ (ItE K p) g tb ⟨n, rt, b, c⟩ σ H := by
  refine ⟨a, xs, rfl, hx, fun i m σ H => m = xs.length - i ∧ i ≤ xs.length ∧ Pv i σ H, ⟨xs.length, rfl, Nat.zero_le _, h0⟩, ?_⟩
  rintro i m σ H ⟨rfl, hi, p⟩
  have q := hl i σ H p
  by_cases lt : i < xs.length
  · refine .inr ⟨⟨xs, xs[i], q, by simp [lt]⟩, Pv (i + 1), fun σ' H' p' => ⟨xs.length - (i + 1), by omega, rfl, lt, p'⟩, fun v H' y => ?_⟩
    obtain ⟨T, x, rfl, hT, rfl, hxx⟩ := y
    exact hs i x T σ H (hxx xs q) p hT
  · obtain rfl : i = xs.length := by omega
    exact .inl ⟨⟨xs, q, Nat.le_refl _⟩, hd _ _ p⟩
end
end NX

namespace NX
open PySem PySem.Spec PyProof.Rows L2
open Evl (Ex ex_l ex_t fresh_back)
abbrev s_check_state : Stmt := top 16
theorem sc_check_state : FnScope ["network", "state", "index", "channel", "one"] ["network", "state"] (defScope s_check_state) := ⟨rfl, rfl, rfl, by decide +kernel, rfl, by decide +kernel, by decide +kernel⟩
abbrev s_NoState___init__ : Stmt := inClass (top 4) 0
theorem sc_NoState___init__ : FnScope ["self", "index"] ["self", "index"] (defScope s_NoState___init__) := ⟨rfl, rfl, rfl, by decide +kernel, rfl, by decide +kernel, by decide +kernel⟩
theorem ok_ini_NoState {P : Program} {w : World} {K : PySem.W.Frag} {mg : Str → Option Value} {base : Heap} {CL C0 : Addr} {f : Addr} {fd : FuncData} (F : Fun K "__init__" "NoState.__init__" s_NoState___init__ f fd) (m_ChannelError : mg "ChannelError" = some (.ref C0)) (BC : BaseC K C0) (hno : PySem.W.findIn K (.ref CL) "index" = some none) : FnOk P w K mg base CX0 1 f fd ["self", "index"] (spExInit K CL "index") := by
  refine F.ok sc_NoState___init__ (fun vs H Q E h => ?_) (fun cdv A outer s H vs Q E hr h => ?_)
  · obtain ⟨a, v, rfl, _⟩ := h
    rfl
  · obtain ⟨a, v, rfl, ha, T, k⟩ := h
    refine ⟨_, (pss_cons (ps_expr (pe_oeinit (K := K) m_ChannelError BC (pa_cons (pv 0) (pa_cons pe_str pa_nil))))
      (pss_one (ps_ost (pv 0) (pv 1) rfl))), ?_⟩
    walk_at "go"
    refine n_vei ?_
    walk_at "go"
    refine ⟨a, CL, _, rfl, by simp, T, ha, ?_⟩
    refine s_ost ?_
    walk_at "go"
    exact ⟨a, CL, rfl, T, hno, .inl ⟨ha, fun dx h1 h2 => k dx h1 h2⟩⟩
def ItOk (ks : List Pr) (xs : List V) (j : Nat) : Prop := ∃ c : Int, xs[j]? = some (.int c) ∧ 0 ≤ c ∧ (0 < c → ∀ o : Nat, (o : Int) ∈ nb ks (j : Int) → o < j → xs[o]? ≠ some (.int c))
def BadIt (H : Hp) (ks : List Pr) (xs : List V) (j : Nat) : Prop := ∃ v ty, xs[j]? = some v ∧ OddV H v ty ∧ (ty = "int" → ∃ c : Int, v = .int c ∧ (c < 0 ∨ (0 < c ∧ ∃ o : Nat, (o : Int) ∈ nb ks (j : Int) ∧ o < j ∧ xs[o]? = some (.int c))))
/-- no tuple of n items -/
def BadTop (H : Hp) (n : Nat) (v : V) : Prop := ∃ ty, OddV H v ty ∧ (ty = "tuple" → ∃ t xs, v = .ref t ∧ H t = some (.tup xs) ∧ xs.length ≠ n)
def spCSt (C CSt : Addr) : Sp := fun vs H Q E => ∃ (a : Addr) (n : Nat) (ks : List Pr) (v : V), vs = [.ref a, v] ∧ NetAt C H a n ks ∧ ((BadTop H n v ∧ Thr E CSt "index" (.int (-1)) H) ∨
  ∃ (t : Addr) (xs : List V) (lim : Nat), v = .ref t ∧ H t = some (.tup xs) ∧ xs.length = n ∧ lim ≤ n ∧ (∀ j, j < lim → ItOk ks xs j) ∧ (lim < n → BadIt H ks xs lim ∧ Thr E CSt "index" (.int (lim : Int)) H) ∧ (lim = n → ∀ H', Ex H H' → Q .non H'))
section
variable {P : Program} {w : World} {K : PySem.W.Frag} {mg : Str → Option Value} {base : Heap} {C CSt : Addr}
theorem ok_cst {f : Addr} {fd : FuncData} (F : Fun K "check_state" "check_state" s_check_state f fd) (T : Txt mg) (NC : NetC K C) (M_len : Mth P w K mg base 1 C "__len__" ["self"] (spLen C)) (c_is_int : Cal P w K mg base 1 "is_int" ["value"] [] (spIsInt K))
    (M_neighbours : Mth P w K mg base 3 C "neighbours" ["self", "station"] (spNbrs C)) (X_NoState : Exn P w K mg base "NoState" CSt "index") : FnOk P w K mg base (L2.CX P w) 5 f fd ["network", "state"] (spCSt C CSt) := by
  refine F.okX sc_check_state (fun vs H Q E h => ?_) (fun cdv A outer s H vs Q E hr h => ?_)
  · obtain ⟨a, n, ks, v, rfl, _⟩ := h
    rfl
  · obtain ⟨a, n, ks, v, rfl, N, h⟩ := h
    have hu65 : ∀ X : Cx, X.A = A.deeper (envOfC "check_state" (defScope s_check_state) s.heap.objs.size f cdv) → X.A.units + 65 < cLine := fun X e => by rw [e]; have := hr.un; omega
    refine ⟨_, (pss_cons (ps_if (PW.pt (pw_or (pt_not (pt_val (pe_callB call_isi (by rfl) T.n_isinstance (by decide +kernel) (pa_cons (pv 1) (pa_cons (pe_bltn (v := .ty "tuple") (by rfl) T.n_tuple (by decide +kernel) rfl) pa_nil))))) (pw_or1 (pt_cmpR op_ne (pe_callB call_lenN (by rfl) T.n_len (by decide +kernel) (pa_cons (pv 1) pa_nil)) (pe_callB (call_lenNet NC M_len (hr.mono (by first | decide | omega))) (by rfl) T.n_len (by decide +kernel) (pa_cons (pv 0) pa_nil)) (nomark _))))) (pss_one (ps_raiseE (K := K) rfl (takes_of rfl rfl rfl rfl) X_NoState (hr.mono (by first | decide | omega)) (pa_cons (pe_un un_neg pe_int) pa_nil))) pss_nil)
      (pss_one (ps_for (passes_of rfl) rfl (pi_enumT (by rfl) T.n_enumerate (pa_cons (pv 1) pa_nil)) (pg_tup (n := 2) rfl (pgs_cons (pg_name (i := 2) sc_check_state.nd rfl (Or.inr rfl)) (pgs_cons (pg_name (i := 3) sc_check_state.nd rfl (Or.inr rfl)) pgs_nil))) (pss_cons (ps_if (PW.pt (pw_or (pt_not (pt_val (pe_cal c_is_int (hr.mono (by first | decide | omega)) passN (pa_cons (pv 3) pa_nil)))) (pw_or1 (pt_cmpR op_lt (pv 3) pe_int (nomark _))))) (pss_one (ps_raiseE (K := K) rfl (takes_of rfl rfl rfl rfl) X_NoState (hr.mono (by first | decide | omega)) (pa_cons (pv 2) pa_nil))) pss_nil)
      (pss_one (ps_if (PW.pt (pw_and (pt_cmpR op_gt (pv 3) pe_int (nomark _)) (pw_and1 (pt_cmpR (op_neD (Nat.lt_of_succ_lt (hu65 _ rfl))) (pe_lc (own := [("one", 4)]) (by rfl) sc_check_state.nd (pi_list (pe_mth (pv 0) M_neighbours NC.cl (hr.mono (by first | decide | omega)) passN (pa_cons (pv 2) pa_nil))) (blkOk_by (own := [("one", 4)]) (N := ["network", "state", "index", "channel", "one"]) (sc := defScope s_check_state) (by decide +kernel)) (fun _ _ _ _ _ => (pg_name (i := 4) sc_check_state.nd rfl (Or.inl rfl))) (fun _ _ _ _ _ => (pts_one (PW.pt (pw_and (pt_cmpR op_lt (pv 4) (pv 2) (nomark _)) (pw_and1 (pt_cmpR op_eq (pe_ix (ix_tupK (K := K)) (pv 1) (pv 4) (fun _ _ => rfl)) (pv 3) (nomark _))))))) (fun _ _ _ _ _ => (pv 4))) (pe_lst pa_nil) (nomark _))))) (pss_one (ps_raiseE (K := K) rfl (takes_of rfl rfl rfl rfl) X_NoState (hr.mono (by first | decide | omega)) (pa_cons (pv 2) pa_nil))) pss_nil)))))), ?_⟩
    rcases h with ⟨⟨ty, ho, hb⟩, kE⟩ | ⟨t, xs, lim, rfl, ht, hxl, hlim, hok, hbad, k⟩
    · obtain ⟨k1, k2⟩ := (ho.isT : IsT K H v ty)
      walk_at "go"
      refine ⟨_, _, _, _, _, rfl, .ty _, k1, kit_ty (kit_int k2).2.2.1, ?_⟩
      walk_at "go"
      by_cases c : ty = "tuple"
      · subst c
        obtain ⟨t, xs, rfl, ht, hl⟩ := hb rfl
        refine if_ff (by decide +kernel) ?_
        walk_at "go"
        refine n_lenT (SqT.of ht) ?_
        walk_at "go"
        refine n_lenNet N ?_
        walk_at "go"
        refine if_tt (nfalse (by omega)) ?_
        refine s_raiseE ?_
        walk_at "go"
        exact n_raise X_NoState.oex fun d H4 _ e4 hd => kE d H4 e4 hd
      · have e : (ty == "tuple") = false := by simp [c]
        rw [e]
        walk_at "go"
        refine s_raiseE ?_
        walk_at "go"
        exact n_raise X_NoState.oex fun d H4 _ e4 hd => kE d H4 e4 hd
    · have hn := N.sz
      walk_at "go"
      refine ⟨_, _, _, _, _, rfl, .ty _, .base (.tup ht), kit_ty (kit_int (t := "tuple") (by decide +kernel)).2.2.1, ?_⟩
      walk_at "go"
      refine if_ff (by decide +kernel) ?_
      walk_at "go"
      refine n_lenT (SqT.of ht) ?_
      walk_at "go"
      refine n_lenNet N ?_
      walk_at "go"
      refine if_ff (ntrue (by omega)) ?_
      walk_at "go"
      refine g_iEnumT ?_
      walk_at "go"
      refine w_enumT (fun j σ' H' => ∃ (x2 x3 x4 : Option V), σ' = [some (.ref a), some (.ref t), x2, x3, x4] ∧ j ≤ lim ∧ Ex H H') (SqT.of ht) ⟨_, _, _, rfl, Nat.zero_le _, Ex.refl H⟩ (fun j σ' H' h => by
        obtain ⟨_, _, _, _, _, e⟩ := h
        exact SqT.of (e _ _ ht)) ?_ ?_
      · rintro j x T' σ' H' hx ⟨x2, x3, x4, rfl, hj, e'⟩ hT'
        have e1 : Ex H (upd H' T' (.tup [.int (j : Int), x])) := e'.trans (Ex.new hT')
        refine s_gtup (SqT.of upd_same) rfl ?_
        generalize upd H' T' (.tup [.int (j : Int), x]) = H1 at e1
        walk_at "go"
        have hjn : j < n := by
          have := (List.getElem?_eq_some_iff.mp hx).1
          omega
        have fin : ∀ (σ2 : L2.St) (H2 : Hp), Ex H H2 → j = lim → RAISE K CSt "index" (fun cls d _ H => E cls d H) σ2 [.int (j : Int)] H2 := fun σ2 H2 e2 hjl => n_raise X_NoState.oex fun d H4 _ e4 hd => by
          subst hjl
          exact (hbad hjn).2 d H4 (e2.trans e4) hd
        have hint : (∃ c : Int, x = .int c ∧ ((j < lim ∧ 0 ≤ c ∧ (0 < c → ∀ o : Nat, (o : Int) ∈ nb ks (j : Int) → o < j → xs[o]? ≠ some (.int c))) ∨ (j = lim ∧ (c < 0 ∨ (0 < c ∧ ∃ o : Nat, (o : Int) ∈ nb ks (j : Int) ∧ o < j ∧ xs[o]? = some (.int c)))))) ∨ ∃ ty, j = lim ∧ IsT K H1 x ty ∧ ty ≠ "int" := by
          by_cases hjl : j = lim
          · subst hjl
            obtain ⟨v, ty, hv, ho, hi⟩ := (hbad hjn).1
            rw [hx] at hv
            cases hv
            by_cases c : ty = "int"
            · obtain ⟨c, e, h⟩ := hi c
              exact .inl ⟨c, e, .inr ⟨rfl, h⟩⟩
            · exact .inr ⟨ty, rfl, (ho.mono e1).isT, c⟩
          · obtain ⟨c, hc, h0, h1⟩ := hok j (by omega)
            rw [hx] at hc
            cases hc
            exact .inl ⟨c, rfl, .inl ⟨by omega, h0, h1⟩⟩
        rcases hint with ⟨c, rfl, hc⟩ | ⟨ty, hjl, hty, hne⟩
        · refine g_isint ?_
          walk_at "go"
          by_cases hc0 : c < 0
          · refine if_tt (dtrue hc0) ?_
            refine s_raiseE ?_
            walk_at "go"
            exact fin _ _ e1 (by rcases hc with ⟨_, h0, _⟩ | ⟨h, _⟩ <;> first | exact h | omega)
          · refine if_ff (dfalse hc0) ?_
            walk_at "go"
            by_cases hc1 : c > 0
            · refine if_tt (dtrue hc1) ?_
              walk_at "go"
              have N1 := N.mono e1
              refine ⟨N1.ins (by decide) (by decide), ?_⟩
              walk_at "go"
              refine n_nbrs (Own.start H1) N1 (by omega) fun q G2 H2 hq e2 e2' hq2 S2 => ?_
              have hlen := I_len (n := n) N.ok N.up N.nd (j : Int)
              refine v_list (xs := (nb ks (j : Int)).map V.int) (fun m acc G' L' => L' = [] ∧ acc = (((nb ks (j : Int)).take m).filter fun o => decide (o < (j : Int)) && decide (xs[o.toNat]? = some (.int c))).map V.int) S2 (SqL.of hq2) (by rw [List.length_map]; omega) ⟨rfl, rfl⟩ ?_ ?_
              · rintro D m y0 acc G' L' H3 hy0 hm e3 hl3 ⟨rfl, rfl⟩ S3
                obtain ⟨y, hy, rfl⟩ := get_map hy0
                obtain ⟨o, rfl, ho⟩ := nb_nat N.ok (List.mem_of_getElem? hy)
                have e13 : Ex H H3 := e1.trans (e2.trans (e3.trans S3.ex))
                have hsn : ∀ p : Int → Bool, ((nb ks (j : Int)).take (m + 1)).filter p = ((nb ks (j : Int)).take m).filter p ++ (if p (o : Int) = true then [(o : Int)] else []) := fun p => by
                  rw [take_snoc hy, List.filter_append]
                  cases q : p (o : Int)
                  · rw [List.filter_cons_of_neg (by rw [q]; exact Bool.false_ne_true), List.filter_nil, if_neg Bool.false_ne_true]
                  · rw [List.filter_cons_of_pos q, List.filter_nil, if_pos rfl]
                walk_at "go"
                refine ⟨rfl, ?_⟩
                walk_at "go"
                by_cases hlt : (o : Int) < (j : Int)
                · refine if_tt (dtrue hlt) ?_
                  obtain ⟨co, hco, _⟩ := hok o (by omega)
                  walk_at "go"
                  refine g_ixT (SqT.of (e13 _ _ ht)) (atI_nat (j := o) hco) ?_
                  walk_at "go"
                  refine if_2 (fun cc => ?_) (fun cc => ?_)
                  · have cc := of_decide_eq_true cc
                    walk_at "go"
                    refine c_yes S3 e3 hl3 hm ⟨rfl, ?_⟩
                    rw [hsn, if_pos (by rw [decide_eq_true hlt, Int.toNat_natCast, hco, cc]; simp), List.map_append] <;> rfl
                  · have cc := of_decide_eq_false cc
                    refine c_no S3 e3 hl3 ⟨rfl, ?_⟩
                    rw [hsn, if_neg (by rw [Int.toNat_natCast, hco]; simp [cc]), List.append_nil]
                · refine if_ff (dfalse hlt) ?_
                  walk_at "go"
                  refine c_no S3 e3 hl3 ⟨rfl, ?_⟩
                  rw [hsn, if_neg (by rw [decide_eq_false hlt]; simp), List.append_nil]
              · rintro p5 acc5 G5 L5 H5 e5 _ ⟨rfl, rfl⟩ S5
                rw [List.length_map, List.take_length] at S5
                walk_at "go"
                refine n_lst S5 (by decide) fun p6 H6 _ S6 => ?_
                refine n_neIL (ms := []) (SqL.of S6.get1) (SqL.of S6.get0) ?_
                have e16 : Ex H H6 := e1.trans (e2.trans (e5.trans S6.ex))
                walk_at "go"
                rcases hc with ⟨hj1, h0, hno⟩ | ⟨hjl, hh⟩
                · refine if_ff (ntrue ?_) ?_
                  · refine List.filter_eq_nil_iff.mpr fun o ho => ?_
                    obtain ⟨o, rfl, _⟩ := nb_nat N.ok ho
                    intro hp
                    rw [Bool.and_eq_true, decide_eq_true_eq, decide_eq_true_eq, Int.toNat_natCast] at hp
                    exact hno (by omega) o ho (by omega) hp.2
                  · walk_at "go"
                    exact ⟨_, _, _, rfl, by omega, e16⟩
                · refine if_tt (nfalse fun hnil => ?_) ?_
                  · rcases hh with hh | ⟨_, o, ho, hoj, hxo⟩
                    · omega
                    · have := List.filter_eq_nil_iff.mp hnil _ ho
                      rw [Int.toNat_natCast, hxo, decide_eq_true (show (o : Int) < (j : Int) by omega)] at this
                      simp at this
                  · refine s_raiseE ?_
                    walk_at "go"
                    exact fin _ _ e16 hjl
            · refine if_ff (dfalse hc1) ?_
              walk_at "go"
              rcases hc with ⟨hj1, h0, hno⟩ | ⟨hjl, hh⟩
              · exact ⟨_, _, _, rfl, by omega, e1⟩
              · omega
        · refine ⟨x, ty, rfl, hty, ?_⟩
          walk_at "go"
          have e : (ty == "int") = false := by simp [hne]
          rw [e]
          walk_at "go"
          refine s_raiseE ?_
          walk_at "go"
          exact fin _ _ e1 hjl
      · rintro σ' H' ⟨x2, x3, x4, rfl, hj, e'⟩
        walk_at "go"
        exact k (by omega) H' e'
end
end NX

namespace NX
/-! ### the smallest number that is not in use; switchings; the states that can arise -/
theorem len_le_of_sub {α : Type} [BEq α] [LawfulBEq α] : ∀ {l m : List α}, l.Nodup → (∀ x ∈ l, x ∈ m) → l.length ≤ m.length
  | [], _, _, _ => Nat.zero_le _
  | x :: l, m, hn, hs => by
    have hx := hs x List.mem_cons_self
    obtain ⟨h1, h2⟩ := List.nodup_cons.mp hn
    have ih := len_le_of_sub (l := l) (m := m.erase x) h2 fun y hy => (List.mem_erase_of_ne fun (e : y = x) => h1 (e ▸ hy)).mpr (hs y (List.mem_cons_of_mem _ hy))
    rw [List.length_erase_of_mem hx] at ih
    have := List.length_pos_of_mem hx
    rw [List.length_cons]
    omega
structure IsMex (us : List Int) (c : Int) : Prop where
  pos : 1 ≤ c
  no : c ∉ us
  all : ∀ d, 1 ≤ d → d < c → d ∈ us
theorem IsMex.uniq {us us' : List Int} {c d : Int} (h : ∀ x, x ∈ us ↔ x ∈ us') (a : IsMex us c) (b : IsMex us' d) : c = d := by
  rcases Int.lt_trichotomy c d with e | e | e
  · exact absurd ((h _).mpr (b.all c a.pos e)) a.no
  · exact e
  · exact absurd ((h _).mp (a.all d b.pos e)) b.no
theorem below_le {us : List Int} {c : Int} (h : ∀ d, 1 ≤ d → d < c → d ∈ us) : c ≤ (us.length : Int) + 1 := by
  have nd : ((List.range (c - 1).toNat).map fun (k : Nat) => (k : Int) + 1).Nodup :=
    List.pairwise_map.mpr (by
      refine List.Pairwise.imp ?_ List.nodup_range
      intro a b ne e
      exact ne (by omega))
  have := len_le_of_sub nd fun x hx => by
    obtain ⟨k, hk, rfl⟩ := List.mem_map.mp hx
    have := List.mem_range.mp hk
    exact h _ (by omega) (by omega)
  rw [List.length_map, List.length_range] at this
  omega
theorem mex_ex (us : List Int) : ∃ c, IsMex us c := by
  have key : ∀ (k : Nat) (c : Int), 1 ≤ c → (us.length : Int) + 2 - c ≤ k → (∀ d, 1 ≤ d → d < c → d ∈ us) → ∃ c, IsMex us c := by
    intro k
    induction k with
    | zero => intro c h1 h2 h3; have := below_le h3; omega
    | succ k ih =>
      intro c h1 h2 h3
      by_cases hc : c ∈ us
      · refine ih (c + 1) (by omega) (by omega) fun d a b => ?_
        by_cases e : d = c
        · rw [e]; exact hc
        · exact h3 d a (by omega)
      · exact ⟨c, h1, hc, h3⟩
  exact key (us.length + 1) 1 (by decide) (by omega) fun d a b => by omega
noncomputable def mexL (us : List Int) : Int := (mex_ex us).choose
theorem mexL_is (us : List Int) : IsMex us (mexL us) := (mex_ex us).choose_spec
theorem mexL_of {us : List Int} {c : Int} (h : IsMex us c) : mexL us = c := (mexL_is us).uniq (fun _ => Iff.rfl) h
theorem mexL_congr {us us' : List Int} (h : ∀ x, x ∈ us ↔ x ∈ us') : mexL us = mexL us' := (mexL_is us).uniq h (mexL_is us')
theorem mexL_le (us : List Int) : 1 ≤ mexL us ∧ mexL us ≤ (us.length : Int) + 1 := ⟨(mexL_is us).pos, below_le (mexL_is us).all⟩
abbrev Nbr := Int → List Int
/-- the channel after a switching -/
noncomputable def chn (nbr : Nbr) (st : List Int) (i : Nat) : Int := if tv st (i : Int) = 0 then mexL ((nbr (i : Int)).map (tv st)) else 0
noncomputable def sw (nbr : Nbr) (st : List Int) (i : Nat) : List Int := st.take i ++ [chn nbr st i] ++ st.drop (i + 1)
inductive Rch (nbr : Nbr) (n : Nat) : List Int → Prop
  | zero : Rch nbr n (List.replicate n 0)
  | step {s : List Int} {i : Nat} : Rch nbr n s → i < n → Rch nbr n (sw nbr s i)
theorem sw_len {nbr : Nbr} {st : List Int} {i : Nat} (h : i < st.length) : (sw nbr st i).length = st.length := by
  unfold sw
  simp only [List.length_append, List.length_take, List.length_drop, List.length_singleton]
  omega
theorem Rch.len {nbr : Nbr} {n : Nat} {s : List Int} (h : Rch nbr n s) : s.length = n := by
  induction h with
  | zero => exact List.length_replicate
  | step h hi ih => rw [sw_len (by omega), ih]
theorem sw_tv {nbr : Nbr} {st : List Int} {i : Nat} (h : i < st.length) (j : Nat) : tv (sw nbr st i) (j : Int) = if j = i then chn nbr st i else tv st (j : Int) := by
  rw [tv_nat, tv_nat, List.getD_eq_getElem?_getD, List.getD_eq_getElem?_getD]
  unfold sw
  have hl : (st.take i).length = i := by rw [List.length_take]; omega
  by_cases e : j = i
  · subst e
    rw [if_pos rfl, List.getElem?_append_left (by simp; omega), List.getElem?_append_right (by omega), hl, Nat.sub_self] <;> rfl
  · rw [if_neg e]
    by_cases e2 : j < i
    · rw [List.getElem?_append_left (by simp; omega), List.getElem?_append_left (by omega), List.getElem?_take, if_pos e2]
    · rw [List.getElem?_append_right (by simp; omega), List.getElem?_drop]
      simp only [List.length_append, hl, List.length_singleton]
      rw [show i + 1 + (j - (i + 1)) = j by omega]
theorem Rch.rng {nbr : Nbr} {n : Nat} {s : List Int} (h : Rch nbr n s) : ∀ j : Nat, 0 ≤ tv s (j : Int) ∧ tv s (j : Int) ≤ ((nbr (j : Int)).length : Int) + 1 := by
  induction h with
  | zero =>
    intro j
    by_cases e : j < n
    · rw [tv_rep e]; omega
    · rw [tv_out (by rw [List.length_replicate]; omega)]; omega
  | @step s i h hi ih =>
    intro j
    rw [sw_tv (by rw [h.len]; exact hi)]
    by_cases e : j = i
    · subst e
      rw [if_pos rfl]
      unfold chn
      split
      · have := mexL_le ((nbr (j : Int)).map (tv s))
        rw [List.length_map] at this
        omega
      · omega
    · rw [if_neg e]; exact ih j
theorem chn_congr {nbr nbr' : Nbr} {st : List Int} {i : Nat} (h : ∀ o, o ∈ nbr (i : Int) ↔ o ∈ nbr' (i : Int)) : chn nbr st i = chn nbr' st i := by
  unfold chn
  rw [mexL_congr (us := (nbr (i : Int)).map (tv st)) (us' := (nbr' (i : Int)).map (tv st)) fun x => ?_]
  simp only [List.mem_map]
  exact ⟨fun ⟨o, a, b⟩ => ⟨o, (h o).mp a, b⟩, fun ⟨o, a, b⟩ => ⟨o, (h o).mpr a, b⟩⟩
theorem sw_congr {nbr nbr' : Nbr} {st : List Int} {i : Nat} (h : ∀ o, o ∈ nbr (i : Int) ↔ o ∈ nbr' (i : Int)) : sw nbr st i = sw nbr' st i := by
  unfold sw
  rw [chn_congr h]
/-! ### the search, nearest states first -/
structure Ent where
  st : List Int
  p : Nat
  i : Nat
  l : Nat
def addE (E : List Ent) (s : List Int) (p i l : Nat) : List Ent := if s ∈ E.map Ent.st then E else E ++ [⟨s, p, i, l⟩]
noncomputable def visE (nbr : Nbr) (m : Nat) (E : List Ent) (i : Nat) : List Ent := match E[m]? with
  | none => E
  | some e => addE E (sw nbr e.st i) m i (e.l + 1)
noncomputable def rowE (nbr : Nbr) (m : Nat) (E : List Ent) (j : Nat) : List Ent := (List.range j).foldl (visE nbr m) E
noncomputable def bfsE (nbr : Nbr) (n : Nat) : Nat → List Ent
  | 0 => [⟨List.replicate n 0, 0, 0, 0⟩]
  | m + 1 => rowE nbr m (bfsE nbr n m) n
theorem addE_pre (E : List Ent) (s : List Int) (p i l : Nat) : E <+: addE E s p i l := by
  unfold addE
  split
  · exact List.prefix_refl _
  · exact List.prefix_append _ _
theorem visE_pre (nbr : Nbr) (m : Nat) (E : List Ent) (i : Nat) : E <+: visE nbr m E i := by
  unfold visE
  split
  · exact List.prefix_refl _
  · exact addE_pre ..
theorem rowE_zero (nbr : Nbr) (m : Nat) (E : List Ent) : rowE nbr m E 0 = E := rfl
theorem rowE_succ (nbr : Nbr) (m : Nat) (E : List Ent) (j : Nat) : rowE nbr m E (j + 1) = visE nbr m (rowE nbr m E j) j := by
  unfold rowE
  rw [List.range_succ, List.foldl_append] <;> rfl
theorem rowE_pre (nbr : Nbr) (m : Nat) (E : List Ent) : ∀ {i j : Nat}, i ≤ j → rowE nbr m E i <+: rowE nbr m E j := by
  intro i j h
  induction h with
  | refl => exact List.prefix_refl _
  | step _ ih => rw [rowE_succ]; exact ih.trans (visE_pre ..)
theorem bfsE_pre (nbr : Nbr) (n : Nat) : ∀ {i j : Nat}, i ≤ j → bfsE nbr n i <+: bfsE nbr n j := by
  intro i j h
  induction h with
  | refl => exact List.prefix_refl _
  | step _ ih => exact ih.trans (rowE_pre nbr _ _ (Nat.zero_le n))
theorem pre_get {α : Type} {l m : List α} (h : l <+: m) {i : Nat} {x : α} (e : l[i]? = some x) : m[i]? = some x := by
  obtain ⟨t, rfl⟩ := h
  rw [List.getElem?_append_left (List.getElem?_eq_some_iff.mp e).1]
  exact e
theorem pre_mem {α : Type} {l m : List α} (h : l <+: m) {x : α} (e : x ∈ l) : x ∈ m := h.subset e
/-- what holds of all entries -/
structure Okk (nbr : Nbr) (n : Nat) (E : List Ent) : Prop where
  nd : (E.map Ent.st).Nodup
  rch : ∀ e ∈ E, Rch nbr n e.st
  lv : ∀ (k : Nat) (e : Ent), E[k]? = some e → (k = 0 ∧ e = ⟨List.replicate n 0, 0, 0, 0⟩) ∨ (0 < k ∧ e.p < k ∧ e.i < n ∧ ∃ f, E[e.p]? = some f ∧ e.st = sw nbr f.st e.i ∧ e.l = f.l + 1)
  ne : E ≠ []
theorem Okk.add {nbr : Nbr} {n : Nat} {E : List Ent} (h : Okk nbr n E) {m i : Nat} {f : Ent} (hf : E[m]? = some f) (hi : i < n) : Okk nbr n (addE E (sw nbr f.st i) m i (f.l + 1)) := by
  unfold addE
  split
  · exact h
  · rename_i hno
    have hm : m < E.length := (List.getElem?_eq_some_iff.mp hf).1
    refine ⟨?_, fun e he => ?_, fun k e hk => ?_, by simp⟩
    · rw [List.map_append]
      refine List.nodup_append.mpr ⟨h.nd, by simp, fun a ha b hb e => ?_⟩
      have : b = sw nbr f.st i := by simpa using hb
      exact hno (by rw [← this, ← e]; exact ha)
    · rcases List.mem_append.mp he with he | he
      · exact h.rch e he
      · rw [List.mem_singleton.mp he]
        exact (h.rch f (List.mem_of_getElem? hf)).step hi
    · by_cases e1 : k < E.length
      · rw [List.getElem?_append_left e1] at hk
        rcases h.lv k e hk with a | ⟨a, b, c, g, d, d2⟩
        · exact .inl a
        · exact .inr ⟨a, b, c, g, by rw [List.getElem?_append_left (by omega)]; exact d, d2⟩
      · rw [List.getElem?_append_right (by omega)] at hk
        have e2 : k - E.length = 0 := by
          have := (List.getElem?_eq_some_iff.mp hk).1
          simpa using this
        rw [e2] at hk
        cases hk
        exact .inr ⟨by omega, by show m < k; omega, hi, f, by rw [List.getElem?_append_left hm]; exact hf, rfl, rfl⟩
theorem Okk.row {nbr : Nbr} {n : Nat} {E : List Ent} (h : Okk nbr n E) (m : Nat) : ∀ {j : Nat}, j ≤ n → Okk nbr n (rowE nbr m E j)
  | 0, _ => h
  | j + 1, hj => by
    rw [rowE_succ]
    have ih := h.row m (j := j) (by omega)
    unfold visE
    split
    · exact ih
    · rename_i e he
      exact ih.add he (by omega)
theorem bfs_okk (nbr : Nbr) (n : Nat) : ∀ m, Okk nbr n (bfsE nbr n m)
  | 0 => ⟨by simp [bfsE], fun e he => by rw [List.mem_singleton.mp he]; exact .zero, fun k e hk => by
      have e2 : k = 0 := by have := (List.getElem?_eq_some_iff.mp hk).1; simpa [bfsE] using this
      subst e2
      cases hk
      exact .inl ⟨rfl, rfl⟩, by simp [bfsE]⟩
  | m + 1 => (bfs_okk nbr n m).row m (Nat.le_refl n)
theorem rowE_none {nbr : Nbr} {m : Nat} {E : List Ent} (h : E[m]? = none) : ∀ j, rowE nbr m E j = E
  | 0 => rfl
  | j + 1 => by
    rw [rowE_succ, rowE_none h j]
    unfold visE
    rw [h]
theorem bfs_stay {nbr : Nbr} {n m : Nat} (h : (bfsE nbr n m).length ≤ m) : ∀ k, bfsE nbr n (m + k) = bfsE nbr n m
  | 0 => rfl
  | k + 1 => by
    show rowE nbr (m + k) (bfsE nbr n (m + k)) n = _
    rw [bfs_stay h k]
    exact rowE_none (List.getElem?_eq_none (by omega)) n
/-- E: all states, as the search finds them -/
def Bfs (nbr : Nbr) (n : Nat) (E : List Ent) : Prop := ∃ m, E = bfsE nbr n m ∧ E.length = m
theorem Bfs.uniq {nbr : Nbr} {n : Nat} {E F : List Ent} (h : Bfs nbr n E) (g : Bfs nbr n F) : E = F := by
  obtain ⟨m, rfl, e1⟩ := h
  obtain ⟨k, rfl, e2⟩ := g
  rcases Nat.le_total m k with l | l
  · obtain ⟨d, rfl⟩ := Nat.le.dest l
    exact (bfs_stay (Nat.le_of_eq e1) d).symm
  · obtain ⟨d, rfl⟩ := Nat.le.dest l
    exact bfs_stay (Nat.le_of_eq e2) d
theorem Bfs.okk {nbr : Nbr} {n : Nat} {E : List Ent} (h : Bfs nbr n E) : Okk nbr n E := by
  obtain ⟨m, rfl, _⟩ := h
  exact bfs_okk nbr n m
theorem Bfs.lt {nbr : Nbr} {n : Nat} {E : List Ent} (h : Bfs nbr n E) {m : Nat} (hm : m < (bfsE nbr n m).length) : m < E.length := by
  obtain ⟨k, rfl, e⟩ := h
  rcases Nat.lt_or_ge m k with l | l
  · omega
  · obtain ⟨d, rfl⟩ := Nat.le.dest l
    rw [bfs_stay (Nat.le_of_eq e) d, e] at hm
    omega
theorem Bfs.pre {nbr : Nbr} {n : Nat} {E : List Ent} (h : Bfs nbr n E) {m j : Nat} (hm : m < (bfsE nbr n m).length) (hj : j ≤ n) : rowE nbr m (bfsE nbr n m) j <+: E := by
  have hlt := h.lt hm
  obtain ⟨k, rfl, e⟩ := h
  exact (rowE_pre nbr m _ hj).trans (bfsE_pre nbr n (show m + 1 ≤ k by omega))
theorem Bfs.of {nbr : Nbr} {n m : Nat} (h1 : m ≤ (bfsE nbr n m).length) (h2 : ¬ m < (bfsE nbr n m).length) : Bfs nbr n (bfsE nbr n m) := ⟨m, rfl, by omega⟩
/-- a new state: the list is not yet full -/
theorem vis_new {nbr : Nbr} {m : Nat} {E : List Ent} {i : Nat} {e : Ent} (he : E[m]? = some e) : visE nbr m E i = addE E (sw nbr e.st i) m i (e.l + 1) := by
  unfold visE
  rw [he]
theorem closed_row {nbr : Nbr} {m : Nat} {E : List Ent} {e : Ent} (he : E[m]? = some e) : ∀ {j i : Nat}, i < j → sw nbr e.st i ∈ (rowE nbr m E j).map Ent.st
  | j + 1, i, h => by
    rw [rowE_succ]
    have he' : (rowE nbr m E j)[m]? = some e := pre_get (rowE_pre nbr m E (Nat.zero_le j)) he
    rw [vis_new he']
    by_cases e1 : i = j
    · subst e1
      unfold addE
      split
      · assumption
      · simp
    · have ih := closed_row (nbr := nbr) he (j := j) (i := i) (by omega)
      obtain ⟨x, hx, ex⟩ := List.mem_map.mp ih
      exact List.mem_map.mpr ⟨x, pre_mem (addE_pre ..) hx, ex⟩
theorem bfs_closed {nbr : Nbr} {n : Nat} : ∀ {m k i : Nat} {e : Ent}, k < m → (bfsE nbr n m)[k]? = some e → i < n → k < (bfsE nbr n k).length → sw nbr e.st i ∈ (bfsE nbr n m).map Ent.st := by
  intro m k i e hk he hi hl
  have h1 : (bfsE nbr n k)[k]? = some e := by
    have h2 : (bfsE nbr n k)[k]? = some ((bfsE nbr n k)[k]) := List.getElem?_eq_getElem hl
    have h3 := pre_get (bfsE_pre nbr n (Nat.le_of_lt hk)) h2
    rw [he] at h3
    rw [h2]
    exact h3.symm
  have h4 := closed_row (nbr := nbr) h1 hi
  obtain ⟨x, hx, ex⟩ := List.mem_map.mp h4
  exact List.mem_map.mpr ⟨x, pre_mem (bfsE_pre nbr n (show k + 1 ≤ m by omega)) hx, ex⟩
theorem bfs_len {nbr : Nbr} {n m : Nat} (h : (bfsE nbr n m).length = m) {k : Nat} (hk : k < m) : k < (bfsE nbr n k).length := by
  rcases Nat.lt_or_ge k (bfsE nbr n k).length with l | l
  · exact l
  · obtain ⟨d, rfl⟩ := Nat.le.dest (Nat.le_of_lt hk)
    rw [bfs_stay l d] at h
    omega
theorem Bfs.all {nbr : Nbr} {n : Nat} {E : List Ent} (h : Bfs nbr n E) (s : List Int) : s ∈ E.map Ent.st ↔ Rch nbr n s := by
  constructor
  · intro hs
    obtain ⟨e, he, rfl⟩ := List.mem_map.mp hs
    exact h.okk.rch e he
  · intro hr
    obtain ⟨m, rfl, e⟩ := h
    induction hr with
    | zero =>
      have h0 : (⟨List.replicate n 0, 0, 0, 0⟩ : Ent) ∈ bfsE nbr n m := pre_mem (bfsE_pre nbr n (Nat.zero_le m)) (List.mem_singleton.mpr rfl)
      exact List.mem_map.mpr ⟨_, h0, rfl⟩
    | @step s i hr hi ih =>
      obtain ⟨x, hx, ex⟩ := List.mem_map.mp ih
      obtain ⟨k, hk⟩ := List.mem_iff_getElem?.mp hx
      have hkm : k < m := by have := (List.getElem?_eq_some_iff.mp hk).1; omega
      rw [← ex]
      exact bfs_closed hkm hk hi (bfs_len e hkm)
theorem bfs_ex {nbr : Nbr} {n B : Nat} (h : ∀ L : List (List Int), L.Nodup → (∀ s ∈ L, Rch nbr n s) → L.length ≤ B) : ∃ E, Bfs nbr n E ∧ E.length ≤ B := by
  have hb : ∀ m, (bfsE nbr n m).length ≤ B := fun m => by
    have := h _ (bfs_okk nbr n m).nd fun s hs => by
      obtain ⟨e, he, rfl⟩ := List.mem_map.mp hs
      exact (bfs_okk nbr n m).rch e he
    rwa [List.length_map] at this
  have key : ∀ k, (∃ m, m ≤ k ∧ (bfsE nbr n m).length = m) ∨ k < (bfsE nbr n k).length := by
    intro k
    induction k with
    | zero => exact .inr (by simp [bfsE])
    | succ k ih =>
      rcases ih with ⟨m, a, b⟩ | a
      · exact .inl ⟨m, by omega, b⟩
      · have : (bfsE nbr n k).length ≤ (bfsE nbr n (k + 1)).length := (bfsE_pre nbr n (Nat.le_succ k)).length_le
        rcases Nat.lt_or_ge (k + 1) (bfsE nbr n (k + 1)).length with l | l
        · exact .inr l
        · exact .inl ⟨k + 1, Nat.le_refl _, by omega⟩
  rcases key B with ⟨m, _, e⟩ | a
  · exact ⟨_, ⟨m, rfl, e⟩, hb m⟩
  · have := hb B
    omega
theorem visE_congr {nbr nbr' : Nbr} {n : Nat} (h : ∀ i : Nat, i < n → ∀ o, o ∈ nbr (i : Int) ↔ o ∈ nbr' (i : Int)) (m : Nat) (E : List Ent) {i : Nat} (hi : i < n) : visE nbr m E i = visE nbr' m E i := by
  unfold visE
  split
  · rfl
  · rw [sw_congr (h i hi)]
theorem rowE_congr {nbr nbr' : Nbr} {n : Nat} (h : ∀ i : Nat, i < n → ∀ o, o ∈ nbr (i : Int) ↔ o ∈ nbr' (i : Int)) (m : Nat) (E : List Ent) : ∀ {j : Nat}, j ≤ n → rowE nbr m E j = rowE nbr' m E j
  | 0, _ => rfl
  | j + 1, hj => by rw [rowE_succ, rowE_succ, rowE_congr h m E (by omega), visE_congr h m _ (by omega)]
theorem bfsE_congr {nbr nbr' : Nbr} {n : Nat} (h : ∀ i : Nat, i < n → ∀ o, o ∈ nbr (i : Int) ↔ o ∈ nbr' (i : Int)) : ∀ m, bfsE nbr n m = bfsE nbr' n m
  | 0 => rfl
  | m + 1 => by
    show rowE nbr m (bfsE nbr n m) n = rowE nbr' m (bfsE nbr' n m) n
    rw [bfsE_congr h m, rowE_congr h m _ (Nat.le_refl n)]
theorem Bfs.congr {nbr nbr' : Nbr} {n : Nat} {E : List Ent} (h : ∀ i : Nat, i < n → ∀ o, o ∈ nbr (i : Int) ↔ o ∈ nbr' (i : Int)) (b : Bfs nbr n E) : Bfs nbr' n E := by
  obtain ⟨m, e, l⟩ := b
  exact ⟨m, by rw [e, bfsE_congr h m], l⟩
/-! ### how many states there are at most -/
/-- all lists whose items are from 0 to these numbers -/
def boxL : List Nat → List (List Int)
  | [] => [[]]
  | c :: cs => (List.range (c + 1)).flatMap fun (x : Nat) => (boxL cs).map fun l => (x : Int) :: l
def prodL : List Nat → Nat
  | [] => 1
  | c :: cs => (c + 1) * prodL cs
theorem flat_len {α β : Type} {f : α → List β} {k : Nat} (h : ∀ x, (f x).length = k) : ∀ l : List α, (l.flatMap f).length = l.length * k
  | [] => by simp
  | x :: l => by rw [List.flatMap_cons, List.length_append, h, flat_len h l, List.length_cons, Nat.succ_mul]; omega
theorem box_len : ∀ cs, (boxL cs).length = prodL cs
  | [] => rfl
  | c :: cs => by
    rw [boxL, prodL, flat_len (k := prodL cs) (fun x => by rw [List.length_map, box_len cs]), List.length_range]
theorem box_mem : ∀ {cs : List Nat} {s : List Int}, s.length = cs.length → (∀ j : Nat, j < cs.length → 0 ≤ tv s (j : Int) ∧ tv s (j : Int) ≤ ((cs.getD j 0 : Nat) : Int)) → s ∈ boxL cs
  | [], [], _, _ => List.mem_singleton.mpr rfl
  | [], _ :: _, h, _ => by cases h
  | _ :: _, [], h, _ => by cases h
  | c :: cs, x :: s, hl, h => by
    have h0 := h 0 (by simp)
    have e0 : tv (x :: s) ((0 : Nat) : Int) = x := rfl
    rw [e0] at h0
    simp only [List.getD_cons_zero] at h0
    refine List.mem_flatMap.mpr ⟨x.toNat, List.mem_range.mpr (by omega), List.mem_map.mpr ⟨s, box_mem (by simpa using hl) fun j hj => ?_, ?_⟩⟩
    · have := h (j + 1) (by simpa using hj)
      rw [tv_cons] at this
      simpa using this
    · rw [show ((x.toNat : Nat) : Int) = x by omega]
theorem rch_count {nbr : Nbr} {n : Nat} {cs : List Nat} (hc : cs.length = n) (h : ∀ j : Nat, j < n → (nbr (j : Int)).length + 1 ≤ cs.getD j 0) (L : List (List Int)) (nd : L.Nodup) (hL : ∀ s ∈ L, Rch nbr n s) : L.length ≤ prodL cs := by
  rw [← box_len]
  refine len_le_of_sub nd fun s hs => box_mem (by rw [(hL s hs).len, hc]) fun j hj => ?_
  have h1 := (hL s hs).rng j
  have h2 := h j (by omega)
  omega
end NX

namespace NX
open PySem PySem.Spec PyProof.Rows L2
open Evl (Ex ex_l ex_t fresh_back)
/-! ### {t: v}, t a tuple -/
def tDisp1T (tk tv : TE) : TE := fun σ H Q => ∀ p, H p = none → tk σ (upd H p (.dT [])) fun x H1 => tv σ H1 fun y H2 => H2 p = some (.dT []) ∧ ∃ (b : Addr) (k : List L2.Key) (H3 : Hp), x = .ref b ∧ H2 b = some (.tup (k.map kV)) ∧ H3 = upd H2 p (.dT [(k, y)]) ∧ Q (.ref p) H3
theorem pe_disp1T {X : Cx} {ke ve : Expr} {tk tv : TE} {pos : Pos} (hu : X.A.units + 1 < cLine) (hk : PE X ke tk) (hv : PE X ve tv) : PE X (.Dict [some ke] [ve] pos) (tDisp1T tk tv) := by
  refine ⟨fun pins s σ H Q I q => ?_⟩
  have hn := I.hok.fresh (Nat.le_refl s.heap.objs.size)
  have I1 := I.laid (a := s.heap.objs.size) (o := .dT []) (h' := s.heap.push { cls := .type "dict", data := .dict #[] }) (t' := s.toks) (fun _ _ q => Heap.get?_push_of_some _ q) (Nat.le_refl _) (dt_empty s.heap I.big)
  rw [arm_eval_Dict, zip_pairTrees [some ke] [ve] X.env pos rfl rfl, dictDisplay_pairs (pairTrees [some ke] [ve] X.env pos) (by simp [pairTrees]) (by simp [pairTrees])]
  refine wpAny_bind (wpAny_standAt (wpAny_bind ?_))
  unfold subDict
  refine wpAny_bind (wpAny_alloc ?_)
  refine wpAny_bind (wpAny_holding ?_)
  rw [if_pos (by simp [pairTrees])]
  have hp : PPs X pos [some ke] [ve] [(tk, tv)] := pps_cons hk hv pps_nil
  refine wpAny_bind (thn (hp.run pins _ σ _ (fun ps H2 => match ps with | [(x, y)] => H2 s.heap.objs.size = some (.dT []) ∧ ∃ (b : Addr) (k : List L2.Key) (H3 : Hp), x = .ref b ∧ H2 b = some (.tup (k.map kV)) ∧ H3 = upd H2 s.heap.objs.size (.dT [(k, y)]) ∧ Q (.ref s.heap.objs.size) H3 | _ => False) I1 (q _ hn)) fun ws s2 ⟨ps, H2, I2, rel, z⟩ => ?_)
  cases rel with
  | nil => exact z.elim
  | @cons p q ps qs h t =>
    cases t with
    | cons _ _ => exact z.elim
    | nil =>
      obtain ⟨e, b, k, _, ex, eb, rfl, q2⟩ := z
      obtain ⟨p1, p2⟩ := p
      obtain ⟨u1, u2⟩ := q
      obtain ⟨r1, r2⟩ := h
      dsimp only at ex r1 r2 q2
      subst ex
      cases (show u1 = Value.ref b from r1)
      obtain ⟨z1, hd, xs, r0, dd⟩ := dt_of I2.hok e
      cases r0
      refine wpAny_holding (wpAny_bind ?_)
      rw [List.forIn_cons]
      refine wpAny_bind (wpAny_bind (wpAny_dictSet_heap (knd := tupleKind (mixKind X.prog X.w)) (hsz := by rw [List.length_nil]; exact Nat.zero_le _) (show X.A.units < cLine by omega) (key_of I2.hok eb) dd fun h' dd' hs => wpAny_pure ?_))
      dsimp only
      rw [List.forIn_nil]
      refine wpAny_pure (wpAny_pure (wpAny_pure (wpAny_pure ⟨.ref s.heap.objs.size, _, ?_, rfl, q2⟩)))
      have he : ∃ q, h'.get? s.heap.objs.size = some q := let ⟨q, _, _, hq, _⟩ := dd'; ⟨q, hq⟩
      obtain ⟨q', es, ep, hq, h2, h3, h4, _, h5⟩ := dd'
      refine d_write I2 (by rw [e]; exact True.intro) hs he ⟨(by show (1 : Nat) ≤ sizeLine; decide), hd, [(k, b, u2)], .cons ⟨rfl, ?_, r2⟩ .nil, q', es, ep, hq, h2, h3, h4, h5⟩
      rw [upd_ne (ne_of eb e (fun z => nomatch z))]
      exact eb
/-! ### keys of a dict that was just made -/
def iKeysF (td : TE) : TI := fun σ H R => td σ H fun x H1 => ∃ d kvs, x = .ref d ∧ H1 d = some (.dT kvs) ∧ ∀ o, R (Itkt d o kvs) (upd H1 d (.frz o (.dT kvs)))
theorem pi_keysF {X : Cx} {tg e : Expr} {td : TE} (he : PE X e td) : PI X tg e (iKeysF td) := by
  refine ⟨fun pins s σ H R I h => ?_⟩
  refine thn (he.run pins s σ H _ I h) fun u s1 ⟨x, H1, I1, rx, d, kvs, ex, hd, q⟩ => ?_
  subst ex
  obtain rfl : u = Value.ref d := rx
  obtain ⟨o, I2⟩ := I1.lock hd True.intro
  obtain ⟨hs, hgd, hx, es, ep, hdt, hsz, ent⟩ := I2.frzT (upd_same (a := d))
  refine iter_keys hs hgd hx hdt (pi_one (tk := s1.toks) I2 _ (turn_keysT _ hdt) ⟨_, Heap.get?_push_size _ rfl, rfl, ?_⟩ (q o))
  rw [hsz] <;> rfl
end NX

namespace NX
open PySem PySem.Spec PyProof.Rows L2
open Evl (Ex ex_l ex_t fresh_back)
open SrtO (Swo Srtd Stb lt2)
/-! ### the order of tuples of numbers -/
def lexL : List Int → List Int → Bool
  | [], [] => false
  | [], _ :: _ => true
  | _ :: _, [] => false
  | x :: xs, y :: ys => if x = y then lexL xs ys else decide (x < y)
theorem lexL_irr : ∀ l, lexL l l = false
  | [] => rfl
  | x :: l => by rw [lexL, if_pos rfl]; exact lexL_irr l
theorem lexL_asym : ∀ a b, lexL a b = true → lexL b a = false
  | [], [], h => by cases h
  | [], _ :: _, _ => rfl
  | _ :: _, [], h => by cases h
  | x :: xs, y :: ys, h => by
    rw [lexL] at h ⊢
    by_cases e : x = y
    · rw [if_pos e] at h; rw [if_pos e.symm]; exact lexL_asym xs ys h
    · rw [if_neg e] at h; rw [if_neg fun z => e z.symm]
      have := of_decide_eq_true h
      exact decide_eq_false (by omega)
theorem lexL_tr : ∀ x y z, lexL y x = false → lexL z y = false → lexL z x = false
  | _, _, [], h1, h2 => by
    rename_i x y
    cases y with
    | nil => exact h1
    | cons _ _ => cases h2
  | [], _, _ :: _, _, _ => rfl
  | x :: xs, [], z :: zs, h1, h2 => by cases h1
  | x :: xs, y :: ys, z :: zs, h1, h2 => by
    rw [lexL] at h1 h2 ⊢
    by_cases e1 : y = x
    · rw [if_pos e1] at h1
      by_cases e2 : z = y
      · rw [if_pos e2] at h2
        rw [if_pos (e2.trans e1)]
        exact lexL_tr xs ys zs h1 h2
      · rw [if_neg e2] at h2
        have := of_decide_eq_false h2
        rw [if_neg (by omega)]
        exact decide_eq_false (by omega)
    · rw [if_neg e1] at h1
      have a1 := of_decide_eq_false h1
      by_cases e2 : z = y
      · subst e2
        rw [if_neg e1]
        exact h1
      · rw [if_neg e2] at h2
        have a2 := of_decide_eq_false h2
        rw [if_neg (by omega)]
        exact decide_eq_false (by omega)
theorem lexL_tot : ∀ a b, lexL a b = false → lexL b a = false → a = b
  | [], [], _, _ => rfl
  | [], _ :: _, h, _ => by cases h
  | _ :: _, [], _, h => by cases h
  | x :: xs, y :: ys, h1, h2 => by
    rw [lexL] at h1 h2
    by_cases e : x = y
    · rw [if_pos e] at h1
      rw [if_pos e.symm] at h2
      rw [e, lexL_tot xs ys h1 h2]
    · rw [if_neg e] at h1
      rw [if_neg fun z => e z.symm] at h2
      have a1 := of_decide_eq_false h1
      have a2 := of_decide_eq_false h2
      omega
theorem swo_lexL {α : Type} (k : α → List Int) : Swo fun v u => lexL (k v) (k u) := ⟨fun x y h => lexL_asym _ _ h, fun x y z h1 h2 => lexL_tr _ _ _ h1 h2⟩
/-- lists in ascending order with the same items are one list -/
theorem srt_uniq : ∀ {l m : List (List Int)}, l.Pairwise (fun a b => lexL b a = false) → m.Pairwise (fun a b => lexL b a = false) → l.Perm m → l = m
  | [], m, _, _, p => (List.Perm.nil_eq p)
  | x :: l, [], _, _, p => absurd p.length_eq (by simp)
  | x :: l, y :: m, hl, hm, p => by
    obtain ⟨h1, h2⟩ := List.pairwise_cons.mp hl
    obtain ⟨g1, g2⟩ := List.pairwise_cons.mp hm
    have e : x = y := by
      have hx : x ∈ y :: m := p.mem_iff.mp List.mem_cons_self
      have hy : y ∈ x :: l := p.mem_iff.mpr List.mem_cons_self
      rcases List.mem_cons.mp hx with e | hx
      · exact e
      rcases List.mem_cons.mp hy with e | hy
      · exact e.symm
      exact lexL_tot _ _ (g1 x hx) (h1 y hy)
    subst e
    rw [srt_uniq h2 g2 (List.perm_cons x |>.mp p)]
/-! ### as the model compares them -/
def lexG (fin : Bool) : List Int → List Int → Bool
  | [], _ => fin
  | _ :: _, [] => fin
  | x :: xs, y :: ys => if x = y then lexG fin xs ys else decide (x < y)
theorem lexG_eq : ∀ (a b : List Int), lexG (decide (a.length < b.length)) a b = lexL a b
  | [], [] => rfl
  | [], _ :: _ => by simp [lexG, lexL]
  | _ :: _, [] => by simp [lexG, lexL]
  | x :: xs, y :: ys => by
    rw [lexG, lexL, ← lexG_eq xs ys]
    simp only [List.length_cons, Nat.add_lt_add_iff_right]
section
variable {prog : Program} {w : World} {A : Around} {E : Value → Shared → Prop} {s : Shared}
theorem lex_run (prog : Program) (w : World) (A : Around) (s : Shared) (b fin : Bool) : ∀ (ns ms : List Int) (us ws : List Value) (i : Nat), Vals (ns.map V.int) us → Vals (ms.map V.int) ws →
    PySem.W.KatLex prog w A b fin (fun r s' => s' = s ∧ r = lexG fin ns ms) (us.zip ws) i s
  | [], _, _, _, _, .nil, _ => by exact PySem.W.kat_nil ⟨rfl, rfl⟩
  | x :: xs, [], _, _, _, .cons _ _, .nil => by exact PySem.W.kat_nil ⟨rfl, rfl⟩
  | x :: xs, y :: ys, _, _, i, .cons r1 t1, .cons r2 t2 => by
    obtain ⟨t, rfl⟩ := r1
    obtain ⟨u, rfl⟩ := r2
    refine PySem.W.kat_cons (SeqAt.EqAt.int_int x t y u prog w _ _ ?_)
    refine PySem.W.kat_go (fun e1 => ?_) (fun e1 => ?_)
    · have ex : x = y := by simpa using e1
      have ih := lex_run prog w A s b fin xs ys _ _ (i + 1) t1 t2
      rw [lexG, if_pos ex]
      exact PySem.W.kat_yes ih
    · have ex : ¬ x = y := by simpa using e1
      rw [lexG, if_neg ex]
      refine PySem.W.kat_no ?_
      cases hb : (b && i == 0) with
      | true => exact oneLt_int ⟨rfl, rfl⟩
      | false => exact PySem.W.kat_one _ _ (PyProof.Rows.lt_int (show s = s ∧ decide (x < y) = decide (x < y) from ⟨rfl, rfl⟩))
/-- a tuple of numbers of the heap -/
def IsNs (h : Heap) (v : Value) (ns : List Int) : Prop := ∃ (a : Addr) (o : Obj) (us : List Value) (n : Nat), v = .ref a ∧ h.get? a = some o ∧ o.cls = .type "tuple" ∧ o.data = .seq us.toArray n ∧ Vals (ns.map V.int) us
theorem IsNs.keeps {h h' : Heap} {v : Value} {ns : List Int} (x : IsNs h v ns) (k : ∀ b o, h.get? b = some o → o.cls = .type "tuple" → h'.get? b = some o) : IsNs h' v ns := by
  obtain ⟨a, o, us, n, e, ho, hc, hd, r⟩ := x
  exact ⟨a, o, us, n, e, k _ _ ho hc, hc, hd, r⟩
theorem ns_cmp {b : Bool} {vs : List Value} {k : Value → List Int} (hp : ∀ v ∈ vs, IsNs s.heap v (k v)) : SrtO.Cmp prog w A s (tuples' b) (fun p => p.1 ∈ vs) (lt2 fun v u => lexL (k v) (k u)) := by
  intro p q hm hm'
  obtain ⟨a, o, us, n, e, ho, hc, hd, r⟩ := hp _ hm
  obtain ⟨a', o', us', n', e', ho', hc', hd', r'⟩ := hp _ hm'
  show wpAny (model prog w) A (keyLt' (tuples' b) p.1 q.1) (fun r s' => s' = s ∧ r = lexL (k p.1) (k q.1)) (fun _ _ => False) s
  rw [← lexG_eq]
  generalize k p.1 = xs at r ⊢
  generalize k q.1 = ys at r' ⊢
  rw [e, e']
  refine PySem.W.kat_lt ho hd ho' hd' ?_
  have hl : us.toArray.size = xs.length := by have := Paired.length r; simp at this; simp [this]
  have hl' : us'.toArray.size = ys.length := by have := Paired.length r'; simp at this; simp [this]
  rw [hl, hl']
  exact lex_run prog w A s b _ xs ys us us' 0 r r'
theorem ns_firsts {h : Heap} : ∀ {vs : List Value} {k : Value → List Int}, (∀ v ∈ vs, IsNs h v (k v) ∧ k v ≠ []) → ∃ fs, PySem.W.KatTups h vs fs ∧ fs.length = vs.length ∧ ∀ f ∈ fs, ∃ x t, f = Value.int x t
  | [], _, _ => ⟨[], .nil, rfl, fun _ h => by cases h⟩
  | v :: vs, k, hp => by
    obtain ⟨fs, h1, h2, h3⟩ := ns_firsts (vs := vs) (k := k) fun u hu => hp u (List.mem_cons_of_mem _ hu)
    obtain ⟨⟨a, o, us, n, e, ho, hc, hd, r⟩, hne⟩ := hp v List.mem_cons_self
    generalize k v = ns at r hne
    cases ns with
    | nil => exact absurd rfl hne
    | cons x xs =>
      cases r with
      | cons r t =>
        obtain ⟨t', rfl⟩ := r
        subst e
        refine ⟨Value.int x t' :: fs, .cons ho hc hd (by simp) h1, by simp [h2], fun f hf => ?_⟩
        rcases List.mem_cons.mp hf with rfl | hf
        · exact ⟨_, _, rfl⟩
        · exact h3 f hf
theorem ns_sortable {a : Addr} {vs : List Value} {k : Value → List Int} (h0 : 0 < vs.length) (hp : ∀ v ∈ vs, IsNs s.heap v (k v) ∧ k v ≠ []) (ha : ∀ o, s.heap.get? a = some o → o.cls ≠ .type "tuple") : SrtO.SortableO prog w A s a vs fun v u => lexL (k v) (k u) := by
  intro h' keep
  have hp' : ∀ v ∈ vs, IsNs h' v (k v) ∧ k v ≠ [] := fun v hm => ⟨(hp v hm).1.keeps fun b o e c => keep b o (fun z => by subst z; exact ha o e c) e, (hp v hm).2⟩
  obtain ⟨fs, h1, h2, h3⟩ := ns_firsts hp'
  refine ⟨tuples' true, fun Q E hq => ?_, ns_cmp fun v hv => (hp' v hv).1⟩
  refine PySem.W.kat_kind (T := .type "int") h1 (by omega) (fun f hm => ?_) (by rfl) ?_
  · obtain ⟨x, t, rfl⟩ := h3 f hm
    exact PySem.W.Looks.now
  · have e : (Value.type "int" != Value.type "tuple") = true := by first | decide +kernel | rfl | decide
    rw [e]
    exact hq
/-- sorted(x), whatever x is walked over as -/
theorem sorted_src {x : Addr} {vs : List Value} {ltv : Value → Value → Bool} {Q : Value → Shared → Prop} (O : Swo ltv) (hz : vs.length ≤ sizeLine)
    (hcol : ∀ (E' : Value → Shared → Prop) (R : List Value → Shared → Prop), (∀ (h' : Heap) (tk : Nat), (∀ b o, s.heap.get? b = some o → h'.get? b = some o) → s.heap.objs.size ≤ h'.objs.size → R vs { s with heap := h', toks := tk }) → wpAny (model prog w) A.in1 (collect (.ref x)) R E' s)
    (hS : 2 ≤ vs.length → ∀ (s₁ : Shared) (a : Addr), s₁.heap.get? a = some (seqObj "list" vs.toArray 0) → (∀ b o, s.heap.get? b = some o → s₁.heap.get? b = some o) → SrtO.SortableO prog w A.in1.in1 s₁ a vs ltv)
    (h : ∀ (h' : Heap) (tk : Nat) (d : Addr) (out : List Value), Srtd ltv out → Stb ltv out vs → (∀ b o, s.heap.get? b = some o → h'.get? b = some o) → s.heap.objs.size ≤ d → (∃ n, h'.get? d = some (seqObj "list" out.toArray n)) → Q (.ref d) { s with heap := h', toks := tk }) :
    wpAny (model prog w) A (call (.builtin "sorted") [.ref x]) Q E s := by
  refine Calls.call_function_entry kind_sorted plain_sorted entry_sorted (args_sorted1 _) ?_
  unfold Builtin.«sorted»
  refine wpAny_bind (m := checkCount "sorted" 1 1 _) (wpAny_pure ?_)
  refine wpAny_bind (hcol _ _ fun h1 tk k1 hle => ?_)
  refine wpAny_bind (wpAny_newList ?_ hz)
  have hoL : (h1.push (seqObj "list" vs.toArray 0)).get? h1.objs.size = some (seqObj "list" vs.toArray 0) := Heap.get?_push_size _ rfl
  have keep : ∀ b o, s.heap.get? b = some o → (h1.push (seqObj "list" vs.toArray 0)).get? b = some o := fun b o q => Heap.get?_push_of_some _ (k1 b o q)
  refine wpAny_bind (wpAny_holding (wpAny_call_entry slot_list_sort ⟨_, hoL, rfl⟩ entry_list_sort (SrtO.list_sort_ord O hoL hz (fun h2 => hS h2 _ _ hoL keep) fun out hs hb => ⟨_, rfl, ?_⟩) (args_list_sort _)))
  obtain ⟨c, hc⟩ := sortedHeap_at (vs := vs) (out := out.toArray) hoL
  refine wpAny_pure ⟨_, rfl, h _ tk h1.objs.size out hs hb (fun b o e => ?_) hle ⟨c, hc⟩⟩
  have q := k1 b o e
  have hlt := Heap.lt_size q
  rw [sortedHeap_old (Nat.ne_of_lt hlt) (by rw [size_push']; exact Nat.lt_succ_of_lt hlt)]
  exact Heap.get?_push_of_some _ q
end

/-! ### lists of states -/
/-- xs: tuples with the numbers L -/
abbrev Sts (H : Hp) (xs : List V) (L : List (List Int)) : Prop := Paired (fun x ns => ∃ t, x = .ref t ∧ H t = some (.tup (ns.map V.int))) xs L
theorem Sts.mono {G H : Hp} (e : Ex G H) {xs : List V} {L : List (List Int)} (h : Sts G xs L) : Sts H xs L := by
  induction h with
  | nil => exact .nil
  | cons h _ ih => obtain ⟨t, e1, e2⟩ := h; exact .cons ⟨t, e1, e _ _ e2⟩ ih
theorem Sts.append {H : Hp} {xs ys : List V} {L M : List (List Int)} (h1 : Sts H xs L) (h2 : Sts H ys M) : Sts H (xs ++ ys) (L ++ M) := by
  induction h1 with
  | nil => exact h2
  | cons h _ ih => exact .cons h ih
theorem Sts.len {H : Hp} {xs : List V} {L : List (List Int)} (h : Sts H xs L) : xs.length = L.length := Paired.length h
theorem Sts.get {H : Hp} {xs : List V} {L : List (List Int)} (h : Sts H xs L) : ∀ {i : Nat} {x : V}, xs[i]? = some x → ∃ t ns, L[i]? = some ns ∧ x = .ref t ∧ H t = some (.tup (ns.map V.int)) := by
  induction h with
  | nil => intro i x e; cases e
  | cons h _ ih =>
    intro i x e
    cases i with
    | zero => obtain ⟨t, e1, e2⟩ := h; cases e; exact ⟨t, _, rfl, e1, e2⟩
    | succ i => exact ih e
/-- the numbers of the tuple x -/
def kT (H : Hp) : V → List Int
  | .ref t => match H t with
    | some (.tup xs) => xs.map fun | .int i => i | _ => 0
    | _ => []
  | _ => []
theorem kT_of {H : Hp} {t : Addr} {ns : List Int} (h : H t = some (.tup (ns.map V.int))) : kT H (.ref t) = ns := by
  show (match H t with | some (.tup xs) => xs.map (fun | .int i => i | _ => 0) | _ => []) = ns
  rw [h]
  show (ns.map V.int).map _ = ns
  rw [List.map_map]
  exact List.map_id' ns
theorem Sts.kT {H : Hp} {xs : List V} {L : List (List Int)} (h : Sts H xs L) : xs.map (NX.kT H) = L := by
  induction h with
  | nil => rfl
  | cons h _ ih => obtain ⟨t, rfl, e⟩ := h; rw [List.map_cons, ih, kT_of e]
theorem sts_of {H : Hp} : ∀ {xs : List V}, (∀ x ∈ xs, ∃ t ns, x = V.ref t ∧ H t = some (.tup (List.map V.int ns))) → Sts H xs (xs.map (kT H))
  | [], _ => .nil
  | x :: xs, h => by
    obtain ⟨t, ns, rfl, e⟩ := h x List.mem_cons_self
    rw [List.map_cons, kT_of e]
    exact .cons ⟨t, rfl, e⟩ (sts_of fun y hy => h y (List.mem_cons_of_mem _ hy))
theorem Sts.mem {H : Hp} {xs : List V} {L : List (List Int)} (h : Sts H xs L) : ∀ x ∈ xs, ∃ t ns, x = V.ref t ∧ H t = some (.tup (List.map V.int ns)) ∧ ns ∈ L := by
  intro x hx
  obtain ⟨i, hi⟩ := List.mem_iff_getElem?.mp hx
  obtain ⟨t, ns, e1, e2, e3⟩ := h.get hi
  exact ⟨t, ns, e2, e3, List.mem_of_getElem? e1⟩
abbrev Asc (L : List (List Int)) : Prop := L.Pairwise fun a b => lexL b a = false
/-- sorted(xs), xs a list of tuples of numbers of any length -/
def rSortedL (K : PySem.W.Frag) : List V → Hp → VK → Prop := fun vs H Q => ∃ (a : Addr) (xs : List V) (L : List (List Int)), vs = [V.ref a] ∧ SqL K H a xs ∧ Sts H xs L ∧ (∀ ns ∈ L, ns ≠ []) ∧
  ∀ ys L' p, Sts H ys L' → L'.Perm L → Asc L' → H p = none → Q (.ref p) (upd H p (.lst ys))
/-- sorted(d), d a dict whose keys are tuples of numbers -/
def rSortedD : List V → Hp → VK → Prop := fun vs H Q => ∃ (d : Addr) (kvs : List (List L2.Key × V)) (L : List (List Int)), vs = [V.ref d] ∧ Rd H d (.dT kvs) ∧ kvs.map (·.1) = L.map (List.map Sum.inl) ∧ (∀ ns ∈ L, ns ≠ []) ∧
  ∀ ys L' p, Sts H ys L' → L'.Perm L → Asc L' → H p = none → Q (.ref p) (upd H p (.lst ys))
section
variable {X : Cx}
theorem sts_out {H : Hp} {xs : List V} {L : List (List Int)} {us out : List Value} (hx : Sts H xs L) (e1 : xs = us.map backV) (h1 : Srtd (fun v u => lexL (kT H (backV v)) (kT H (backV u))) out) (h2 : Stb (fun v u => lexL (kT H (backV v)) (kT H (backV u))) out us) :
    Sts H (out.map backV) ((out.map backV).map (kT H)) ∧ ((out.map backV).map (kT H)).Perm L ∧ Asc ((out.map backV).map (kT H)) := by
  have hp : (out.map backV).Perm xs := by rw [e1]; exact h2.perm.map backV
  refine ⟨sts_of fun x hm => ?_, ?_, ?_⟩
  · obtain ⟨t, ns, a, b, _⟩ := hx.mem x (hp.mem_iff.mp hm)
    exact ⟨t, ns, a, b⟩
  · rw [← hx.kT]; exact hp.map _
  · unfold Asc
    rw [List.pairwise_map, List.pairwise_map]
    exact h1
theorem ns_raw {pins : List (Addr × Obj)} {s : Shared} {σ : L2.St} {H : Hp} {xs : List V} {L : List (List Int)} {us : List Value} (I : Inv X pins σ H s) (hx : Sts H xs L) (hne : ∀ ns ∈ L, ns ≠ []) (e1 : xs = us.map backV) (e2 : ∀ u ∈ us, ∃ a, u = Value.ref a) :
    ∀ v ∈ us, IsNs s.heap v (kT H (backV v)) ∧ kT H (backV v) ≠ [] := by
  intro v hv
  obtain ⟨t, rfl⟩ := e2 v hv
  have hm : V.ref t ∈ xs := by rw [e1]; exact List.mem_map.mpr ⟨_, hv, rfl⟩
  obtain ⟨t', ns, e, ht, hL⟩ := hx.mem _ hm
  cases e
  show IsNs s.heap (.ref t) (kT H (.ref t)) ∧ kT H (.ref t) ≠ []
  rw [kT_of ht]
  obtain ⟨_, its, r, o, ho, hc, n, hd⟩ := I.hok _ _ ht
  exact ⟨⟨t, o, its, n, rfl, ho, hc, hd, r⟩, hne ns hL⟩
theorem cr_sortedL : CallR X (.builtin "sorted") (rSortedL X.K) := by
  intro pins s σ H vs us Q I r h
  obtain ⟨a, xs, L, rfl, hs, hx, hne, q⟩ := h
  obtain ⟨its, rv, hl, hz⟩ := I.list hs
  obtain ⟨u, rfl, ru⟩ := vals1 r
  obtain rfl : u = Value.ref a := ru
  obtain ⟨e1, e2⟩ := refs_back rv fun x m => by
    obtain ⟨t, ns, e, _⟩ := hx.mem x m
    exact ⟨t, e⟩
  have hz' : its.length ≤ sizeLine := by rw [← rv.length]; exact hz
  have hns := ns_raw I hx hne e1 e2
  refine sorted_src (swo_lexL fun v => kT H (backV v)) hz' (fun E' R hR => ?_) (fun h2 s1 a1 ho1 k1 => ?_) fun h' tk d out h1 h2 kp hd hn => ?_
  · refine collect_list hl.isList (hR _ s.toks (fun b o q => ?_) ?_) hz'
    · rw [Heap.get?_update_ne _ _ _ _ (Nat.ne_of_lt (Heap.lt_size q))]
      exact Heap.get?_push_of_some _ q
    · rw [Heap.size_update, size_push']
      exact Nat.le_succ _
  · refine ns_sortable (by omega) (fun v hv => ⟨(hns v hv).1.keeps fun b o e _ => k1 b o e, (hns v hv).2⟩) fun o e => ?_
    have e' : some o = some (seqObj "list" its.toArray 0) := e.symm.trans ho1
    cases e'
    intro c
    exact absurd (Value.type.inj c) (by decide)
  · have h3 : ∀ u ∈ out, ∃ a, u = Value.ref a := fun u hu => e2 u (h2.perm.mem_iff.mp hu)
    obtain ⟨n, hn⟩ := hn
    obtain ⟨s1, s2, s3⟩ := sts_out hx e1 h1 h2
    refine ⟨.ref d, upd H d (.lst (out.map backV)), I.laid (t' := tk) kp hd ⟨?_, out, n, vals_back h3, hn⟩, rfl, q _ _ d s1 s2 s3 (I.hok.fresh hd)⟩
    rw [List.length_map, h2.len]
    exact hz'
theorem collect_dT {pins : List (Addr × Obj)} {s : Shared} {σ : L2.St} {H : Hp} {d : Addr} {kvs : List (List L2.Key × V)} (hc : X.calm = true) (I : Inv X pins σ H s) (hd : Rd H d (.dT kvs)) :
    ∃ bs : List Addr, IsKeys H kvs bs ∧ bs.length ≤ sizeLine ∧ ∀ (E' : Value → Shared → Prop) (R : List Value → Shared → Prop), (∀ (h' : Heap) (tk : Nat), (∀ b o, s.heap.get? b = some o → h'.get? b = some o) → s.heap.objs.size ≤ h'.objs.size → R (bs.map Value.ref) { s with heap := h', toks := tk }) →
      wpAny (model X.prog X.w) X.A.in1 (collect (.ref d)) R E' s := by
  obtain ⟨z, hs, ks, pr, o, es, ep, ho, hx, hdt, he, hn⟩ := (show ObjOk X.prog X.w H s.heap d (.dT kvs) from hd.ok I.hok)
  have l1 : es.size = ks.length := size_of_entries he
  have l2 : kvs.length = ks.length := Paired.length pr
  refine ⟨ks.map fun x => x.2.1, isKeys_of pr, by rw [List.length_map]; omega, fun E' R hR => ?_⟩
  have hlt : d < s.heap.objs.size := Heap.lt_size ho
  unfold collect
  refine wpAny_bind (wpAny_runValue (codeAny_builtin F.entry_proto_collect ?_))
  rw [Around.under_plainId F.plain_proto_collect _]
  show wpAny _ X.A.in1.in1 (newList [] >>= fun l => again (.builtin "list.__iadd__" ⟨[l, .ref d], []⟩)) _ _ s
  refine wpAny_bind (wpAny_newObj_type ?_)
  refine wpAny_pure ⟨plainId_quiet F.plain_list_iadd _, codeAny_builtin F.entry_list_iadd ?_⟩
  rw [Around.under_plainId F.plain_list_iadd _]
  have hS : (s.heap.push { cls := .type "list", data := .seq ([] : List Value).toArray }).get? s.heap.objs.size = some { cls := .type "list", data := .seq #[] } := Heap.get?_push_size _ rfl
  have hok : (s.heap.push { cls := .type "list", data := .seq ([] : List Value).toArray }).get? d = some o := Heap.get?_push_of_some _ ho
  show wpAny _ X.A.in1.in1 (Builtin.List.listExtendWith (.ref s.heap.objs.size) (.ref d) (.ref s.heap.objs.size)) _ _ _
  have key := PySem.W.kdl_extend (prog := X.prog) (w := X.w) (A := X.A.in1) (s := { s with heap := s.heap.push { cls := .type "list", data := .seq ([] : List Value).toArray } })
    (R := fun (q : Result) (s' : Shared) => q = .ok (.ret (.ref s.heap.objs.size)) ∧ ∃ (h' : Heap) (tk : Nat) (acc' : Array Value) (c' : Nat), s' = { s with heap := h', toks := tk } ∧
      (∀ b o, s.heap.get? b = some o → h'.get? b = some o) ∧ h'.get? s.heap.objs.size = some { cls := .type "list", dict := none, data := .seq acc' c', slots := #[] } ∧ ItemsOf (fun i v => ∃ en : DictEntry, es[i]? = some en ∧ v = en.key) acc' es.size)
    (kdl_raw hs hx hdt) (I.ok.hd hc) hok s.heap.objs.size (Nat.ne_of_gt hlt) (Nat.ne_of_gt hlt) (.ref s.heap.objs.size) 0 hS
    (fun h' tk acc' c' hk e hi => ⟨rfl, h', tk, acc', c', rfl, fun b o q => hk b o (Nat.ne_of_lt (Heap.lt_size q)) (Heap.get?_push_of_some _ q), e, hi⟩) (by omega)
  have fin : ∀ (q : Result) (s' : Shared), (q = .ok (.ret (.ref s.heap.objs.size)) ∧ ∃ (h' : Heap) (tk : Nat) (acc' : Array Value) (c' : Nat), s' = { s with heap := h', toks := tk } ∧
      (∀ b o, s.heap.get? b = some o → h'.get? b = some o) ∧ h'.get? s.heap.objs.size = some { cls := .type "list", dict := none, data := .seq acc' c', slots := #[] } ∧ ItemsOf (fun i v => ∃ en : DictEntry, es[i]? = some en ∧ v = en.key) acc' es.size) →
      ∃ (h' : Heap) (tk : Nat) (acc' : Array Value) (c' : Nat), q = .ok (.ret (.ref s.heap.objs.size)) ∧ s' = { s with heap := h', toks := tk } ∧ h'.get? s.heap.objs.size = some { cls := .type "list", dict := none, data := .seq acc' c', slots := #[] } ∧ R acc'.toList { s with heap := h', toks := tk } := by
    rintro q s' ⟨e, h', tk, acc', c', e2, kp, eS, it⟩
    refine ⟨h', tk, acc', c', e, e2, eS, ?_⟩
    have ea : acc'.toList = ks.map fun x => Value.ref x.2.1 := by
      have hl : acc'.toList.length = ks.length := by rw [Array.length_toList, it.1]; exact l1
      apply List.ext_getElem?
      intro j
      rw [List.getElem?_map]
      cases hj : acc'.toList[j]? with
      | none =>
        have h1 := List.getElem?_eq_none_iff.mp hj
        rw [List.getElem?_eq_none (by omega)]
        all_goals rfl
      | some v =>
        obtain ⟨en, hen, hv⟩ := it.2 j v (by rw [← Array.getElem?_toList]; exact hj)
        have qe := entry_at he j
        rw [hen] at qe
        cases hb : ks[j]? with
        | none =>
          rw [hb] at qe
          exact nomatch (show some en = none from qe)
        | some b =>
          rw [hb] at qe
          have e2 : en = entryOfKey (tupleKind (mixKind X.prog X.w)) b := Option.some.inj qe
          rw [hv, e2]
          all_goals rfl
    have eb : acc'.toList = (ks.map fun x => x.2.1).map Value.ref := by rw [ea, List.map_map]; all_goals rfl
    rw [eb]
    exact hR h' tk kp (Nat.le_of_lt (Heap.lt_size eS))
  refine wpAny_mono key (fun fn s' x => ?_) fun e s' x => ?_
  · cases fn with
    | done f =>
      obtain ⟨h', tk, acc', c', e, e2, eS, q⟩ := fin _ _ x
      cases e
      subst e2
      show wpAny _ X.A.in1 (load s.heap.objs.size >>= _) _ _ _
      exact wpAny_bind (wpAny_load eS (wpAny_pure q))
    | again c₁ =>
      refine ⟨x.1, codeAny_mono x.2 fun q s₂ y => ?_⟩
      obtain ⟨h', tk, acc', c', e, e2, eS, q2⟩ := fin _ _ y
      subst e e2
      show wpAny _ X.A.in1 (load s.heap.objs.size >>= _) _ _ _
      exact wpAny_bind (wpAny_load eS (wpAny_pure q2))
  · exact absurd x.1 (by simp)
theorem cr_sortedD (hc : X.calm = true) : CallR X (.builtin "sorted") rSortedD := by
  intro pins s σ H vs us Q I r h
  obtain ⟨d, kvs, L, rfl, hd, hk, hne, q⟩ := h
  obtain ⟨u, rfl, ru⟩ := vals1 r
  obtain rfl : u = Value.ref d := ru
  obtain ⟨bs, ik, hz, hcol⟩ := collect_dT hc I hd
  have hx : Sts H (bs.map V.ref) L := by
    clear hcol hz q hd hne
    unfold IsKeys at ik
    induction ik generalizing L with
    | nil =>
      cases L with
      | nil => exact .nil
      | cons _ _ => cases hk
    | @cons p b ps bs h t ih =>
      cases L with
      | nil => cases hk
      | cons ns L =>
        simp only [List.map_cons, List.cons.injEq] at hk
        refine .cons ⟨b, rfl, ?_⟩ (ih L hk.2)
        rw [h, hk.1, List.map_map] <;> rfl
  have e1 : bs.map V.ref = (bs.map Value.ref).map backV := by rw [List.map_map] <;> rfl
  have e2 : ∀ u ∈ bs.map Value.ref, ∃ a, u = Value.ref a := fun u hu => by obtain ⟨a, _, rfl⟩ := List.mem_map.mp hu; exact ⟨a, rfl⟩
  have hz' : (bs.map Value.ref).length ≤ sizeLine := by rw [List.length_map]; exact hz
  have hns := ns_raw I hx hne e1 e2
  refine sorted_src (swo_lexL fun v => kT H (backV v)) hz' hcol (fun h2 s1 a1 ho1 k1 => ?_) fun h' tk p out h1 h2 kp hp hn => ?_
  · refine ns_sortable (by omega) (fun v hv => ⟨(hns v hv).1.keeps fun b o e _ => k1 b o e, (hns v hv).2⟩) fun o e => ?_
    have e' : some o = some (seqObj "list" (bs.map Value.ref).toArray 0) := e.symm.trans ho1
    cases e'
    intro c
    exact absurd (Value.type.inj c) (by decide)
  · have h3 : ∀ u ∈ out, ∃ a, u = Value.ref a := fun u hu => e2 u (h2.perm.mem_iff.mp hu)
    obtain ⟨n, hn⟩ := hn
    obtain ⟨s1, s2, s3⟩ := sts_out hx e1 h1 h2
    refine ⟨.ref p, upd H p (.lst (out.map backV)), I.laid (t' := tk) kp hp ⟨?_, out, n, vals_back h3, hn⟩, rfl, q _ _ p s1 s2 s3 (I.hok.fresh hp)⟩
    rw [List.length_map, h2.len]
    exact hz'
end
end NX

namespace NX
open PySem PySem.Spec PyProof.Rows L2
open Evl (Ex ex_l ex_t fresh_back)
theorem hu1 {n : Nat} (h : n + 65 < cLine) : n + 1 < cLine := by omega
/-! ### comprehensions of two loops: the outer one over a range, the inner one over a list -/
/-- the inner loop: what it asks of J1 at H4; Nx: the outer loop's next turn -/
def LCIN (J1 : It) (g1 : TG) (tt1 : TT) (te : TE) (vs1 : List Nat) (σ2 : L2.St) (D : Addr) (Nx : Hp → Prop) (H4 : Hp) : Prop := ∃ W1 : Nat → Nat → Hp → Prop, (∃ m, W1 0 m H4) ∧ ∀ j k H, W1 j k H →
  (J1.stop j H ∧ Nx H) ∨ (J1.go j H ∧ ∃ Nx1 : Hp → Prop, (∀ H', Nx1 H' → ∃ k', k' < k ∧ W1 (j + 1) k' H') ∧ ∀ x H', J1.yld j H x H' → g1 x (wipe σ2 vs1) H' fun σ3 H5 => wipe σ3 vs1 = wipe σ2 vs1 ∧ tt1 σ3 H5 fun b H6 =>
    if b = true then te σ3 H6 fun y H7 => ∃ acc, H7 D = some (.lst acc) ∧ acc.length < sizeLine ∧ Nx1 (upd H7 D (.lst (acc ++ [y]))) else Nx1 H6)
def LCJ2 (J : It) (g : TG) (tt : TT) (wi1 : TI) (g1 : TG) (tt1 : TT) (te : TE) (vs vs1 : List Nat) (σ : L2.St) (H1 : Hp) (Q : VK) : Prop := ∀ D, H1 D = none → ∃ W : Nat → Nat → Hp → Prop, (∃ m, W 0 m (upd H1 D (.lst []))) ∧ ∀ i m H, W i m H →
  (J.stop i H ∧ Q (.ref D) H) ∨ (J.go i H ∧ ∃ Nx : Hp → Prop, (∀ H', Nx H' → ∃ m', m' < m ∧ W (i + 1) m' H') ∧ ∀ x H', J.yld i H x H' → g x (wipe σ vs) H' fun σ2 H2 => wipe σ2 vs = wipe σ vs ∧ tt σ2 H2 fun b H3 =>
    if b = true then wi1 σ2 H3 fun J1 H4 => LCIN J1 g1 tt1 te vs1 σ2 D Nx H4 else Nx H3)
theorem g_lc2 {wi wi1 : TI} {g g1 : TG} {tt tt1 : TT} {te : TE} {vs vs1 : List Nat} {σ : L2.St} {H : Hp} {Q : VK} (k : wi σ H fun J H1 => LCJ2 J g tt wi1 g1 tt1 te vs vs1 σ H1 Q) : tLc2 wi g tt wi1 g1 tt1 te vs vs1 σ H Q := k
section
variable {K : PySem.W.Frag} {σ σ2 : L2.St} {G H : Hp} {L : List (Addr × HO)} {te : TE} {tt tt1 : TT} {g g1 : TG} {wi1 : TI} {vs vs1 : List Nat} {Q : VK} {D a : Addr} {acc ys : List V} {Nx : Hp → Prop}
theorem v2_rng1 {j : Int} (F : Nat → List V → Hp → List (Addr × HO) → Prop) (S : Own G L H) (hj : 0 ≤ j ∧ j ≤ 1000000) (h0 : F 0 [] G L)
    (hs : ∀ D (i : Nat) acc G1 L1 H1, (i : Int) < j → Ex G G1 → F i acc G1 L1 → Own G1 ((D, .lst acc) :: L1) H1 → g (.int (i : Int)) (wipe σ vs) H1 fun σ2 H2 => wipe σ2 vs = wipe σ vs ∧ tt σ2 H2 fun b H3 =>
      if b = true then wi1 σ2 H3 fun J1 H4 => LCIN J1 g1 tt1 te vs1 σ2 D (fun H' => ∃ acc G2 L2, Ex G G2 ∧ F (i + 1) acc G2 L2 ∧ Own G2 ((D, .lst acc) :: L2) H') H4 else ∃ acc G2 L2, Ex G G2 ∧ F (i + 1) acc G2 L2 ∧ Own G2 ((D, .lst acc) :: L2) H3)
    (hd : ∀ p acc G1 L1 H1, Ex G G1 → F j.toNat acc G1 L1 → Own G1 ((p, .lst acc) :: L1) H1 → Q (.ref p) H1) :
    ∃ j' : Int, [V.int j] = [.int j'] ∧ -(2 ^ 62) ≤ j' ∧ j' < 2 ^ 62 ∧ LCJ2 (Itr 0 j'.toNat) g tt wi1 g1 tt1 te vs vs1 σ H Q := by
  refine ⟨j, rfl, by omega, by omega, fun D hD => ⟨fun i m H => m = j.toNat - i ∧ i ≤ j.toNat ∧ ∃ acc G2 L2, Ex G G2 ∧ F i acc G2 L2 ∧ Own G2 ((D, .lst acc) :: L2) H, ⟨_, rfl, Nat.zero_le _, [], G, L, Ex.refl G, h0, S.lay hD⟩, ?_⟩⟩
  rintro i m H1 ⟨rfl, hi, acc, G1, L1, e, f, S1⟩
  by_cases c : i < j.toNat
  · refine .inr ⟨c, fun H' => ∃ acc G2 L2, Ex G G2 ∧ F (i + 1) acc G2 L2 ∧ Own G2 ((D, .lst acc) :: L2) H', fun H' p => ⟨j.toNat - (i + 1), by omega, rfl, c, p⟩, fun x H' hx => ?_⟩
    obtain ⟨e1, e2⟩ := hx
    subst e1
    have z : x = .int (i : Int) := by
      have e2' : x = V.int (0 + (i : Int)) := e2
      rw [e2', Int.zero_add]
    rw [z]
    exact hs D i acc G1 L1 _ (by omega) e f S1
  · have ei : i = j.toNat := by omega
    subst ei
    exact .inl ⟨Nat.le_refl _, hd D acc G1 L1 H1 e f S1⟩
theorem v2_list (F : Nat → List V → Hp → List (Addr × HO) → Prop) (S : Own G ((D, .lst acc) :: L) H) (hx : SqL K G a ys) (h0 : F 0 acc G L)
    (hs : ∀ i y acc G1 L1 H1, ys[i]? = some y → Ex G G1 → F i acc G1 L1 → Own G1 ((D, .lst acc) :: L1) H1 → g1 y (wipe σ2 vs1) H1 fun σ3 H2 => wipe σ3 vs1 = wipe σ2 vs1 ∧ tt1 σ3 H2 fun b H3 =>
      if b = true then te σ3 H3 fun z H4 => ∃ acc, H4 D = some (.lst acc) ∧ acc.length < sizeLine ∧ ∃ acc' G2 L2, Ex G G2 ∧ F (i + 1) acc' G2 L2 ∧ Own G2 ((D, .lst acc') :: L2) (upd H4 D (.lst (acc ++ [z]))) else ∃ acc' G2 L2, Ex G G2 ∧ F (i + 1) acc' G2 L2 ∧ Own G2 ((D, .lst acc') :: L2) H3)
    (hd : ∀ acc G1 L1 H1, Ex G G1 → F ys.length acc G1 L1 → Own G1 ((D, .lst acc) :: L1) H1 → Nx H1) :
    ∃ p, V.ref a = .ref p ∧ (∃ xs, SqL K H p xs) ∧ LCIN (Itl K p) g1 tt1 te vs1 σ2 D Nx H := by
  refine ⟨a, rfl, ⟨ys, S.sl hx⟩, fun i m H => m = ys.length - i ∧ i ≤ ys.length ∧ ∃ acc G2 L2, Ex G G2 ∧ F i acc G2 L2 ∧ Own G2 ((D, .lst acc) :: L2) H, ⟨_, rfl, Nat.zero_le _, acc, G, L, Ex.refl G, h0, S⟩, ?_⟩
  rintro i m H1 ⟨rfl, hi, acc, G1, L1, e, f, S1⟩
  have q := S1.sl (ex_l e hx)
  by_cases c : i < ys.length
  · refine .inr ⟨⟨ys, ys[i], q, List.getElem?_eq_getElem c⟩, fun H' => ∃ acc G2 L2, Ex G G2 ∧ F (i + 1) acc G2 L2 ∧ Own G2 ((D, .lst acc) :: L2) H', fun H' p => ⟨ys.length - (i + 1), by omega, rfl, c, p⟩, fun x H' hx' => ?_⟩
    obtain ⟨e1, e2⟩ := hx'
    subst e1
    exact hs i x acc G1 L1 _ (e2 ys q) e f S1
  · have ei : i = ys.length := by omega
    subst ei
    exact .inl ⟨⟨ys, q, Nat.le_refl _⟩, hd acc G1 L1 H1 e f S1⟩
theorem c2_yes {F : Nat → List V → Hp → List (Addr × HO) → Prop} {i : Nat} {G1 : Hp} {L1 : List (Addr × HO)} {z : V} (S : Own G1 ((D, .lst acc) :: L1) H) (e : Ex G G1) (hl : acc.length ≤ 1000000) (f : F (i + 1) (acc ++ [z]) G1 L1) :
    ∃ acc, H D = some (.lst acc) ∧ acc.length < sizeLine ∧ ∃ acc' G2 L2, Ex G G2 ∧ F (i + 1) acc' G2 L2 ∧ Own G2 ((D, .lst acc') :: L2) (upd H D (.lst (acc ++ [z]))) :=
  ⟨acc, S.get0, smallL (Nat.le_trans hl (by decide)), acc ++ [z], G1, L1, e, f, S.put0⟩
end
end NX

namespace NX
open PySem PySem.Spec PyProof.Rows L2
open Evl (Ex ex_l ex_t fresh_back)
/-! ### tuple * int, 1 too -/
theorem tuple_mul1 (l : Addr) (items : Array Value) (n : Nat) (dd : Option Addr) (sl : Array (Option Value)) (u : Tok) :
    Meets (Builtin.«tuple.__mul__» ⟨[.ref l, .int 1 u], []⟩) (fun _ R s => s.heap.get? l = some { cls := .type "tuple", dict := dd, data := .seq items n, slots := sl } ∧ R (.ok (.ret (Value.ref l))) s) :=
  .of_wp fun prog w A R s h => by
    obtain ⟨hp, g, d, tk, os⟩ := s
    obtain ⟨hl, h⟩ := h
    have f1 := AutoSeq1.idx_int
    have c0 : (decide ((1 : Int) < -(2 ^ 63)) || decide ((1 : Int) ≥ 2 ^ 63)) = false := by decide
    have c1 : (items.isEmpty || (1 : Int) == 1) = true := by simp
    wp_walk using wpAny_loadPart' hl
    repeat (first
      | (refine wpAny_ite_false (decide_eq_false (by rw [c0]; exact Bool.false_ne_true)) ?_; wp_walk using wpAny_loadPart' hl)
      | (refine wpAny_ite_true (decide_eq_true (by rw [c1])) ?_; wp_walk using wpAny_loadPart' hl))
    exact ⟨_, rfl, h⟩
def rRep1 (K : PySem.W.Frag) : R2 := fun x y H Q => ∃ l k xs, x = .ref l ∧ y = .int k ∧ SqT K H l xs ∧ xs ≠ [] ∧ 1 ≤ k ∧ k ≤ 1000 ∧ xs.length ≤ 1000 ∧ (k = 1 → Q (.ref l) H) ∧ (2 ≤ k → ∀ p, H p = none → Q (.ref p) (upd H p (.tup (List.replicate k.toNat xs).flatten)))
theorem op_rep1 {X : Cx} : OpR X (binaryOp .Mult) (rRep1 X.K) := by
  intro pins s σ H x y v u Q I rx ry h
  obtain ⟨l, k, xs, rfl, rfl, hT, hne, h1, h2, hz, q1, q2⟩ := h
  by_cases e : k = 1
  · subst e
    cases rx
    obtain ⟨t, rfl⟩ := ry
    obtain ⟨its, r, ⟨⟨cls, dd, data, sl⟩, ho, hc, n, hd⟩, hs⟩ := I.tuple hT
    simp only at hc hd
    subst hc hd
    refine wpAny_binaryOp_repeat_ref (T := "tuple") (U := "int") (by decide) ⟨_, ho, rfl⟩ (fun s' => typeIs_int s' 1 t) noFill_tuple_mul F.fills_int_mul F.slot_int_rmul repeat_tuple F.slot_int_index.lookup
      (call_meets F.slot_int_rmul (typeIs_int s 1 t) F.entry_int_rmul (F.args_int_rmul_2 _ _) (int_rmul_tuple 1 t l its.toArray n dd sl)
        ⟨ho, rfl, ⟨_, ho, rfl⟩, call_meets F.slot_tuple_mul ⟨_, ho, rfl⟩ F.entry_tuple_mul (F.args_tuple_mul_2 _ _) (tuple_mul1 l its.toArray n dd sl t) ⟨ho, ?_⟩⟩)
    exact ⟨.ref l, _, I, rfl, q1 rfl⟩
  · exact op_repT pins s σ H _ _ v u Q I rx ry ⟨l, k, xs, rfl, rfl, hT, hne, by omega, h2, hz, q2 (by omega)⟩
theorem n_rep1 {K : PySem.W.Frag} {G H : Hp} {L : List (Addr × HO)} {l : Addr} {x : Int} {n : Nat} {Q : VK} (S : Own G L H) (h : G l = some (.tup [.int x])) (h1 : 1 ≤ n) (h2 : n ≤ 1000) (k : ∀ p G1 H1, Ex G G1 → Ex H H1 → G1 p = some (.tup ((List.replicate n x).map V.int)) → Own G1 L H1 → Q (.ref p) H1) : rRep1 K (.ref l) (.int (n : Int)) H Q := by
  refine ⟨l, n, _, rfl, rfl, SqT.of (S.ex _ _ h), by simp, by omega, by omega, by simp, fun e => ?_, fun e p hp => ?_⟩
  · have e : n = 1 := by omega
    subst e
    exact k l G H (Ex.refl G) (Ex.refl H) h S
  · have e2 : (List.replicate (n : Int).toNat [V.int x]).flatten = (List.replicate n x).map V.int := by
      rw [Int.toNat_natCast, List.map_replicate]
      clear k e h1 h2
      induction n with
      | zero => rfl
      | succ n ih => rw [List.replicate_succ, List.flatten_cons, ih, List.replicate_succ] <;> rfl
    have e3 := S.still (o := .tup (List.replicate (n : Int).toNat [V.int x]).flatten) hp
    rw [e2] at e3 ⊢
    exact k p _ _ e3.2.1 (Ex.new hp) e3.2.2 e3.1
end NX

namespace NX
open PySem PySem.Spec PyProof.Rows L2
/-! ### ways that join behind an if -/
theorem s_join {ts : TS} {n b c : L2.St → Hp → Prop} {rt : VK} {σ : L2.St} {H : Hp} (J : L2.St → Hp → Prop) (hj : ∀ σ' H', J σ' H' → n σ' H') (h : ∀ n' : L2.St → Hp → Prop, (∀ σ' H', J σ' H' → n' σ' H') → ts ⟨n', rt, b, c⟩ σ H) : ts ⟨n, rt, b, c⟩ σ H := h n hj
theorem e_join {te : TE} {σ : L2.St} {H : Hp} {Q : VK} (J : V → Hp → Prop) (hj : ∀ x H', J x H' → Q x H') (h : ∀ Q' : VK, (∀ x H', J x H' → Q' x H') → te σ H Q') : te σ H Q := h Q hj
theorem t_join {tt : TT} {σ : L2.St} {H : Hp} {Q : Bool → Hp → Prop} (J : Bool → Hp → Prop) (hj : ∀ b H', J b H' → Q b H') (h : ∀ Q' : Bool → Hp → Prop, (∀ b H', J b H' → Q' b H') → tt σ H Q') : tt σ H Q := h Q hj
theorem n_sum {K : PySem.W.Frag} {H : Hp} {p : Addr} {ns : List Int} {Q : VK} (h : SqL K H p (ns.map V.int)) (k : Q (.int ns.sum) H) : rSum K [.ref p] H Q := ⟨p, ns, rfl, h, k⟩
theorem n_all {K : PySem.W.Frag} {H : Hp} {p : Addr} {m : Nat} {Q : VK} (h : SqL K H p (List.replicate m (.bl true))) (k : Q (.bl true) H) : rAll K [.ref p] H Q := by
  refine ⟨p, List.replicate m true, rfl, by rw [List.map_replicate]; exact h, ?_⟩
  have e : (List.replicate m true).all id = true := by
    rw [List.all_eq_true]
    intro x hx
    rw [(List.mem_replicate.mp hx).2] <;> rfl
  rw [e]
  exact k
end NX

namespace NX
open PySem PySem.Spec PyProof.Rows L2
open Evl (Ex ex_l ex_t fresh_back)
/-- a state of n stations -/
def StA (H : Hp) (t : Addr) (st : List Int) : Prop := H t = some (.tup (st.map V.int))
theorem n_catT1 {K : PySem.W.Frag} {G H : Hp} {L : List (Addr × HO)} {a b : Addr} {xs ys : List V} {Q : VK} (S : Own G L H) (h : SqT K G a xs) (h2 : G b = some (.tup ys)) (hne : ys ≠ []) (hz : xs.length + ys.length ≤ 10000000) (k : ∀ r G1 H1, Ex G G1 → Ex H H1 → G1 r = some (.tup (xs ++ ys)) → Own G1 L H1 → Q (.ref r) H1) : rCatA K (.ref a) (.ref b) H Q := by
  refine ⟨a, b, xs, ys, rfl, rfl, S.st h, SqT.of (S.ex _ _ h2), small hz, fun e => ?_, fun _ e => absurd e hne, fun _ _ p hp => k p _ _ (S.still hp).2.1 (Ex.new hp) (S.still hp).2.2 (S.still hp).1⟩
  subst e
  exact k b G H (Ex.refl G) (Ex.refl H) h2 S
theorem n_catT2 {K : PySem.W.Frag} {G H : Hp} {L : List (Addr × HO)} {a b : Addr} {xs ys : List V} {Q : VK} (S : Own G L H) (h : G a = some (.tup xs)) (h2 : SqT K G b ys) (hne : xs ≠ []) (hz : xs.length + ys.length ≤ 10000000) (k : ∀ r G1 H1, Ex G G1 → Ex H H1 → G1 r = some (.tup (xs ++ ys)) → Own G1 L H1 → Q (.ref r) H1) : rCatA K (.ref a) (.ref b) H Q := by
  refine ⟨a, b, xs, ys, rfl, rfl, SqT.of (S.ex _ _ h), S.st h2, small hz, fun e => absurd e hne, fun _ e => ?_, fun _ _ p hp => k p _ _ (S.still hp).2.1 (Ex.new hp) (S.still hp).2.2 (S.still hp).1⟩
  subst e
  exact k a G H (Ex.refl G) (Ex.refl H) (by rw [List.append_nil]; exact h) S
theorem cut_take (st : List Int) (i : Nat) : cutV (st.map V.int) none (some (i : Int)) = (st.take i).map V.int := by
  rw [cutV_to, List.map_take] <;> rfl
theorem cut_drop (st : List Int) (i : Nat) (h : i ≤ st.length) : cutV (st.map V.int) (some (i : Int)) none = (st.drop i).map V.int := by
  have e := cutV_from (xs := st.map V.int) (i := i)
  rw [e, List.map_drop] <;> rfl
abbrev keyN (ns : List Int) : List L2.Key := ns.map Sum.inl
theorem keyN_inj {a b : List Int} (h : keyN a = keyN b) : a = b := by
  induction a generalizing b with
  | nil =>
    cases b with
    | nil => rfl
    | cons _ _ => cases h
  | cons x a ih =>
    cases b with
    | nil => cases h
    | cons y b =>
      simp only [keyN, List.map_cons, List.cons.injEq, Sum.inl.injEq] at h
      rw [h.1, ih h.2]
theorem keyN_kV (ns : List Int) : (keyN ns).map kV = ns.map V.int := by rw [List.map_map] <;> rfl
theorem n_dputN {G H : Hp} {L : List (Addr × HO)} {p t : Addr} {kvs : List (List L2.Key × V)} {st : List Int} {v : V} {R : Hp → Prop} (S : Own G ((p, .dT kvs) :: L) H) (ht : StA H t st) (hz : kvs.length ≤ 1000000) (k : ∀ H1, Own G ((p, .dT (putK kvs (keyN st) v)) :: L) H1 → R H1) :
    ∃ a H4, V.ref p = .ref a ∧ DPut H a (.ref t) v H4 ∧ R H4 :=
  ⟨p, _, rfl, DPut.t (k := keyN st) S.get0 (by rw [keyN_kV]; exact ht) (smallL (Nat.le_trans hz (by decide))), k _ S.put0⟩
theorem n_dgetN {H : Hp} {p t : Addr} {kvs : List (List L2.Key × V)} {st : List Int} {v : V} {R : V → Prop} (h : H p = some (.dT kvs)) (ht : StA H t st) (e : valV kvs (keyN st) = some v) (k : R v) : ∃ a v', V.ref p = .ref a ∧ DGet H a (.ref t) (some v') ∧ R v' :=
  ⟨p, v, rfl, e ▸ DGet.t (k := keyN st) h (by rw [keyN_kV]; exact ht), k⟩
theorem n_dinN {H : Hp} {p t : Addr} {kvs : List (List L2.Key × V)} {st : List Int} {Q : VK} (h : H p = some (.dT kvs)) (ht : StA H t st) (k : Q (.bl (valV kvs (keyN st)).isSome) H) : ∃ a o, V.ref p = .ref a ∧ DGet H a (.ref t) o ∧ Q (.bl o.isSome) H :=
  ⟨p, _, rfl, DGet.t (k := keyN st) h (by rw [keyN_kV]; exact ht), k⟩
theorem n_dninN {H : Hp} {p t : Addr} {kvs : List (List L2.Key × V)} {st : List Int} {Q : VK} (h : H p = some (.dT kvs)) (ht : StA H t st) (k : Q (.bl (!(valV kvs (keyN st)).isSome)) H) : ∃ a o, V.ref p = .ref a ∧ DGet H a (.ref t) o ∧ Q (.bl (!o.isSome)) H :=
  ⟨p, _, rfl, DGet.t (k := keyN st) h (by rw [keyN_kV]; exact ht), k⟩
theorem n_dninB {H : Hp} {p t : Addr} {kvs : List (List L2.Key × V)} {st : List Int} {X Y : Prop} (h : H p = some (.dT kvs)) (ht : StA H t st) (k : if (!(valV kvs (keyN st)).isSome) = true then X else Y) : ∃ a o, V.ref p = .ref a ∧ DGet H a (.ref t) o ∧ ∃ b, V.bl (!o.isSome) = V.bl b ∧ if b = true then X else Y :=
  ⟨p, _, rfl, DGet.t (k := keyN st) h (by rw [keyN_kV]; exact ht), _, rfl, k⟩
theorem n_dinB {H : Hp} {p t : Addr} {kvs : List (List L2.Key × V)} {st : List Int} {X Y : Prop} (h : H p = some (.dT kvs)) (ht : StA H t st) (k : if (valV kvs (keyN st)).isSome = true then X else Y) : ∃ a o, V.ref p = .ref a ∧ DGet H a (.ref t) o ∧ ∃ b, V.bl o.isSome = V.bl b ∧ if b = true then X else Y :=
  ⟨p, _, rfl, DGet.t (k := keyN st) h (by rw [keyN_kV]; exact ht), _, rfl, k⟩
theorem g_dnin {td ty : TE} {σ : L2.St} {H : Hp} {Q : VK} (k : ty σ H fun y H1 => td σ H1 fun x H2 => ∃ a o, x = .ref a ∧ DGet H2 a y o ∧ Q (.bl (!o.isSome)) H2) : tDNotIn ty td σ H Q := k
theorem g_dget' {td ty : TE} {σ : L2.St} {H : Hp} {Q : VK} (k : td σ H fun x H1 => ty σ H1 fun y H2 => ∃ a v, x = .ref a ∧ DGet H2 a y (some v) ∧ Q v H2) : tDGet td ty σ H Q := k
theorem s_dput' {td ty tv : TE} {D : Ends} {σ : L2.St} {H : Hp} (k : tv σ H fun v H1 => td σ H1 fun x H2 => ty σ H2 fun y H3 => ∃ a H4, x = .ref a ∧ DPut H3 a y v H4 ∧ D.nx σ H4) : sDPut td ty tv D σ H := k
theorem g_disp1 {tk tv : TE} {σ : L2.St} {H : Hp} {Q : VK} (k : ∀ p, H p = none → tk σ (upd H p (.dT [])) fun x H1 => tv σ H1 fun y H2 => H2 p = some (.dT []) ∧ ∃ (b : Addr) (k : List L2.Key) (H3 : Hp), x = .ref b ∧ H2 b = some (.tup (k.map kV)) ∧ H3 = upd H2 p (.dT [(k, y)]) ∧ Q (.ref p) H3) : tDisp1T tk tv σ H Q := k
theorem n_disp1 {G H : Hp} {L : List (Addr × HO)} {p b : Addr} {st : List Int} {y : V} {R : Hp → Prop} (S : Own G ((p, .dT []) :: L) H) (hb : StA H b st) (k : ∀ H1, Own G ((p, .dT [(keyN st, y)]) :: L) H1 → R H1) :
    H p = some (.dT []) ∧ ∃ (b' : Addr) (k : List L2.Key) (H3 : Hp), V.ref b = .ref b' ∧ H b' = some (.tup (k.map kV)) ∧ H3 = upd H p (.dT [(k, y)]) ∧ R H3 :=
  ⟨S.get0, b, keyN st, _, rfl, by rw [keyN_kV]; exact hb, rfl, k _ S.put0⟩
/-- what the search keeps with a state: the state before it and the station -/
def VF (G : Hp) (E : List Ent) (e : Ent) (v : V) : Prop := (e.l = 0 ∧ v = .non) ∨ (e.l ≠ 0 ∧ ∃ (p q : Addr) (f : Ent), v = .ref p ∧ G p = some (.tup [.ref q, .int (e.i : Int)]) ∧ E[e.p]? = some f ∧ StA G q f.st)
def DV (R : Ent → V → Prop) (E : List Ent) (kvs : List (List L2.Key × V)) : Prop := Paired (fun kv e => kv.1 = keyN e.st ∧ R e kv.2) kvs E
theorem DV.imp {R R' : Ent → V → Prop} {E : List Ent} {kvs : List (List L2.Key × V)} (h : DV R E kvs) (i : ∀ e ∈ E, ∀ v, R e v → R' e v) : DV R' E kvs := by
  unfold DV at *
  induction h with
  | nil => exact .nil
  | cons h _ ih => exact .cons ⟨h.1, i _ List.mem_cons_self _ h.2⟩ (ih fun e he => i e (List.mem_cons_of_mem _ he))
theorem DV.len {R : Ent → V → Prop} {E : List Ent} {kvs : List (List L2.Key × V)} (h : DV R E kvs) : kvs.length = E.length := Paired.length h
theorem DV.keys {R : Ent → V → Prop} {E : List Ent} {kvs : List (List L2.Key × V)} (h : DV R E kvs) : kvs.map (·.1) = (E.map Ent.st).map keyN := by
  unfold DV at h
  induction h with
  | nil => rfl
  | cons h _ ih => rw [List.map_cons, ih, h.1] <;> rfl
theorem DV.none {R : Ent → V → Prop} {E : List Ent} {kvs : List (List L2.Key × V)} (h : DV R E kvs) {st : List Int} (n : st ∉ E.map Ent.st) : valV kvs (keyN st) = Option.none := by
  cases q : valV kvs (keyN st) with
  | none => rfl
  | some v =>
    have := valV_in q
    rw [h.keys] at this
    obtain ⟨s, hs, e⟩ := List.mem_map.mp this
    exact absurd (keyN_inj e ▸ hs) n
theorem DV.some {R : Ent → V → Prop} {E : List Ent} {kvs : List (List L2.Key × V)} (h : DV R E kvs) {st : List Int} (n : st ∈ E.map Ent.st) : (valV kvs (keyN st)).isSome = true := by
  cases q : valV kvs (keyN st) with
  | some v => rfl
  | none =>
    have := valV_not q
    rw [h.keys] at this
    exact absurd (List.mem_map.mpr ⟨st, n, rfl⟩) this
theorem DV.isSome {R : Ent → V → Prop} {E : List Ent} {kvs : List (List L2.Key × V)} (h : DV R E kvs) (st : List Int) : (valV kvs (keyN st)).isSome = decide (st ∈ E.map Ent.st) := by
  by_cases c : st ∈ E.map Ent.st
  · rw [h.some c, decide_eq_true c]
  · rw [h.none c, decide_eq_false c] <;> rfl
theorem DV.add {R : Ent → V → Prop} {E : List Ent} {kvs : List (List L2.Key × V)} (h : DV R E kvs) {e : Ent} {v : V} (n : e.st ∉ E.map Ent.st) (hv : R e v) : DV R (E ++ [e]) (putK kvs (keyN e.st) v) := by
  rw [putK_new v (h.none n)]
  clear n
  unfold DV at *
  induction h with
  | nil => exact .cons ⟨rfl, hv⟩ .nil
  | cons h _ ih => exact .cons h ih
theorem DV.val {R : Ent → V → Prop} {E : List Ent} {kvs : List (List L2.Key × V)} (h : DV R E kvs) : (E.map Ent.st).Nodup → ∀ {m : Nat} {e : Ent}, E[m]? = Option.some e → ∃ v, valV kvs (keyN e.st) = Option.some v ∧ R e v := by
  unfold DV at h
  induction h with
  | nil => intro _ m e he; cases he
  | @cons kv e0 kvs E h t ih =>
    intro nd m e he
    obtain ⟨n1, n2⟩ := List.nodup_cons.mp nd
    cases m with
    | zero => cases he; exact ⟨_, valV_pos h.1, h.2⟩
    | succ m =>
      obtain ⟨v, e1, e2⟩ := ih n2 (m := m) he
      refine ⟨v, (valV_neg ?_).trans e1, e2⟩
      rw [h.1]
      intro z
      exact n1 (List.mem_map.mpr ⟨e, List.mem_of_getElem? he, (keyN_inj z).symm⟩)
theorem VF.mono {G G' : Hp} {E E' : List Ent} (eG : Ex G G') (eE : E <+: E') {e : Ent} {v : V} (h : VF G E e v) : VF G' E' e v := by
  rcases h with h | ⟨h, p, q, f, a, b, c, d⟩
  · exact .inl h
  · exact .inr ⟨h, p, q, f, a, eG _ _ b, pre_get eE c, eG _ _ d⟩
theorem sts_tup {H H' : Hp} {ys : List V} {L : List (List Int)} (h : Sts H' ys L) (e : Ex H H') : Sts (nw H H') ys L := by
  induction h with
  | nil => exact .nil
  | cons h _ ih => obtain ⟨t, e1, e2⟩ := h; exact .cons ⟨t, e1, nw_tup' e e2⟩ ih
end NX

namespace NX
/-! ### renamed, without: what becomes of the links -/
def mmP (a b : Int) : Pr := (min a b, max a b)
def renL (ns : List Int) (ks : List Pr) : List Pr := ks.map fun q => mmP (tv ns q.1) (tv ns q.2)
/-- new numbers of n stations -/
def IsNames (n : Nat) (ns : List Int) : Prop := ns.length = n ∧ ns.Nodup ∧ ∀ x ∈ ns, 0 ≤ x ∧ x < (n : Int)
theorem tv_mem {t : List Int} {j : Int} (h0 : 0 ≤ j) (h : j < (t.length : Int)) : tv t j ∈ t := by
  obtain ⟨i, rfl⟩ : ∃ i : Nat, j = (i : Int) := ⟨j.toNat, by omega⟩
  exact List.mem_of_getElem? (get_tv (by omega))
theorem tv_inj {t : List Int} (h : t.Nodup) {i j : Int} (hi : 0 ≤ i ∧ i < (t.length : Int)) (hj : 0 ≤ j ∧ j < (t.length : Int)) (e : tv t i = tv t j) : i = j := by
  obtain ⟨a, rfl⟩ : ∃ a : Nat, i = (a : Int) := ⟨i.toNat, by omega⟩
  obtain ⟨b, rfl⟩ : ∃ b : Nat, j = (b : Int) := ⟨j.toNat, by omega⟩
  have ha := get_tv (t := t) (i := a) (by omega)
  have hb := get_tv (t := t) (i := b) (by omega)
  obtain ⟨la, ea⟩ := List.getElem?_eq_some_iff.mp ha
  obtain ⟨lb, eb⟩ := List.getElem?_eq_some_iff.mp hb
  have := (List.getElem_inj h).mp (ea.trans (e.trans eb.symm))
  omega
theorem IsNames.rng {n : Nat} {ns : List Int} (h : IsNames n ns) {j : Int} (h0 : 0 ≤ j) (hj : j < (n : Int)) : 0 ≤ tv ns j ∧ tv ns j < (n : Int) := h.2.2 _ (tv_mem h0 (by rw [h.1]; exact hj))
theorem IsNames.inj {n : Nat} {ns : List Int} (h : IsNames n ns) {i j : Int} (hi : 0 ≤ i ∧ i < (n : Int)) (hj : 0 ≤ j ∧ j < (n : Int)) (e : tv ns i = tv ns j) : i = j := tv_inj h.2.1 (by rw [h.1]; exact hi) (by rw [h.1]; exact hj) e
theorem ren_ok {n : Nat} {ns : List Int} {ks : List Pr} (h : IsNames n ns) (ok : Okl n ks) : Okl n (renL ns ks) := fun q hq => by
  obtain ⟨p, hp, rfl⟩ := List.mem_map.mp hq
  have hb := ok p hp
  have h1 := h.rng (j := p.1) hb.1 (by omega)
  have h2 := h.rng (j := p.2) (by omega) hb.2.2
  have ne : tv ns p.1 ≠ tv ns p.2 := fun e => by
    have := h.inj ⟨hb.1, by omega⟩ ⟨by omega, hb.2.2⟩ e
    omega
  unfold mmP
  simp only
  omega
theorem nd_map {α β : Type} {f : α → β} : ∀ {l : List α}, l.Nodup → (∀ x ∈ l, ∀ y ∈ l, f x = f y → x = y) → (l.map f).Nodup
  | [], _, _ => List.Pairwise.nil
  | a :: l, h, inj => by
    have h' := List.nodup_cons.mp h
    rw [List.map_cons, List.nodup_cons]
    refine ⟨fun m => ?_, nd_map h'.2 fun x hx y hy => inj x (List.mem_cons_of_mem _ hx) y (List.mem_cons_of_mem _ hy)⟩
    obtain ⟨b, hb, e⟩ := List.mem_map.mp m
    have := inj b (List.mem_cons_of_mem _ hb) a List.mem_cons_self e
    rw [this] at hb
    exact h'.1 hb
theorem nd_filter {α : Type} {p : α → Bool} {l : List α} (h : l.Nodup) : (l.filter p).Nodup := h.sublist List.filter_sublist
theorem mm_eq {a b c d : Int} (h : mmP a b = mmP c d) : (a = c ∧ b = d) ∨ (a = d ∧ b = c) := by
  unfold mmP at h
  have h1 := congrArg Prod.fst h
  have h2 := congrArg Prod.snd h
  simp only at h1 h2
  omega
theorem ren_nd {n : Nat} {ns : List Int} {ks : List Pr} (h : IsNames n ns) (ok : Okl n ks) (nd : ks.Nodup) : (renL ns ks).Nodup := nd_map nd fun x hx y hy e => by
  have bx := ok x hx
  have by_ := ok y hy
  rcases mm_eq e with ⟨e1, e2⟩ | ⟨e1, e2⟩
  · have a := h.inj ⟨bx.1, by omega⟩ ⟨by_.1, by omega⟩ e1
    have b := h.inj ⟨by omega, bx.2.2⟩ ⟨by omega, by_.2.2⟩ e2
    exact Prod.ext a b
  · have a := h.inj ⟨bx.1, by omega⟩ ⟨by omega, by_.2.2⟩ e1
    have b := h.inj ⟨by omega, bx.2.2⟩ ⟨by_.1, by omega⟩ e2
    omega
def shf (s x : Int) : Int := x - (if s < x then 1 else 0)
theorem shf_inj {s x y : Int} (hx : x ≠ s) (hy : y ≠ s) (e : shf s x = shf s y) : x = y := by
  unfold shf at e
  split at e <;> split at e <;> omega
def woF (s : Int) (ks : List Pr) : List Pr := ks.filter fun q => !decide (s = q.1 ∨ s = q.2)
def woL (s : Int) (ks : List Pr) : List Pr := (woF s ks).map fun q => (shf s q.1, shf s q.2)
theorem mem_woF {s : Int} {ks : List Pr} {q : Pr} : q ∈ woF s ks ↔ q ∈ ks ∧ q.1 ≠ s ∧ q.2 ≠ s := by
  unfold woF
  rw [List.mem_filter]
  simp only [Bool.not_eq_true', decide_eq_false_iff_not, not_or]
  exact ⟨fun h => ⟨h.1, fun e => h.2.1 e.symm, fun e => h.2.2 e.symm⟩, fun h => ⟨h.1, fun e => h.2.1 e.symm, fun e => h.2.2 e.symm⟩⟩
theorem wo_ok {n : Nat} {s : Int} {ks : List Pr} (hs : 0 ≤ s ∧ s < (n : Int)) (ok : Okl n ks) : Okl (n - 1) (woL s ks) := fun q hq => by
  obtain ⟨p, hp, rfl⟩ := List.mem_map.mp hq
  obtain ⟨hp, n1, n2⟩ := mem_woF.mp hp
  have hb := ok p hp
  simp only
  unfold shf
  split <;> split <;> omega
theorem wo_nd {s : Int} {ks : List Pr} (nd : ks.Nodup) : (woL s ks).Nodup := nd_map (nd_filter nd) fun x hx y hy e => by
  obtain ⟨_, a1, a2⟩ := mem_woF.mp hx
  obtain ⟨_, b1, b2⟩ := mem_woF.mp hy
  have h1 := congrArg Prod.fst e
  have h2 := congrArg Prod.snd e
  exact Prod.ext (shf_inj a1 b1 h1) (shf_inj a2 b2 h2)
theorem wo_len {s : Int} {ks : List Pr} : (woL s ks).length ≤ ks.length := by
  unfold woL woF
  rw [List.length_map]
  exact List.length_filter_le ..
theorem ren_len {ns : List Int} {ks : List Pr} : (renL ns ks).length = ks.length := List.length_map ..
end NX

namespace NX
open PySem PySem.Spec PySem.Calls PyProof.Rows L2
open Evl (Ex ex_l ex_t fresh_back)
/-! ### min and max of a tuple of numbers -/
section
variable {prog : Program} {w : World} {A : Around} {E : Value → Shared → Prop} {s : Shared} {l : Addr} {its : List Value} {ns : List Int} {Q : Value → Shared → Prop}
theorem best_of {f : Nat → Nat → Bool} (ht : s.heap.IsTuple l its.toArray) {c : Addr} {h' : Heap}
    (hk : ∀ b o, b ∉ [s.heap.objs.size] → (s.heap.push { cls := .type "tuple_iterator", data := .fields #[.ref l, .int 0 0] }).get? b = some o → h'.get? b = some o) : ∀ b o, s.heap.get? b = some o → h'.get? b = some o := fun b o e =>
  hk b o (fun m => Nat.lt_irrefl _ ((List.mem_singleton.mp m) ▸ Heap.lt_size e)) (Heap.get?_push_of_some _ e)
theorem fp_ok (ht : s.heap.IsTuple l its.toArray) : ∀ b ∈ [s.heap.objs.size, l], b < (s.heap.push { cls := .type "tuple_iterator", data := .fields #[.ref l, .int 0 0] }).objs.size := fun b hb => by
  have hl : l < s.heap.objs.size := by obtain ⟨_, e, _⟩ := ht; exact Heap.lt_size e
  rw [Heap.size_push]
  simp only [List.mem_cons, List.not_mem_nil, or_false] at hb
  rcases hb with rfl | rfl
  · exact Nat.lt_succ_self _
  · exact Nat.lt_succ_of_lt hl
theorem minT_raw (hh : A.handled = none) (ht : s.heap.IsTuple l its.toArray) (hi : IntsAre its ns) (hne : 0 < ns.length)
    (h : ∀ h' tk M t', (∀ b o, s.heap.get? b = some o → h'.get? b = some o) → M ∈ ns → (∀ a, a ∈ ns → M ≤ a) → Q (.int M t') { s with heap := h', toks := tk }) : wpAny (model prog w) A (call (.builtin "min") [.ref l]) Q E s := by
  have hl : l ≠ s.heap.objs.size := by obtain ⟨_, e, _⟩ := ht; exact Nat.ne_of_lt (Heap.lt_size e)
  have fp := fp_ok ht
  have ht0 := ht
  obtain ⟨xs, e⟩ := (hi.allInts).items
  have hn : numsOf (intItems xs).toList = ns := e ▸ hi.numsOf
  rw [nums_intItems] at hn
  rw [e] at ht
  subst hn
  have hsz : 0 < (intItems xs).size := by unfold intItems; simpa using hne
  refine call_min_walk (wpAny_pyIter_tuple ht ⟨_, _, _, _, _, _, _, rfl, Walks.tuple (A := A.in1) hh _ l hl (intItems xs), ⟨⟨_, Heap.get?_push_size _ rfl, rfl, rfl⟩, ht.push _⟩, fp, hsz, CmpOf.ints_lt (numAt xs) (fun _ _ => intItems_at), fun v h' tk hP hk => ?_⟩)
  obtain ⟨t, rfl⟩ := intItems_at hP
  have hsz2 : (intItems xs).size = xs.size := by unfold intItems; simp
  rw [hsz2] at hsz ⊢
  have hb := argBest_lt (numAt xs) (xs.size - 1)
  refine h h' tk _ t (best_of (f := fun _ _ => true) (c := l) ht0 hk) ?_ fun a ha => ?_
  · rw [numAt_eq]
    refine PySem.getD_mem ?_
    rw [List.length_map, Array.length_toList]
    have := hb.1
    omega
  · obtain ⟨j, hj, rfl⟩ := mem_getD ha
    have hj2 : j < xs.size := by simpa using hj
    have := hb.2 j (by omega)
    rw [← numAt_eq]
    exact this
theorem maxT_raw (hh : A.handled = none) (ht : s.heap.IsTuple l its.toArray) (hi : IntsAre its ns) (hne : 0 < ns.length)
    (h : ∀ h' tk M t', (∀ b o, s.heap.get? b = some o → h'.get? b = some o) → M ∈ ns → (∀ a, a ∈ ns → a ≤ M) → Q (.int M t') { s with heap := h', toks := tk }) : wpAny (model prog w) A (call (.builtin "max") [.ref l]) Q E s := by
  have hl : l ≠ s.heap.objs.size := by obtain ⟨_, e, _⟩ := ht; exact Nat.ne_of_lt (Heap.lt_size e)
  have fp := fp_ok ht
  have ht0 := ht
  obtain ⟨xs, e⟩ := (hi.allInts).items
  have hn : numsOf (intItems xs).toList = ns := e ▸ hi.numsOf
  rw [nums_intItems] at hn
  rw [e] at ht
  subst hn
  have hsz : 0 < (intItems xs).size := by unfold intItems; simpa using hne
  refine call_max_walk (wpAny_pyIter_tuple ht ⟨_, _, _, _, _, _, _, rfl, Walks.tuple (A := A.in1) hh _ l hl (intItems xs), ⟨⟨_, Heap.get?_push_size _ rfl, rfl, rfl⟩, ht.push _⟩, fp, hsz, CmpOf.ints_gt (numAt xs) (fun _ _ => intItems_at), fun v h' tk hP hk => ?_⟩)
  obtain ⟨t, rfl⟩ := intItems_at hP
  have hsz2 : (intItems xs).size = xs.size := by unfold intItems; simp
  rw [hsz2] at hsz ⊢
  have hb := argBest_gt (numAt xs) (xs.size - 1)
  refine h h' tk _ t (best_of (f := fun _ _ => true) (c := l) ht0 hk) ?_ fun a ha => ?_
  · rw [numAt_eq]
    refine PySem.getD_mem ?_
    rw [List.length_map, Array.length_toList]
    have := hb.1
    omega
  · obtain ⟨j, hj, rfl⟩ := mem_getD ha
    have hj2 : j < xs.size := by simpa using hj
    have := hb.2 j (by omega)
    rw [← numAt_eq]
    exact this
end
def rMinT (K : PySem.W.Frag) : List V → Hp → VK → Prop := fun vs H Q => ∃ (a : Addr) (ns : List Int), vs = [V.ref a] ∧ SqT K H a (ns.map V.int) ∧ 0 < ns.length ∧ ∀ m, m ∈ ns → (∀ y, y ∈ ns → m ≤ y) → Q (.int m) H
def rMaxT (K : PySem.W.Frag) : List V → Hp → VK → Prop := fun vs H Q => ∃ (a : Addr) (ns : List Int), vs = [V.ref a] ∧ SqT K H a (ns.map V.int) ∧ 0 < ns.length ∧ ∀ m, m ∈ ns → (∀ y, y ∈ ns → y ≤ m) → Q (.int m) H
section
variable {X : Cx} {K : PySem.W.Frag}
theorem cr_minT (hc : X.calm = true) (e : X.K = K := by rfl) : CallR X (.builtin "min") (rMinT K) := by
  subst e
  intro pins s σ H vs us Q I r h
  obtain ⟨a, ns, rfl, hs, hne, q⟩ := h
  obtain ⟨its, rv, ht, _⟩ := I.tuple hs
  rw [Vals.ref1 r]
  exact minT_raw (I.ok.hd hc) ht rv.ints hne fun h' tk m t' hk h1 h2 => ⟨.int _, H, I.kept hk, ⟨_, rfl⟩, q m h1 h2⟩
theorem cr_maxT (hc : X.calm = true) (e : X.K = K := by rfl) : CallR X (.builtin "max") (rMaxT K) := by
  subst e
  intro pins s σ H vs us Q I r h
  obtain ⟨a, ns, rfl, hs, hne, q⟩ := h
  obtain ⟨its, rv, ht, _⟩ := I.tuple hs
  rw [Vals.ref1 r]
  exact maxT_raw (I.ok.hd hc) ht rv.ints hne fun h' tk m t' hk h1 h2 => ⟨.int _, H, I.kept hk, ⟨_, rfl⟩, q m h1 h2⟩
end
theorem n_minT2 {K : PySem.W.Frag} {H : Hp} {t : Addr} {a b : Int} {Q : VK} (h : H t = some (.tup [.int a, .int b])) (k : Q (.int (min a b)) H) : rMinT K [.ref t] H Q :=
  ⟨t, [a, b], rfl, SqT.of h, Nat.succ_pos _, fun m hm hy => by
    have h1 := hy a (by simp)
    have h2 := hy b (by simp)
    simp only [List.mem_cons, List.not_mem_nil, or_false] at hm
    have e : m = min a b := by omega
    rw [e]
    exact k⟩
theorem n_maxT2 {K : PySem.W.Frag} {H : Hp} {t : Addr} {a b : Int} {Q : VK} (h : H t = some (.tup [.int a, .int b])) (k : Q (.int (max a b)) H) : rMaxT K [.ref t] H Q :=
  ⟨t, [a, b], rfl, SqT.of h, Nat.succ_pos _, fun m hm hy => by
    have h1 := hy a (by simp)
    have h2 := hy b (by simp)
    simp only [List.mem_cons, List.not_mem_nil, or_false] at hm
    have e : m = max a b := by omega
    rw [e]
    exact k⟩
/-! ### set(a list of numbers) -/
/-- an empty set -/
def eSet (w : World) : Obj := { cls := .type "set", dict := none, data := .set #[] 0 (.fresh 0 0 (!w.params.followText "set-order")) }
def lIt (l : Addr) : Obj := { cls := .type "list_iterator", data := .fields #[.ref l, .int 0 0] }
section
variable {P : Program} {w : World} {A : Around} {E : Value → Shared → Prop} {s : Shared}
theorem setL_init {l : Addr} {items : Array Value} (ns : List Int) (hh : A.handled = none) (hl : s.heap.IsList l items) (hit : IntsAre items.toList ns) (hb : ns.length + 1 < scanBound) {R : Value → Shared → Prop}
    (h : ∀ (h' : Heap) (tk c : Nat), SetR w h' s.heap.objs.size (fun j => decide (j ∈ ns)) c → c ≤ ns.length → (∀ b o, s.heap.get? b = some o → h'.get? b = some o) → R .none { s with heap := h', toks := tk }) :
    wpAny (model P w) A (Builtin.«set.__init__» ⟨[.ref s.heap.objs.size, .ref l], []⟩) (fun r s' => ∃ v, r = .done (.ret v) ∧ R v s') E { s with heap := s.heap.push (eSet w) } := by
  have hisz : items.size = ns.length := by
    rw [← Array.length_toList]
    exact IntsAre.length hit
  have hlS : l < s.heap.objs.size := by obtain ⟨_, e, _⟩ := hl; exact Heap.lt_size e
  have hS : (s.heap.push (eSet w)).get? s.heap.objs.size = some (eSet w) := Heap.get?_push_size _ rfl
  have hl1 : (s.heap.push (eSet w)).IsList l items := hl.push _
  have hz1 : (s.heap.push (eSet w)).objs.size = s.heap.objs.size + 1 := Heap.size_push ..
  obtain ⟨ol, hol, hcl, nl, hdl⟩ := hl1
  obtain ⟨oc, od, odt, osl⟩ := ol
  simp only at hcl hdl
  subst hcl; subst hdl
  have hl1 : (s.heap.push (eSet w)).IsList l items := hl.push _
  have q1 := F.sub_list_set
  have q2 := F.sub_list_frozenset
  have q3 : (Value.type "list" == Value.type "dict") = false := by decide
  have hS' := hS
  unfold eSet at hS' hol
  have hh3 : A.in1.handled = none := hh
  unfold Builtin.«set.__init__»; unfold noKeywords Builtin.Frozenset.updateFrom
  generalize hPI : pyIter = PI
  unfold eSet
  wp_walk
  subst hPI
  have hneI : l ≠ (s.heap.push (eSet w)).objs.size := by
    rw [hz1]
    exact Nat.ne_of_lt (Nat.lt_succ_of_lt hlS)
  have hSf : s.heap.objs.size ∉ [(s.heap.push (eSet w)).objs.size, l] := fun m => by
    rw [hz1] at m
    simp only [List.mem_cons, List.not_mem_nil, or_false] at m
    rcases m with m | m
    · exact absurd m (by omega)
    · exact absurd m (Nat.ne_of_gt hlS)
  have hval : ∀ (i : Nat) (v : Value), items[i]? = some v → ∃ k t, ns[i]? = some k ∧ v = .int k t := fun i v hv => by
    obtain ⟨lt, _⟩ := Array.getElem?_eq_some_iff.mp hv
    rw [hisz] at lt
    obtain ⟨t, e⟩ := IntsAre.int_at hit i v ((Array.getElem?_toList ..).trans hv)
    have z : ns[i]? = some (ns.getD i 0) := by rw [List.getD_eq_getElem?_getD, List.getElem?_eq_getElem lt] <;> rfl
    exact ⟨_, t, z, e⟩
  have hp2 : ((s.heap.push (eSet w)).push (lIt l)).get? s.heap.objs.size = some (eSet w) := Heap.get?_push_of_some _ hS
  refine wpAny_pyIter_list hl1 (wpAny_bind (wpAny_runValue (set_update_ints ((Walks.list (A := A.in1) hh _ l hneI items).toS) s.heap.objs.size hSf ns hisz hb hval (items.size - 0) 0 _ rfl (Nat.zero_le _) ⟨⟨_, Heap.get?_push_size _ rfl, rfl, rfl⟩, hl1.push _⟩
    ⟨0, Nat.le_refl 0, setR_new_at hp2⟩ fun s' c hm hc hR => ?_)))
  obtain ⟨h1, g1, d1, k1, o1⟩ := s'
  have z1 : g1 = s.gens := hm.gens
  have z2 : d1 = s.drawn := hm.drawn
  have z3 : o1 = s.os := hm.os
  subst z1; subst z2; subst z3
  refine wpAny_pure (wpAny_pure ⟨_, rfl, h h1 k1 c hR (by rw [← hisz]; exact hc) fun b o e => ?_⟩)
  have lt := Heap.lt_size e
  have kk := hm.heap b o
  refine kk (fun m => ?_) (Heap.get?_push_of_some _ (Heap.get?_push_of_some _ e))
  simp only [List.mem_cons, List.not_mem_nil, or_false] at m
  rcases m with m | m
  · exact absurd m (Nat.ne_of_lt lt)
  · rw [hz1] at m
    exact absurd m (Nat.ne_of_lt (Nat.lt_succ_of_lt lt))
/-- set(a list of numbers) -/
theorem setL_call {l : Addr} {items : Array Value} (ns : List Int) {Q : Value → Shared → Prop} (hh : A.handled = none) (hl : s.heap.IsList l items) (hit : IntsAre items.toList ns) (hb : ns.length + 1 < scanBound)
    (h : ∀ (h' : Heap) (tk c : Nat), SetR w h' s.heap.objs.size (fun j => decide (j ∈ ns)) c → c ≤ ns.length → (∀ b o, s.heap.get? b = some o → h'.get? b = some o) → Q (.ref s.heap.objs.size) { s with heap := h', toks := tk }) :
    wpAny (model P w) A (call (.type "set") [.ref l]) Q E s := by
  have k1 := F.called_set.mro
  have k2 := F.called_set.made
  have k3 := F.called_set.sub
  have k4 := F.called_set.notType
  have k5 := F.called_set.canCreate
  have k6 := F.typeCall_set_1 (.ref l)
  have k7 := F.called_set.init.lookup
  have k8 := F.called_set.init.bind (.ref s.heap.objs.size)
  obtain ⟨c0, tl, k1⟩ := k1
  refine wpAny_call (codeAny_of_tree ?_); show wpAny _ _ (callAny (.type "set") _) _ _ _; refine wpAny_pure ⟨Code.quiet_builtin _ (by decide +kernel), codeAny_builtin F.entry_type_call ?_⟩; rw [Around.under_plain (weight_type_call_type "set" [.ref l] []) rfl]
  repeat any_goals (first | assumption | wp_step)
  refine codeAny_mono (code_set_led1 (.ref l) (E := E) (Q₁ := fun obj s₁ => obj = .ref s.heap.objs.size ∧ s₁ = { s with heap := s.heap.push (eSet w) }) ⟨rfl, rfl⟩) fun r s₁ hr => ?_
  have hT : Shared.TypeIs { s with heap := s.heap.push (eSet w) } (.ref s.heap.objs.size) "set" := ⟨_, Heap.get?_push_size _ rfl, rfl⟩
  match r, hr with
  | .error e, hr => exact hr
  | .ok .next, hr => exact hr.elim
  | .ok .brk, hr => exact hr.elim
  | .ok .cont, hr => exact hr.elim
  | .ok (.ret obj), hr =>
    obtain ⟨rfl, rfl⟩ := hr
    repeat any_goals (first | assumption | wp_step)
    refine codeAny_mono (codeAny_call_builtin (R := wants (fun r s₂ => r = .none ∧ ∃ h' tk c, s₂ = { s with heap := h', toks := tk } ∧ SetR w h' s.heap.objs.size (fun j => decide (j ∈ ns)) c ∧ c ≤ ns.length ∧ (∀ b o, s.heap.get? b = some o → h'.get? b = some o)) E)
      F.called_set.init.plain F.entry_set_init (check_set_init_1 hT (wpAny_mono (setL_init (R := fun r s₂ => r = .none ∧ ∃ h' tk c, s₂ = { s with heap := h', toks := tk } ∧ SetR w h' s.heap.objs.size (fun j => decide (j ∈ ns)) c ∧ c ≤ ns.length ∧ (∀ b o, s.heap.get? b = some o → h'.get? b = some o)) ns (A := _) (by exact hh) hl hit hb fun h' tk c R1 hc hk => ⟨rfl, h', tk, c, rfl, R1, hc, hk⟩) (fun fin s' hf => ?_) fun _ _ z => z))) fun r₂ s₂ h2 => ?_
    · obtain ⟨v, rfl, hv⟩ := hf
      exact hv
    · match r₂, h2 with
      | .error e, h2 => exact h2
      | .ok .next, h2 => exact h2.elim
      | .ok .brk, h2 => exact h2.elim
      | .ok .cont, h2 => exact h2.elim
      | .ok (.ret v), h2 =>
        obtain ⟨rfl, h', tk, c, rfl, R1, hc, hk⟩ := h2
        repeat any_goals (first | assumption | wp_step)
        exact h _ _ _ R1 hc hk
end
def rSetOf (K : PySem.W.Frag) (w : World) : List V → Hp → VK → Prop := fun vs H Q => ∃ (a : Addr) (ns : List Int), vs = [V.ref a] ∧ SqL K H a (ns.map V.int) ∧ ns.length + 1 < scanBound ∧ ∀ p c, H p = none → c ≤ ns.length → Q (.ref p) (upd H p (SetO w p (fun j => decide (j ∈ ns)) c))
theorem cr_setL {X : Cx} {K : PySem.W.Frag} (hc : X.calm = true) (e : X.K = K := by rfl) : CallR X (.type "set") (rSetOf K X.w) := by
  subst e
  intro pins s σ H vs us Q I r h
  obtain ⟨a, ns, rfl, hs, hb, q⟩ := h
  obtain ⟨its, rv, hl, _⟩ := I.list hs
  rw [Vals.ref1 r]
  refine setL_call ns (I.ok.hd hc) hl.isList (by simpa using rv.ints) hb fun h' tk c R1 hc' hk => ?_
  have lt := R1.lt
  exact ⟨.ref _, _, I.laid (t' := tk) hk (Nat.le_refl _) (setO_new R1), rfl, q _ c (I.hok.fresh (Nat.le_refl _)) hc'⟩
/-- sorted(set(a list)) -/
theorem n_setL {K : PySem.W.Frag} {w : World} {G H : Hp} {L : List (Addr × HO)} {p : Addr} {ns : List Int} {Q : VK} (S : Own G L H) (h : SqL K H p (ns.map V.int)) (hb : ns.length < 60)
    (k : ∀ q c H1, H q = none → c ≤ ns.length → Own G ((q, SetO w q (fun j => decide (j ∈ ns)) c) :: L) H1 → Q (.ref q) H1) : rSetOf K w [.ref p] H Q :=
  ⟨p, ns, rfl, h, by unfold scanBound; omega, fun q c hq hc => k q c _ hq hc (S.lay hq)⟩
theorem n_sortSet {w : World} {G H : Hp} {L : List (Addr × HO)} {p : Addr} {ns : List Int} {c : Nat} {Q : VK} (S : Own G ((p, SetO w p (fun j => decide (j ∈ ns)) c) :: L) H) (hb : c < 64)
    (k : ∀ (ms : List Int) q G1 H1, ms.Pairwise (· < ·) → (∀ x, x ∈ ms ↔ x ∈ ns) → H q = none → Ex G G1 → Ex H H1 → G1 q = some (.lst (ms.map V.int)) → Own G1 L H1 → Q (.ref q) H1) : rSortedSet w [.ref p] H Q :=
  ⟨p, _, c, rfl, S.get0, hb, fun ms q h1 h2 h3 hq => by
    have T := S.forget.still (o := .lst (ms.map V.int)) hq
    exact k ms q _ _ h1 (fun x => by rw [h2, decide_eq_true_eq]) hq T.2.1 (Ex.new hq) T.2.2 T.1⟩
end NX

namespace NX
open PySem PySem.Spec PyProof.Rows L2
open Evl (Ex ex_l ex_t fresh_back)
theorem all_flat (ns : List Int) : (ns.map V.int).all flatV = true := by
  rw [List.all_eq_true]
  intro x hx
  obtain ⟨n, _, rfl⟩ := List.mem_map.mp hx
  rfl
theorem inV_ints (x : Int) (ns : List Int) : inV (.int x) (ns.map V.int) = decide (x ∈ ns) := by
  unfold inV
  rw [List.any_map, Bool.eq_iff_iff, List.any_eq_true]
  simp only [Function.comp, eqV, beq_iff_eq, decide_eq_true_eq]
  exact ⟨fun ⟨y, hy, e⟩ => e ▸ hy, fun h => ⟨x, h, rfl⟩⟩
section
variable {K : PySem.W.Frag} {H : Hp} {p : Addr} {ns : List Int} {x : Int} {Q : VK}
theorem n_inIL (h : SqL K H p (ns.map V.int)) (k : Q (.bl (decide (x ∈ ns))) H) : rIn K false (.int x) (.ref p) H Q := ⟨p, _, rfl, .inl h, rfl, all_flat ns, by rw [inV_ints]; exact k⟩
theorem n_ninIL (h : SqL K H p (ns.map V.int)) (k : Q (.bl (!decide (x ∈ ns))) H) : rIn K true (.int x) (.ref p) H Q := ⟨p, _, rfl, .inl h, rfl, all_flat ns, by rw [inV_ints]; exact k⟩
theorem n_inIT (h : SqT K H p (ns.map V.int)) (k : Q (.bl (decide (x ∈ ns))) H) : rIn K false (.int x) (.ref p) H Q := ⟨p, _, rfl, .inr h, rfl, all_flat ns, by rw [inV_ints]; exact k⟩
theorem n_ninIT (h : SqT K H p (ns.map V.int)) (k : Q (.bl (!decide (x ∈ ns))) H) : rIn K true (.int x) (.ref p) H Q := ⟨p, _, rfl, .inr h, rfl, all_flat ns, by rw [inV_ints]; exact k⟩
end
def spNet (C : Addr) (n : Nat) (ls : List Pr) (H : Hp) (Q : VK) : Prop := ∀ x H', H x = none → Ex H H' → NetAt C (nw H H') x n (sortP ls) → Q (.ref x) H'
theorem n_spNet {C : Addr} {G H : Hp} {L : List (Addr × HO)} {n : Nat} {ls : List Pr} {Q : VK} (S : Own G L H) (k : ∀ x G1 H1, H x = none → Ex G G1 → Ex H H1 → Own G1 L H1 → NetAt C G1 x n (sortP ls) → Q (.ref x) H1) : spNet C n ls H Q := fun x H' hx e N => by
  obtain ⟨S1, e2, e3⟩ := S.absorb e
  exact k x _ H' hx e2 e S1 (N.mono e3)
def spWo (C : Addr) : Sp := fun vs H Q _ => ∃ (a : Addr) (n : Nat) (ks : List Pr) (i : Int), vs = [.ref a, .int i] ∧ NetAt C H a n ks ∧ (0 ≤ i ∧ i < (n : Int)) ∧ 2 ≤ n ∧ spNet C (n - 1) (woL i ks) H Q
def spRen (K : PySem.W.Frag) (C : Addr) : Sp := fun vs H Q _ => ∃ (a p : Addr) (n : Nat) (ks : List Pr) (ns : List Int), vs = [.ref a, .ref p] ∧ NetAt C H a n ks ∧ H p = some (.lst (ns.map V.int)) ∧ IsNames n ns ∧ spNet C n (renL ns ks) H Q
theorem n_wo {C : Addr} {G H : Hp} {L : List (Addr × HO)} {a : Addr} {n : Nat} {ks : List Pr} {i : Int} {Q : VK} {E : XK} (S : Own G L H) (N : NetAt C G a n ks) (hi : 0 ≤ i ∧ i < (n : Int)) (hn : 2 ≤ n)
    (k : ∀ x G1 H1, H x = none → Ex G G1 → Ex H H1 → Own G1 L H1 → NetAt C G1 x (n - 1) (sortP (woL i ks)) → Q (.ref x) H1) : spWo C [.ref a, .int i] H Q E := ⟨a, n, ks, i, rfl, N.mono S.ex, hi, hn, n_spNet S k⟩
theorem n_ren {K : PySem.W.Frag} {C : Addr} {G H : Hp} {L : List (Addr × HO)} {a p : Addr} {n : Nat} {ks : List Pr} {ns : List Int} {Q : VK} {E : XK} (S : Own G L H) (N : NetAt C G a n ks) (hp : H p = some (.lst (ns.map V.int))) (hn : IsNames n ns)
    (k : ∀ x G1 H1, H x = none → Ex G G1 → Ex H H1 → Own G1 L H1 → NetAt C G1 x n (sortP (renL ns ks)) → Q (.ref x) H1) : spRen K C [.ref a, .ref p] H Q E := ⟨a, p, n, ks, ns, rfl, N.mono S.ex, hp, hn, n_spNet S k⟩
theorem ks_len2 {n : Nat} {ks : List Pr} (ok : Okl n ks) (u : Up ks) (d : ks.Nodup) (hn : n ≤ 60) : ks.length ≤ 4000 := by
  -- the links as numbers, all different, below 3600
  have h : (ks.map fun q => q.1 * 60 + q.2).Pairwise (· < ·) := by
    rw [List.pairwise_map]
    have hh := List.pairwise_iff_getElem.mp u
    refine List.pairwise_iff_getElem.mpr fun i j hi hj hij => ?_
    have c := leP_iff.mp (hh i j hi hj hij)
    have b1 := ok _ (List.getElem_mem hi)
    have b2 := ok _ (List.getElem_mem hj)
    have ne : ks[i] ≠ ks[j] := fun e => by have := (List.getElem_inj d).mp e; omega
    have ne' : ¬ (ks[i].1 = ks[j].1 ∧ ks[i].2 = ks[j].2) := fun e => ne (Prod.ext e.1 e.2)
    omega
  have := up_len (lo := 0) (hi := 3660) h fun x hx => by
    obtain ⟨q, hq, rfl⟩ := List.mem_map.mp hx
    have := ok q hq
    omega
  rcases this with e | e
  · have z := congrArg List.length e
    rw [List.length_map] at z
    simp only [List.length_nil] at z
    omega
  · rw [List.length_map] at e
    omega
theorem ks_len {n : Nat} {ks : List Pr} (ok : Okl n ks) (u : Up ks) (d : ks.Nodup) (hn : n ≤ 60) : ks.length ≤ 10000 := Nat.le_trans (ks_len2 ok u d hn) (by decide)
theorem NetAt.len {C : Addr} {H : Hp} {a : Addr} {n : Nat} {ks : List Pr} (N : NetAt C H a n ks) : ks.length ≤ 10000 := ks_len N.ok N.up N.nd N.sz.2
end NX

namespace NX
open PySem PySem.Spec PyProof.Rows L2
open Evl (Ex ex_l ex_t fresh_back)
/-! ### slices of tuples, tuple + tuple -/
section
variable {K : PySem.W.Frag} {G H : Hp} {L : List (Addr × HO)} {a b : Addr} {xs ys : List V} {Q : VK}
theorem n_slA {lo hi : Option Int} (S : Own G L H) (h : SqT K G a xs) (k : ∀ r G1 H1, Ex G G1 → Ex H H1 → SqT K G1 r (cutV xs lo hi) → Own G1 L H1 → Q (.ref r) H1) : rSlA K (.ref a) lo hi H Q := by
  refine ⟨a, xs, rfl, S.st h, fun e => k a G H (Ex.refl G) (Ex.refl H) ?_ S, fun _ p hp => k p _ _ (S.still hp).2.1 (Ex.new hp) (SqT.of (S.still hp).2.2) (S.still hp).1⟩
  have z : cutV xs lo hi = xs := by
    unfold cutV
    rw [e.1, e.2, List.drop_zero, Nat.sub_zero, List.take_length]
  rw [z]
  exact h
theorem n_catA (S : Own G L H) (h : SqT K G a xs) (h2 : SqT K G b ys) (hz : xs.length + ys.length ≤ 10000000) (k : ∀ r G1 H1, Ex G G1 → Ex H H1 → SqT K G1 r (xs ++ ys) → Own G1 L H1 → Q (.ref r) H1) : rCatA K (.ref a) (.ref b) H Q := by
  refine ⟨a, b, xs, ys, rfl, rfl, S.st h, S.st h2, small hz, fun e => ?_, fun _ e => ?_, fun _ _ p hp => k p _ _ (S.still hp).2.1 (Ex.new hp) (SqT.of (S.still hp).2.2) (S.still hp).1⟩
  · subst e
    exact k b G H (Ex.refl G) (Ex.refl H) h2 S
  · subst e
    exact k a G H (Ex.refl G) (Ex.refl H) (by rw [List.append_nil]; exact h) S
theorem n_clear (S : Own G ((a, .lst xs) :: L) H) (k : ∀ H1, Own G ((a, .lst []) :: L) H1 → Q .non H1) : rClear (.ref a) [] H Q := ⟨a, xs, rfl, rfl, S.get0, k _ S.put0⟩
theorem n_neP {c d : Addr} {ps qs : List Pr} {x y : List V} (h1 : SqL K H c x) (h2 : SqL K H d y) (l1 : Lks H x ps) (l2 : Lks H y qs) (k : Q (.bl (!decide (ps = qs))) H) : rNeD K (.ref c) (.ref d) H Q :=
  ⟨_, _, .lst h1 (dp_lks l1), .lst h2 (dp_lks l2), shaped_lks ps, shaped_lks qs, by rw [eqv_lks]; exact k⟩
theorem n_eqP {c d : Addr} {ps qs : List Pr} {x y : List V} (h1 : SqL K H c x) (h2 : SqL K H d y) (l1 : Lks H x ps) (l2 : Lks H y qs) (k : Q (.bl (decide (ps = qs))) H) : rEqD K (.ref c) (.ref d) H Q :=
  ⟨_, _, .lst h1 (dp_lks l1), .lst h2 (dp_lks l2), shaped_lks ps, shaped_lks qs, by rw [eqv_lks]; exact k⟩
/-- sorted(links): frozen -/
theorem n_sortPG {ps : List Pr} (S : Own G L H) (hx : SqL K G a xs) (hl : Lks G xs ps) (k : ∀ p ys G1 H1, H p = none → Ex G G1 → Ex H H1 → G1 p = some (.lst ys) → Lks G1 ys (sortP ps) → Own G1 L H1 → Q (.ref p) H1) : rSortedPO K [.ref a] H Q :=
  n_sortP S (S.sl hx) S.ex hl fun p ys G1 H1 h1 h2 h3 h4 h5 h6 => k p ys G1 H1 h1 h2 h3 h4 (h5.mono h2) h6
/-- xs.index(y): numbers, each once -/
theorem n_index {ns : List Int} {i : Nat} {x : Int} (h : SqL K H a (ns.map V.int)) (nd : ns.Nodup) (hi : ns[i]? = some x) (k : Q (.int (i : Nat)) H) : rIndex K (.ref a) [.int x] H Q :=
  ⟨a, _, .int x, i, .int x, rfl, rfl, h, rfl, all_flat ns, by rw [List.getElem?_map, hi] <;> rfl, by simp [eqV], fun m z' hm hz => by
    obtain ⟨y, hy, rfl⟩ := get_map hz
    obtain ⟨h1, e1⟩ := List.getElem?_eq_some_iff.mp hy
    obtain ⟨h2, e2⟩ := List.getElem?_eq_some_iff.mp hi
    have ne : y ≠ x := fun e => by
      have := (List.getElem_inj nd).mp (e1.trans (e.trans e2.symm))
      omega
    simp [eqV, ne], k⟩
end
end NX

namespace NX
open PySem PySem.Spec PyProof.Rows L2
open Evl (Ex ex_l ex_t fresh_back)
abbrev s_after : Stmt := top 19
theorem sc_after : FnScope ["network", "state", "station", "channel", "used", "one"] ["network", "state", "station"] (defScope s_after) := ⟨rfl, rfl, rfl, by decide +kernel, rfl, by decide +kernel, by decide +kernel⟩
abbrev s_all_off : Stmt := top 17
theorem sc_all_off : FnScope ["network"] ["network"] (defScope s_all_off) := ⟨rfl, rfl, rfl, by decide +kernel, rfl, by decide +kernel, by decide +kernel⟩
def spOff (C : Addr) : Sp := fun vs H Q _ => ∃ (a : Addr) (n : Nat) (ks : List Pr), vs = [.ref a] ∧ NetAt C H a n ks ∧ ∀ t H', Ex H H' → StA H' t (List.replicate n 0) → Q (.ref t) H'
def spAfter (C : Addr) : Sp := fun vs H Q _ => ∃ (a t : Addr) (n : Nat) (ks : List Pr) (st : List Int) (i : Nat), vs = [.ref a, .ref t, .int (i : Int)] ∧ NetAt C H a n ks ∧ StA H t st ∧ st.length = n ∧ i < n ∧ ∀ r H', Ex H H' → StA H' r (sw (nb ks) st i) → Q (.ref r) H'
theorem n_after {C : Addr} {H : Hp} {a t : Addr} {n : Nat} {ks : List Pr} {st : List Int} {i : Nat} {Q : VK} {E : XK} (N : NetAt C H a n ks) (ht : StA H t st) (hl : st.length = n) (hi : i < n)
    (k : ∀ r H', Ex H H' → StA H' r (sw (nb ks) st i) → Q (.ref r) H') : spAfter C [.ref a, .ref t, .int (i : Int)] H Q E := ⟨a, t, n, ks, st, i, rfl, N, ht, hl, hi, k⟩
section
variable {P : Program} {w : World} {K : PySem.W.Frag} {mg : Str → Option Value} {base : Heap} {C : Addr}
theorem ok_off {f : Addr} {fd : FuncData} (F : Fun K "all_off" "all_off" s_all_off f fd) (T : Txt mg) (NC : NetC K C) (M_len : Mth P w K mg base 1 C "__len__" ["self"] (spLen C)) : FnOk P w K mg base CX0 3 f fd ["network"] (spOff C) := by
  refine F.ok sc_all_off (fun vs H Q E h => ?_) (fun cdv A outer s H vs Q E hr h => ?_)
  · obtain ⟨a, n, ks, rfl, _⟩ := h
    rfl
  · obtain ⟨a, n, ks, rfl, N, k⟩ := h
    have hs := N.sz
    refine ⟨_, (pss_one (ps_ret (pe_op op_rep1 (pe_tup (pa_cons pe_int pa_nil)) (pe_callB (call_lenNet NC M_len (hr.mono (by first | decide | omega))) (by rfl) T.n_len (by decide +kernel) (pa_cons (pv 0) pa_nil))))), ?_⟩
    walk_at "go"
    refine n_tup (Own.start H) (by show 1 ≤ 10000000; decide) fun t G1 H1 _ e1 _ ht S1 => ?_
    walk_at "go"
    refine n_lenNet (N.mono (e1.trans S1.ex)) ?_
    refine n_rep1 (n := n) S1 ht hs.1 (Nat.le_trans hs.2 (by decide)) fun p G2 H2 e2 _ hp S2 => ?_
    walk_at "go"
    exact k p H2 ((e1.trans e2).trans S2.ex) (S2.ex _ _ hp)
theorem ok_after {f : Addr} {fd : FuncData} (F : Fun K "after" "after" s_after f fd) (T : Txt mg) (NC : NetC K C) : FnOk P w K mg base CX0 1 f fd ["network", "state", "station"] (spAfter C) := by
  refine F.ok sc_after (fun vs H Q E h => ?_) (fun cdv A outer s H vs Q E hr h => ?_)
  · obtain ⟨a, t, n, ks, st, i, rfl, _⟩ := h
    rfl
  · obtain ⟨a, t, n, ks, st, i, rfl, N, ht, hl, hi, k⟩ := h
    have hs := N.sz
    have ok := N.ok
    obtain ⟨dx, kp, np, xs, nps, o⟩ := N.at_
    obtain ⟨p, hp⟩ : ∃ p, nps[i]? = some p := ⟨_, List.getElem?_eq_getElem (by have := o.len; omega)⟩
    have hz := I_len N.ok N.up N.nd (i : Int)
    refine ⟨_, (pss_cons (ps_set (i := 3) sc_after.nd rfl (Or.inl rfl) pe_int)
      (pss_cons (ps_if (pt_cmpR op_eq (pe_ix ix_tup (pv 1) (pv 2) (fun _ _ => rfl)) pe_int (nomark _)) (pss_cons (ps_setLc (i := 4) (own := [("one", 5)]) (by rfl) sc_after.nd rfl rfl (sw_true rfl rfl rfl (by decide +kernel)) (pi_list (pe_ix ix_list (pe_fld (pv 0) rfl) (pv 2) (fun _ _ => rfl))) (blkOk_by (own := [("one", 5)]) (N := ["network", "state", "station", "channel", "used", "one"]) (sc := defScope s_after) (by decide +kernel)) (fun _ _ _ _ _ => (pg_name (i := 5) sc_after.nd rfl (Or.inl rfl))) (fun _ _ _ _ _ => pts_nil) (fun _ _ _ _ _ => (pe_ix (ix_tupK (K := K)) (pv 1) (pv 5) (fun _ _ => rfl))))
      (pss_cons (ps_set (i := 3) sc_after.nd rfl (Or.inl rfl) pe_int)
      (pss_one (ps_while PassesOwn.never (pt_cmpR op_in_seq (pv 3) (pv 4) rfl) (pss_one (ps_aug (i := 3) sc_after.nd rfl (Or.inl rfl) pe_int ip_add)))))) pss_nil)
      (pss_one (ps_ret (pe_op op_catA (pe_op op_catA (pe_slice sl_tupA (pv 1) po_none (po_some (pv 2))) (pe_tup (pa_cons (pv 3) pa_nil))) (pe_slice sl_tupA (pv 1) (po_some (pe_op op_add (pv 2) pe_int)) po_none)))))), ?_⟩
    refine s_seq ?_
    refine s_asg ?_
    refine g_c ?_
    refine s_name ?_
    refine s_seq ?_
    refine s_join (fun σ2 H2 => ∃ (c : Int) (x4 x5 : Option V), σ2 = [some (.ref a), some (.ref t), some (.int (i : Int)), some (.int c), x4, x5] ∧ Ex H H2 ∧ c = chn (nb ks) st i) ?_ (fun n' hn' => ?_)
    · rintro σ2 H2 ⟨c, x4, x5, rfl, e2, rfl⟩
      have ht2 : SqT K H2 t (st.map V.int) := SqT.of (e2 _ _ ht)
      walk_at "go"
      refine n_slA (Own.start H2) ht2 fun r3 G3 H3 e3 _ hr3 S3 => ?_
      rw [cut_take] at hr3
      walk_at "go"
      refine n_tup S3 (by show 1 ≤ 10000000; decide) fun t4 G4 H4 _ e4 _ ht4 S4 => ?_
      walk_at "go"
      refine n_catT1 S4 (ex_t e4 hr3) ht4 (by simp) (by simp; omega) fun r5 G5 H5 e5 _ hr5 S5 => ?_
      walk_at "go"
      refine n_slA S5 (ex_t (e3.trans (e4.trans e5)) ht2) fun r6 G6 H6 e6 _ hr6 S6 => ?_
      rw [show (i : Int) + 1 = ((i + 1 : Nat) : Int) by omega, cut_drop _ _ (by omega)] at hr6
      walk_at "go"
      refine n_catT2 S6 (e6 _ _ hr5) hr6 (by simp) (by simp; omega) fun r7 G7 H7 e7 _ hr7 S7 => ?_
      walk_at "go"
      refine k r7 H7 (e2.trans ((((e3.trans e4).trans e5).trans (e6.trans e7)).trans S7.ex)) (S7.ex _ _ ?_)
      rw [hr7]
      unfold sw
      simp only [List.map_append, List.map_cons, List.map_nil]
    · walk_at "go"
      refine g_ixT (SqT.of ht) (at_tv (by omega) (by omega)) ?_
      walk_at "go"
      refine if_2 (fun c => ?_) (fun c => ?_)
      · have c := of_decide_eq_true c
        walk_at "go"
        refine n_fld o.ins NC.cl NC.nN (nf_near kp np) ?_
        walk_at "go"
        refine g_ixL (SqL.of o.near) (atI_nat (j := i) (v := .ref p) (by rw [List.getElem?_map, hp] <;> rfl)) ?_
        refine v_list (xs := (nb ks (i : Int)).map V.int) (fun m acc G' L' => L' = [] ∧ acc = (((nb ks (i : Int)).take m).map (tv st)).map V.int) (Own.start H) (SqL.of (o.each i p hp)) (by rw [List.length_map]; omega) ⟨rfl, rfl⟩ ?_ ?_
        · rintro D m x acc G' L' H' hx hm e' hl' ⟨rfl, rfl⟩ S'
          obtain ⟨y, hy, rfl⟩ := get_map hx
          obtain ⟨y', rfl, hy'⟩ := nb_nat ok (List.mem_of_getElem? hy)
          walk_at "go"
          refine ⟨rfl, ?_⟩
          walk_at "go"
          refine g_ixT (ex_t (e'.trans S'.ex) (SqT.of ht)) (at_tv (by omega) (by omega)) ?_
          exact c_yes S' e' hl' hm ⟨rfl, by rw [take_snoc hy, List.map_append, List.map_append] <;> rfl⟩
        · rintro up acc G' L' H' e' _ ⟨rfl, rfl⟩ S'
          rw [List.length_map, List.take_length] at S'
          generalize hus : (nb ks (i : Int)).map (tv st) = us at S'
          walk_at "go"
          refine s_while (fun m σ' H'' => ∃ (c : Int) (x5 : Option V) (G2 : Hp), σ' = [some (.ref a), some (.ref t), some (.int (i : Int)), some (.int c), some (.ref up), x5] ∧ m = ((us.length : Int) + 1 - c).toNat ∧ 1 ≤ c ∧ (∀ d, 1 ≤ d → d < c → d ∈ us) ∧ Ex H G2 ∧ Own G2 [(up, .lst (us.map V.int))] H'') _
            ⟨1, _, G', rfl, rfl, Int.le_refl 1, fun d a b => by omega, e', S'⟩ ?_
          rintro m σ' H'' ⟨c', x5, G2, rfl, rfl, h1, hb, eG, S⟩
          walk_at "go"
          refine n_inIL (SqL.of S.get0) ?_
          walk_at "go"
          refine if_2 (fun cu => ?_) (fun cu => ?_)
          · have cu := of_decide_eq_true cu
            refine s_turn ?_
            walk_at "go"
            have hb' : ∀ d, 1 ≤ d → d < c' + 1 → d ∈ us := fun d a b => by
              by_cases e : d = c'
              · rw [e]; exact cu
              · exact hb d a (by omega)
            have hle := below_le hb'
            exact ⟨_, by omega, c' + 1, _, G2, rfl, rfl, by omega, hb', eG, S⟩
          · have cu := of_decide_eq_false cu
            refine hn' _ _ ⟨c', _, _, rfl, eG.trans S.ex, ?_⟩
            unfold chn
            rw [if_pos c, hus]
            exact (mexL_of ⟨h1, cu, hb⟩).symm
      · have c := of_decide_eq_false c
        walk_at "go"
        refine hn' _ _ ⟨0, _, _, rfl, Ex.refl H, ?_⟩
        unfold chn
        rw [if_neg c]
end
end NX

namespace NX
open PySem PySem.Spec PyProof.Rows L2
open Evl (Ex ex_l ex_t fresh_back)
abbrev s_check_never : Stmt := top 24
theorem sc_check_never : FnScope ["network", "station", "channel", "states", "known", "index", "state", "one"] ["network", "station", "channel", "states"] (defScope s_check_never) := ⟨rfl, rfl, rfl, by decide +kernel, rfl, by decide +kernel, by decide +kernel⟩
abbrev s_NoClosedSet___init__ : Stmt := inClass (top 7) 0
theorem sc_NoClosedSet___init__ : FnScope ["self", "index"] ["self", "index"] (defScope s_NoClosedSet___init__) := ⟨rfl, rfl, rfl, by decide +kernel, rfl, by decide +kernel, by decide +kernel⟩
theorem ok_ini_NoClosedSet {P : Program} {w : World} {K : PySem.W.Frag} {mg : Str → Option Value} {base : Heap} {CL C0 : Addr} {f : Addr} {fd : FuncData} (F : Fun K "__init__" "NoClosedSet.__init__" s_NoClosedSet___init__ f fd) (m_ChannelError : mg "ChannelError" = some (.ref C0)) (BC : BaseC K C0) (hno : PySem.W.findIn K (.ref CL) "index" = some none) : FnOk P w K mg base CX0 1 f fd ["self", "index"] (spExInit K CL "index") := by
  refine F.ok sc_NoClosedSet___init__ (fun vs H Q E h => ?_) (fun cdv A outer s H vs Q E hr h => ?_)
  · obtain ⟨a, v, rfl, _⟩ := h
    rfl
  · obtain ⟨a, v, rfl, ha, T, k⟩ := h
    refine ⟨_, (pss_cons (ps_expr (pe_oeinit (K := K) m_ChannelError BC (pa_cons (pv 0) (pa_cons pe_str pa_nil))))
      (pss_one (ps_ost (pv 0) (pv 1) rfl))), ?_⟩
    walk_at "go"
    refine n_vei ?_
    walk_at "go"
    refine ⟨a, CL, _, rfl, by simp, T, ha, ?_⟩
    refine s_ost ?_
    walk_at "go"
    exact ⟨a, CL, rfl, T, hno, .inl ⟨ha, fun dx h1 h2 => k dx h1 h2⟩⟩
/-- check_never's first questions: no station, no channel, no list -/
def spNevX (C CS CC CN : Addr) : Sp := fun vs H Q E => ∃ (a : Addr) (n : Nat) (ks : List Pr) (v u l : V), vs = [.ref a, v, u, l] ∧ NetAt C H a n ks ∧ ((OddSt H n v ∧ Thr E CS "station" v H) ∨ (OkSt n v ∧ OddCh H u ∧ Thr E CC "channel" u H) ∨
  (OkSt n v ∧ (∃ c : Int, u = .int c ∧ 1 ≤ c) ∧ (∃ ty, OddV H l ty ∧ ty ≠ "list") ∧ Thr E CN "index" (.int (-1)) H))
section
variable {P : Program} {w : World} {K : PySem.W.Frag} {mg : Str → Option Value} {base : Heap} {C CS CC CN CE : Addr}
theorem ok_nevX {f : Addr} {fd : FuncData} (F : Fun K "check_never" "check_never" s_check_never f fd) (T : Txt mg) (NC : NetC K C) (M_len : Mth P w K mg base 1 C "__len__" ["self"] (spLen C)) (m_NoState : mg "NoState" = some (.ref CE)) (c_check_wanted : Cal P w K mg base 4 "check_wanted" ["network", "station", "channel"] [] (spWanted C CS CC))
    (c_check_state : Cal P w K mg base 5 "check_state" ["network", "state"] [] (spCSt C CE)) (c_all_off : Cal P w K mg base 3 "all_off" ["network"] [] (spOff C)) (c_after : Cal P w K mg base 2 "after" ["network", "state", "station"] [] (spAfter C)) (X_NoClosedSet : Exn P w K mg base "NoClosedSet" CN "index") :
    FnOk P w K mg base (L2.CX P w) 6 f fd ["network", "station", "channel", "states"] (spNevX C CS CC CN) := by
  refine F.okX sc_check_never (fun vs H Q E h => ?_) (fun cdv A outer s H vs Q E hr h => ?_)
  · obtain ⟨a, n, ks, v, u, l, rfl, _⟩ := h
    rfl
  · obtain ⟨a, n, ks, v, u, l, rfl, N, h⟩ := h
    have hu65 : ∀ X : Cx, X.A.units = (A.deeper (envOfC "check_never" (defScope s_check_never) s.heap.objs.size f cdv)).units → X.A.units + 65 < cLine := fun X e => by rw [e]; have := hr.un; omega
    refine ⟨_, (pss_cons (ps_expr (pe_cal c_check_wanted (hr.mono (by first | decide | omega)) (passE (takes_of rfl rfl rfl rfl) fun _ _ _ _ z => z) (pa_cons (pv 0) (pa_cons (pv 1) (pa_cons (pv 2) pa_nil)))))
      (pss_cons (ps_if (pt_not (pt_val (pe_callB call_isi (by rfl) T.n_isinstance (by decide +kernel) (pa_cons (pv 3) (pa_cons (pe_bltn (v := .ty "list") (by rfl) T.n_list (by decide +kernel) rfl) pa_nil))))) (pss_one (ps_raiseE (K := K) rfl (takes_of rfl rfl rfl rfl) X_NoClosedSet (hr.mono (by first | decide | omega)) (pa_cons (pe_un un_neg pe_int) pa_nil))) pss_nil)
      (pss_cons (ps_set (i := 4) sc_check_never.nd rfl (Or.inr rfl) pe_dnewT)
      (pss_cons (ps_for (passes_of rfl) rfl (pi_enum (by rfl) T.n_enumerate (pa_cons (pv 3) pa_nil)) (pg_tup (n := 2) rfl (pgs_cons (pg_name (i := 5) sc_check_never.nd rfl (Or.inl rfl)) (pgs_cons (pg_name (i := 6) sc_check_never.nd rfl (Or.inr rfl)) pgs_nil))) (pss_cons (ps_try_only rfl rfl ⟨rfl, by decide, Or.inl m_NoState⟩ (takes_of rfl rfl rfl rfl) (fun W pn xe tk _ => (pss_one (ps_expr (pe_calS c_check_state (hr.mono (by first | decide | omega)) (fun σ => passAt tk σ) (pa_cons (pv 0) (pa_cons (pv 6) pa_nil)))))) (fun a oe cls d pn _ _ => (pss_one ps_never)))
      (pss_cons (ps_if (pt_cmp (pc_din (hu1 (hu65 _ rfl)) (pv 6) (pv 4))) (pss_one (ps_raiseE (K := K) rfl (takes_of rfl rfl rfl rfl) X_NoClosedSet (hr.mono (by first | decide | omega)) (pa_cons (pv 5) pa_nil))) pss_nil)
      (pss_one (ps_dput (hu1 (hu65 _ rfl)) (pv 4) (pv 6) (pv 5) rfl)))))
      (pss_cons (ps_if (pt_cmp (pc_dnotin (hu1 (hu65 _ rfl)) (pe_cal c_all_off (hr.mono (by first | decide | omega)) passN (pa_cons (pv 0) pa_nil)) (pv 4))) (pss_one (ps_raiseE (K := K) rfl (takes_of rfl rfl rfl rfl) X_NoClosedSet (hr.mono (by first | decide | omega)) (pa_cons (pe_callB call_lenN (by rfl) T.n_len (by decide +kernel) (pa_cons (pv 3) pa_nil)) pa_nil))) pss_nil)
      (pss_cons (ps_for (passes_of rfl) rfl (pi_enum (by rfl) T.n_enumerate (pa_cons (pv 3) pa_nil)) (pg_tup (n := 2) rfl (pgs_cons (pg_name (i := 5) sc_check_never.nd rfl (Or.inl rfl)) (pgs_cons (pg_name (i := 6) sc_check_never.nd rfl (Or.inr rfl)) pgs_nil))) (pss_one (ps_if (pt_cmpR op_eq (pe_ix ix_tup (pv 6) (pv 1) (fun _ _ => rfl)) (pv 2) (nomark _)) (pss_one (ps_raiseE (K := K) rfl (takes_of rfl rfl rfl rfl) X_NoClosedSet (hr.mono (by first | decide | omega)) (pa_cons (pe_op op_add (pe_op op_add (pe_callB call_lenN (by rfl) T.n_len (by decide +kernel) (pa_cons (pv 3) pa_nil)) pe_int) (pv 5)) pa_nil))) pss_nil)))
      (pss_one (ps_for (passes_of rfl) rfl (pi_enum (by rfl) T.n_enumerate (pa_cons (pv 3) pa_nil)) (pg_tup (n := 2) rfl (pgs_cons (pg_name (i := 5) sc_check_never.nd rfl (Or.inl rfl)) (pgs_cons (pg_name (i := 6) sc_check_never.nd rfl (Or.inr rfl)) pgs_nil))) (pss_one (ps_if (pt_not (pt_val (pe_callB (cr_all rfl) (by rfl) T.n_all (by decide +kernel) (pa_cons (pe_lc (own := [("one", 7)]) (by rfl) sc_check_never.nd (pi_range1 (by rfl) T.n_range (pa_cons (pe_callB (call_lenNet NC M_len (hr.mono (by first | decide | omega))) (by rfl) T.n_len (by decide +kernel) (pa_cons (pv 0) pa_nil)) pa_nil)) (blkOk_by (own := [("one", 7)]) (N := ["network", "station", "channel", "states", "known", "index", "state", "one"]) (sc := defScope s_check_never) (by decide +kernel)) (fun _ _ _ _ _ => (pg_name (i := 7) sc_check_never.nd rfl (Or.inl rfl))) (fun _ _ _ _ _ => pts_nil) (fun _ _ _ _ _ => (pe_cmp (pc_din (hu1 (hu65 _ rfl)) (pe_cal c_after (hr.mono (by first | decide | omega)) passN (pa_cons (pv 0) (pa_cons (pv 6) (pa_cons (pv 7) pa_nil)))) (pv 4))))) pa_nil)))) (pss_one (ps_raiseE (K := K) rfl (takes_of rfl rfl rfl rfl) X_NoClosedSet (hr.mono (by first | decide | omega)) (pa_cons (pe_op op_add (pe_op op_add (pe_op op_mul pe_int (pe_callB call_lenN (by rfl) T.n_len (by decide +kernel) (pa_cons (pv 3) pa_nil))) pe_int) (pv 5)) pa_nil))) pss_nil)))))))))), ?_⟩
    walk_at "go"
    rcases h with ⟨ho, kE⟩ | ⟨hk, ho, kE⟩ | ⟨hk, hc, ⟨ty, ho, hne⟩, kE⟩
    · exact ⟨a, n, ks, v, u, rfl, N, .inl ⟨ho, kE⟩⟩
    · exact ⟨a, n, ks, v, u, rfl, N, .inr (.inl ⟨hk, ho, kE⟩)⟩
    · refine ⟨a, n, ks, v, u, rfl, N, .inr (.inr ⟨hk, hc, fun H1 e1 => ?_⟩)⟩
      obtain ⟨k1, k2⟩ := ((ho.mono e1).isT : IsT K H1 l ty)
      walk_at "go"
      refine ⟨_, _, _, _, _, rfl, .ty _, k1, kit_ty (kit_int k2).2.2.2, ?_⟩
      walk_at "go"
      have e : (ty == "list") = false := by simp [hne]
      rw [e]
      walk_at "go"
      refine s_raiseE ?_
      walk_at "go"
      exact n_raise X_NoClosedSet.oex fun d H4 _ e4 hd => kE d H4 (e1.trans e4) hd
end
end NX

namespace NX
open PySem PySem.Spec PyProof.Rows L2
open Evl (Ex ex_l ex_t fresh_back)
abbrev s_first_steps : Stmt := top 20
theorem sc_first_steps : FnScope ["network", "most", "found", "waiting", "at", "station", "later"] ["network", "most"] (defScope s_first_steps) := ⟨rfl, rfl, rfl, by decide +kernel, rfl, by decide +kernel, by decide +kernel⟩
abbrev s_TooMany___init__ : Stmt := inClass (top 6) 0
theorem sc_TooMany___init__ : FnScope ["self", "most"] ["self", "most"] (defScope s_TooMany___init__) := ⟨rfl, rfl, rfl, by decide +kernel, rfl, by decide +kernel, by decide +kernel⟩
def spFirst (C CT : Addr) : Sp := fun vs H Q E => ∃ (a : Addr) (n : Nat) (ks : List Pr) (most : Int) (B : List Ent), vs = [.ref a, .int most] ∧ NetAt C H a n ks ∧ Bfs (nb ks) n B ∧ (B.length ≤ 1000000 ∨ most ≤ 1000000) ∧ ((B.length : Int) ≤ most → ∀ p kvs H', H p = none → Ex H H' → H' p = some (.dT kvs) → DV (VF (nw H H') B) B kvs → Q (.ref p) H') ∧
  (most < (B.length : Int) → Thr E CT "most" (.int most) H)
section
variable {P : Program} {w : World} {K : PySem.W.Frag} {mg : Str → Option Value} {base : Heap} {C CT : Addr}
theorem ok_ini_TooMany {P : Program} {w : World} {K : PySem.W.Frag} {mg : Str → Option Value} {base : Heap} {CL C0 : Addr} {f : Addr} {fd : FuncData} (F : Fun K "__init__" "TooMany.__init__" s_TooMany___init__ f fd) (m_ChannelError : mg "ChannelError" = some (.ref C0)) (BC : BaseC K C0) (hno : PySem.W.findIn K (.ref CL) "most" = some none) : FnOk P w K mg base CX0 1 f fd ["self", "most"] (spExInit K CL "most") := by
  refine F.ok sc_TooMany___init__ (fun vs H Q E h => ?_) (fun cdv A outer s H vs Q E hr h => ?_)
  · obtain ⟨a, v, rfl, _⟩ := h
    rfl
  · obtain ⟨a, v, rfl, ha, T, k⟩ := h
    refine ⟨_, (pss_cons (ps_expr (pe_oeinit (K := K) m_ChannelError BC (pa_cons (pv 0) (pa_cons pe_str pa_nil))))
      (pss_one (ps_ost (pv 0) (pv 1) rfl))), ?_⟩
    walk_at "go"
    refine n_vei ?_
    walk_at "go"
    refine ⟨a, CL, _, rfl, by simp, T, ha, ?_⟩
    refine s_ost ?_
    walk_at "go"
    exact ⟨a, CL, rfl, T, hno, .inl ⟨ha, fun dx h1 h2 => k dx h1 h2⟩⟩
theorem ok_first {f : Addr} {fd : FuncData} (F : Fun K "first_steps" "first_steps" s_first_steps f fd) (T : Txt mg) (NC : NetC K C) (M_len : Mth P w K mg base 1 C "__len__" ["self"] (spLen C)) (c_all_off : Cal P w K mg base 3 "all_off" ["network"] [] (spOff C))
    (c_after : Cal P w K mg base 2 "after" ["network", "state", "station"] [] (spAfter C)) (X_TooMany : Exn P w K mg base "TooMany" CT "most") : FnOk P w K mg base (L2.CX P w) 5 f fd ["network", "most"] (spFirst C CT) := by
  refine F.okX sc_first_steps (fun vs H Q E h => ?_) (fun cdv A outer s H vs Q E hr h => ?_)
  · obtain ⟨a, n, ks, most, B, rfl, _⟩ := h
    rfl
  · obtain ⟨a, n, ks, most, B, rfl, N, hB, hz, k, kE⟩ := h
    have hu65 : ∀ X : Cx, X.A = A.deeper (envOfC "first_steps" (defScope s_first_steps) s.heap.objs.size f cdv) → X.A.units + 65 < cLine := fun X e => by rw [e]; have := hr.un; omega
    have hs := N.sz
    refine ⟨_, (pss_cons (ps_set (i := 2) sc_first_steps.nd rfl (Or.inl rfl) (pe_disp1T (hu1 (hu65 _ rfl)) (pe_cal c_all_off (hr.mono (by first | decide | omega)) passN (pa_cons (pv 0) pa_nil)) pe_non))
      (pss_cons (ps_set (i := 3) sc_first_steps.nd rfl (Or.inl rfl) (pe_callTy (call_list_dT rfl) (by rfl) T.n_list (by decide +kernel) (pa_cons (pv 2) pa_nil)))
      (pss_cons (ps_if (pt_cmpR op_lt (pv 1) pe_int (nomark _)) (pss_one (ps_raiseE (K := K) rfl (takes_of rfl rfl rfl rfl) X_TooMany (hr.mono (by first | decide | omega)) (pa_cons (pv 1) pa_nil))) pss_nil)
      (pss_cons (ps_set (i := 4) sc_first_steps.nd rfl (Or.inl rfl) pe_int)
      (pss_cons (ps_while (passes_of rfl) (pt_cmpR op_lt (pv 4) (pe_callB call_lenN (by rfl) T.n_len (by decide +kernel) (pa_cons (pv 3) pa_nil)) (nomark _)) (pss_cons (ps_for (passes_of rfl) rfl (pi_range1 (by rfl) T.n_range (pa_cons (pe_callB (call_lenNet NC M_len (hr.mono (by first | decide | omega))) (by rfl) T.n_len (by decide +kernel) (pa_cons (pv 0) pa_nil)) pa_nil)) (pg_name (i := 5) sc_first_steps.nd rfl (Or.inl rfl)) (pss_cons (ps_set (i := 6) sc_first_steps.nd rfl (Or.inl rfl) (pe_cal c_after (hr.mono (by first | decide | omega)) passN (pa_cons (pv 0) (pa_cons (pe_ix ix_list (pv 3) (pv 4) (fun _ _ => rfl)) (pa_cons (pv 5) pa_nil)))))
      (pss_one (ps_if (pt_cmp (pc_dnotin (hu1 (hu65 _ rfl)) (pv 6) (pv 2))) (pss_cons (ps_if (pt_cmpR op_ge (pe_callB call_len_dT (by rfl) T.n_len (by decide +kernel) (pa_cons (pv 2) pa_nil)) (pv 1) (nomark _)) (pss_one (ps_raiseE (K := K) rfl (takes_of rfl rfl rfl rfl) X_TooMany (hr.mono (by first | decide | omega)) (pa_cons (pv 1) pa_nil))) pss_nil)
      (pss_cons (ps_dput (hu1 (hu65 _ rfl)) (pv 2) (pv 6) (pe_tup (pa_cons (pe_ix ix_list (pv 3) (pv 4) (fun _ _ => rfl)) (pa_cons (pv 5) pa_nil))) rfl)
      (pss_one (ps_expr (pe_bm PySem.F.plainAttrs_list PySem.F.slot_list_append PySem.F.type_list_append mt_append (pv 3) (pa_cons (pv 6) pa_nil)))))) pss_nil))))
      (pss_one (ps_aug (i := 4) sc_first_steps.nd rfl (Or.inl rfl) pe_int ip_add))))
      (pss_one (ps_ret (pv 2)))))))), ?_⟩
    walk_at "go"
    refine g_disp1 fun p hp => ?_
    have S0 := (Own.start H).lay (o := .dT []) hp
    walk_at "go"
    refine ⟨a, n, ks, rfl, N.mono (Ex.new hp), fun t H1 e1 ht => ?_⟩
    walk_at "go"
    obtain ⟨S1, ez, ey⟩ := S0.absorb e1
    have ht1 : StA (cut H1 [(p, HO.dT [])]) t (List.replicate n 0) := ey _ _ (nw_tup' e1 ht)
    generalize cut H1 [(p, HO.dT [])] = G1 at S1 ez ey ht1
    refine n_disp1 S1 (S1.ex _ _ ht1) fun H2 S2 => ?_
    walk_at "go"
    refine ⟨p, _, rfl, .inl S2.get0, fun q bs hq ik => ?_⟩
    obtain ⟨S3, ez3, ey3⟩ := S2.absorb (Ex.refl H2)
    have hx3 : Sts (cut H2 [(p, HO.dT [(keyN (List.replicate n 0), V.non)])]) (bs.map V.ref) ((bfsE (nb ks) n 0).map Ent.st) := by
      cases ik with
      | cons h t =>
        cases t
        refine .cons ⟨_, rfl, ?_⟩ .nil
        rw [keyN_kV] at h
        exact ey3 _ _ (nw_tup' (Ex.refl H2) h)
    generalize cut H2 [(p, HO.dT [(keyN (List.replicate n 0), V.non)])] = G3 at S3 ez3 ey3 hx3
    have S4 := S3.lay (o := .lst (bs.map V.ref)) hq
    generalize bs.map V.ref = xs0 at S4 hx3
    have eG0 : Ex H G3 := fun b u hb => ez3 _ _ (ez _ _ hb)
    have hB1 : 1 ≤ B.length := List.length_pos_iff.mpr hB.okk.ne
    walk_at "go"
    refine if_2 (fun c => ?_) (fun c => ?_)
    · have c := of_decide_eq_true c
      refine s_raiseE ?_
      walk_at "go"
      exact n_raise X_TooMany.oex fun d H5 _ e5 hd => kE (by omega) d H5 ((eG0.trans S4.ex).trans e5) hd
    have c1 := of_decide_eq_false c
    walk_at "go"
    refine s_while (fun m σ' H' => ∃ (m0 : Nat) (xs : List V) (kvs : List (List L2.Key × V)) (G' : Hp) (x5 x6 : Option V), σ' = [some (.ref a), some (.int most), some (.ref p), some (.ref q), some (.int (m0 : Int)), x5, x6] ∧ m = B.length - m0 ∧ m0 ≤ (bfsE (nb ks) n m0).length ∧
      ((bfsE (nb ks) n m0).length : Int) ≤ most ∧ Ex H G' ∧ Own G' [(q, .lst xs), (p, .dT kvs)] H' ∧ Sts G' xs ((bfsE (nb ks) n m0).map Ent.st) ∧ DV (VF G' (bfsE (nb ks) n m0)) (bfsE (nb ks) n m0) kvs) _
      ⟨0, _, _, G3, _, _, rfl, rfl, Nat.zero_le _, (by show ((1 : Nat) : Int) ≤ most; omega), eG0, S4, hx3, .cons ⟨rfl, .inl ⟨rfl, rfl⟩⟩ .nil⟩ ?_
    rintro m σ' H' ⟨m0, xs, kvs, G', x5, x6, rfl, rfl, hm0, hmo, eG, S, hx, hv⟩
    have hxl : xs.length = (bfsE (nb ks) n m0).length := by rw [hx.len, List.length_map]
    walk_at "go"
    refine n_len (SqL.of S.get0) ?_
    walk_at "go"
    rw [hxl]
    refine if_2 (fun c => ?_) (fun c => ?_)
    · have c := of_decide_eq_true c
      have hlt : m0 < (bfsE (nb ks) n m0).length := by omega
      have hltB := hB.lt hlt
      obtain ⟨e, he⟩ : ∃ e, (bfsE (nb ks) n m0)[m0]? = some e := ⟨_, List.getElem?_eq_getElem hlt⟩
      refine s_turn ?_
      walk_at "go"
      refine n_lenNet (N.mono (eG.trans S.ex)) ?_
      walk_at "go"
      refine w_rng1 (j := (n : Int)) (fun j σ' H' => ∃ (xs : List V) (kvs : List (List L2.Key × V)) (G' : Hp) (x5 x6 : Option V), σ' = [some (.ref a), some (.int most), some (.ref p), some (.ref q), some (.int (m0 : Int)), x5, x6] ∧
        ((rowE (nb ks) m0 (bfsE (nb ks) n m0) j).length : Int) ≤ most ∧ Ex H G' ∧ Own G' [(q, .lst xs), (p, .dT kvs)] H' ∧ Sts G' xs ((rowE (nb ks) m0 (bfsE (nb ks) n m0) j).map Ent.st) ∧ DV (VF G' (rowE (nb ks) m0 (bfsE (nb ks) n m0) j)) (rowE (nb ks) m0 (bfsE (nb ks) n m0) j) kvs)
        (by omega) ⟨xs, kvs, G', _, _, rfl, hmo, eG, S, hx, hv⟩ ?_ ?_
      · rintro j σ2 H2 hj ⟨xs, kvs, G', x5, x6, rfl, hmo, eG, S, hx, hv⟩
        have hjn : j < n := by omega
        have hpre := hB.pre hlt (j := j + 1) (by omega)
        rw [rowE_succ] at hpre ⊢
        have he' : (rowE (nb ks) m0 (bfsE (nb ks) n m0) j)[m0]? = some e := pre_get (rowE_pre _ _ _ (Nat.zero_le j)) he
        rw [vis_new he'] at hpre ⊢
        generalize rowE (nb ks) m0 (bfsE (nb ks) n m0) j = R at hmo hx hv hpre he' ⊢
        obtain ⟨y, hy⟩ : ∃ y, xs[m0]? = some y := ⟨_, List.getElem?_eq_getElem (by rw [hx.len, List.length_map]; exact (List.getElem?_eq_some_iff.mp he').1)⟩
        obtain ⟨tq, ns, hns, rfl, htq⟩ := hx.get hy
        have ens : ns = e.st := by
          rw [List.getElem?_map, he'] at hns
          exact (Option.some.inj hns).symm
        subst ens
        have hel : e.st.length = n := (hB.okk.rch e (List.mem_of_getElem? (pre_get ((addE_pre _ _ _ _ _).trans hpre) he'))).len
        have hRl : R.length ≤ 1000000 := by
          have : R.length ≤ B.length := ((addE_pre _ _ _ _ _).trans hpre).length_le
          omega
        walk_at "go"
        refine g_ixL (SqL.of S.get0) (atI_nat (j := m0) hy) ?_
        walk_at "go"
        refine n_after (N.mono (eG.trans S.ex)) (S.ex _ _ htq) hel hjn fun r H5 e5 hr5 => ?_
        obtain ⟨S5, ez5, ey5⟩ := S.absorb e5
        have hr5 := ey5 _ _ (nw_tup' e5 hr5)
        generalize cut H5 [(q, HO.lst xs), (p, HO.dT kvs)] = G5 at S5 ez5 ey5 hr5
        walk_at "go"
        refine g_dnin ?_
        walk_at "go"
        refine n_dninB S5.get1 (S5.ex _ _ hr5) ?_
        rw [hv.isSome]
        refine if_2 (fun cn => ?_) (fun cn => ?_)
        · have cn : sw (nb ks) e.st j ∉ R.map Ent.st := by simpa using cn
          have eadd : addE R (sw (nb ks) e.st j) m0 j (e.l + 1) = R ++ [⟨sw (nb ks) e.st j, m0, j, e.l + 1⟩] := by unfold addE; rw [if_neg cn]
          rw [eadd] at hpre ⊢
          have hlB := hpre.length_le
          rw [List.length_append, List.length_singleton] at hlB
          walk_at "go"
          refine ⟨p, kvs, rfl, S5.get1, ?_⟩
          walk_at "go"
          rw [hv.len]
          refine if_2 (fun cm => ?_) (fun cm => ?_)
          · have cm := of_decide_eq_true cm
            refine s_raiseE ?_
            walk_at "go"
            exact n_raise X_TooMany.oex fun d H6 _ e6 hd => kE (by omega) d H6 (((eG.trans ez5).trans S5.ex).trans e6) hd
          · have cm := of_decide_eq_false cm
            walk_at "go"
            refine s_dput' ?_
            walk_at "go"
            refine g_ixL (SqL.of S5.get0) (atI_nat (j := m0) hy) ?_
            walk_at "go"
            refine n_tup S5 (by show 2 ≤ 10000000; decide) fun t6 G6 H6 _ e6 _ ht6 S6 => ?_
            walk_at "go"
            refine n_dputN S6.swap (S6.ex _ _ (e6 _ _ hr5)) (by rw [hv.len]; exact hRl) fun H7 S7 => ?_
            walk_at "go"
            refine ⟨tyL (SqL.of S7.get1), ?_⟩
            walk_at "go"
            refine n_app1 S7 (by rw [hx.len, List.length_map]; exact hRl) fun H8 S8 => ?_
            walk_at "go"
            have e56 : Ex G' G6 := ez5.trans e6
            refine ⟨_, _, G6, _, _, rfl, by rw [List.length_append, List.length_singleton]; omega, eG.trans e56, S8.swap, ?_, ?_⟩
            · rw [List.map_append]
              exact (hx.mono e56).append (.cons ⟨r, rfl, e6 _ _ hr5⟩ .nil)
            · refine DV.add (hv.imp fun f _ v h => h.mono e56 (List.prefix_append _ _)) cn (.inr ⟨Nat.succ_ne_zero _, t6, tq, e, rfl, ht6, ?_, e56 _ _ htq⟩)
              exact pre_get (List.prefix_append _ _) he'
        · have cn : sw (nb ks) e.st j ∈ R.map Ent.st := by simpa using cn
          have eadd : addE R (sw (nb ks) e.st j) m0 j (e.l + 1) = R := by unfold addE; rw [if_pos cn]
          rw [eadd]
          walk_at "go"
          exact ⟨xs, kvs, G5, _, _, rfl, hmo, eG.trans ez5, S5, hx.mono ez5, hv.imp fun f _ v h => h.mono ez5 (List.prefix_refl _)⟩
      · rintro σ2 H2 ⟨xs, kvs, G', x5, x6, rfl, hmo, eG, S, hx, hv⟩
        walk_at "go"
        have hp1 := (bfsE_pre (nb ks) n (Nat.le_succ m0)).length_le
        exact ⟨B.length - (m0 + 1), by omega, m0 + 1, xs, kvs, G', _, _, rfl, rfl, (by show m0 + 1 ≤ _; have : (bfsE (nb ks) n m0).length ≤ (bfsE (nb ks) n (m0 + 1)).length := hp1; omega), hmo, eG, S, hx, hv⟩
    · have c := of_decide_eq_false c
      have hfin : bfsE (nb ks) n m0 = B := (Bfs.of hm0 (by omega)).uniq hB
      rw [hfin] at hmo hx hv
      walk_at "go"
      refine k hmo p kvs H' hp (eG.trans S.ex) S.get1 (hv.imp fun f _ v h => ?_)
      rcases h with h | ⟨h, p', q', g, e1, e2, e3, e4⟩
      · exact .inl h
      · exact .inr ⟨h, p', q', g, e1, nw_tup' (eG.trans S.ex) (S.ex _ _ e2), e3, nw_tup' (eG.trans S.ex) (S.ex _ _ e4)⟩
end
end NX

namespace NX
/-! ### levels of the search; the way to an entry -/
structure LvS (E : List Ent) (m : Nat) : Prop where
  up : E.Pairwise fun a b => a.l ≤ b.l
  top : ∀ f, E[m]? = some f → ∀ e ∈ E, e.l ≤ f.l + 1
theorem LvS.add {E : List Ent} {m i : Nat} {f : Ent} {s : List Int} (h : LvS E m) (hf : E[m]? = some f) : LvS (addE E s m i (f.l + 1)) m := by
  unfold addE
  split
  · exact h
  · have hm := (List.getElem?_eq_some_iff.mp hf).1
    refine ⟨List.pairwise_append.mpr ⟨h.up, List.pairwise_singleton _ _, fun a ha b hb => ?_⟩, fun g hg e he => ?_⟩
    · rw [List.mem_singleton.mp hb]
      exact h.top f hf a ha
    · rw [List.getElem?_append_left hm, hf] at hg
      cases hg
      rcases List.mem_append.mp he with he | he
      · exact h.top f hf e he
      · rw [List.mem_singleton.mp he]
        exact Nat.le_refl _
theorem LvS.row {nbr : Nbr} {E : List Ent} {m : Nat} (h : LvS E m) : ∀ j, LvS (rowE nbr m E j) m
  | 0 => h
  | j + 1 => by
    rw [rowE_succ]
    have ih := h.row (nbr := nbr) j
    unfold visE
    split
    · exact ih
    · rename_i e he
      exact ih.add he
theorem bfs_lv (nbr : Nbr) (n : Nat) : ∀ m, LvS (bfsE nbr n m) m
  | 0 => ⟨by simp [bfsE], fun f hf e he => by
      rw [List.mem_singleton.mp he]
      exact Nat.zero_le _⟩
  | m + 1 => by
    have ih := (bfs_lv nbr n m).row (nbr := nbr) n
    refine ⟨ih.up, fun g hg e he => ?_⟩
    have hg' : (rowE nbr m (bfsE nbr n m) n)[m + 1]? = some g := hg
    have hl := (List.getElem?_eq_some_iff.mp hg').1
    have hf : (rowE nbr m (bfsE nbr n m) n)[m]? = some (rowE nbr m (bfsE nbr n m) n)[m] := List.getElem?_eq_getElem (by omega)
    have h1 := ih.top _ hf e he
    have h2 := (List.pairwise_iff_getElem.mp ih.up) m (m + 1) (by omega) hl (Nat.lt_succ_self m)
    have h3 : (rowE nbr m (bfsE nbr n m) n)[m + 1] = g := (List.getElem?_eq_some_iff.mp hg').2
    rw [h3] at h2
    omega
theorem Bfs.up {nbr : Nbr} {n : Nat} {E : List Ent} (h : Bfs nbr n E) : E.Pairwise fun a b => a.l ≤ b.l := by
  obtain ⟨m, rfl, _⟩ := h
  exact (bfs_lv nbr n m).up
/-- the stations on the way back from e -/
inductive Pth (E : List Ent) : Ent → List Nat → Prop
  | z {e : Ent} : e.l = 0 → Pth E e []
  | s {e f : Ent} {is : List Nat} : e.l ≠ 0 → E[e.p]? = some f → Pth E f is → Pth E e (e.i :: is)
theorem Pth.uniq {E : List Ent} {e : Ent} {is js : List Nat} (h : Pth E e is) (g : Pth E e js) : is = js := by
  induction h generalizing js with
  | z h0 =>
    cases g with
    | z _ => rfl
    | s h1 _ _ => exact absurd h0 h1
  | s h0 hf _ ih =>
    cases g with
    | z h1 => exact absurd h1 h0
    | s _ hg r =>
      rw [hf] at hg
      cases hg
      rw [ih r]
theorem Okk.l0 {nbr : Nbr} {n : Nat} {E : List Ent} (h : Okk nbr n E) {k : Nat} {e : Ent} (hk : E[k]? = some e) (h0 : e.l = 0) : e.st = List.replicate n 0 := by
  rcases h.lv k e hk with ⟨_, r⟩ | ⟨_, _, _, f, _, _, q⟩
  · rw [r]
  · omega
theorem Okk.ls {nbr : Nbr} {n : Nat} {E : List Ent} (h : Okk nbr n E) {k : Nat} {e : Ent} (hk : E[k]? = some e) (h0 : e.l ≠ 0) : e.p < k ∧ e.i < n ∧ ∃ f, E[e.p]? = some f ∧ e.st = sw nbr f.st e.i ∧ e.l = f.l + 1 := by
  rcases h.lv k e hk with ⟨_, r⟩ | ⟨_, a, b, c⟩
  · rw [r] at h0; exact absurd rfl h0
  · exact ⟨a, b, c⟩
theorem Pth.ex {nbr : Nbr} {n : Nat} {E : List Ent} (h : Okk nbr n E) : ∀ (k : Nat) {e : Ent}, E[k]? = some e → ∃ is, Pth E e is := by
  intro k
  induction k using Nat.strongRecOn with
  | ind k ih =>
    intro e hk
    by_cases h0 : e.l = 0
    · exact ⟨[], .z h0⟩
    · obtain ⟨a, _, f, hf, _, _⟩ := h.ls hk h0
      obtain ⟨is, r⟩ := ih e.p a hf
      exact ⟨_, .s h0 hf r⟩
theorem Pth.facts {nbr : Nbr} {n : Nat} {E : List Ent} (h : Okk nbr n E) {e : Ent} {is : List Nat} (p : Pth E e is) : ∀ {k : Nat}, E[k]? = some e → is.length = e.l ∧ (∀ i ∈ is, i < n) ∧ is.foldr (fun i s => sw nbr s i) (List.replicate n 0) = e.st := by
  induction p with
  | z h0 => intro k hk; exact ⟨h0.symm, fun i hi => absurd hi (by simp), (h.l0 hk h0).symm⟩
  | @s e f is h0 hf _ ih =>
    intro k hk
    obtain ⟨_, b, g, hg, c, d⟩ := h.ls hk h0
    rw [hf] at hg
    cases hg
    obtain ⟨i1, i2, i3⟩ := ih hf
    refine ⟨by rw [List.length_cons, i1, d], fun i hi => ?_, by rw [List.foldr_cons, i3, c]⟩
    rcases List.mem_cons.mp hi with rfl | hi
    · exact b
    · exact i2 i hi
theorem Okk.lk {nbr : Nbr} {n : Nat} {E : List Ent} (h : Okk nbr n E) : ∀ (k : Nat) {e : Ent}, E[k]? = some e → e.l ≤ k := by
  intro k
  induction k using Nat.strongRecOn with
  | ind k ih =>
    intro e hk
    by_cases h0 : e.l = 0
    · omega
    · obtain ⟨a, _, f, hf, _, q⟩ := h.ls hk h0
      have := ih e.p a hf
      omega
/-- the entries where station i has channel c -/
def selE (B : List Ent) (i : Nat) (c : Int) : List Ent := B.filter fun e => decide (tv e.st (i : Int) = c)
theorem selE_in {B : List Ent} {i : Nat} {c : Int} {e : Ent} (h : e ∈ selE B i c) : e ∈ B ∧ tv e.st (i : Int) = c := by
  obtain ⟨a, b⟩ := List.mem_filter.mp h
  exact ⟨a, of_decide_eq_true b⟩
theorem selE_min {nbr : Nbr} {n : Nat} {B : List Ent} (h : Bfs nbr n B) {i : Nat} {c : Int} {e : Ent} {r : List Ent} (q : selE B i c = e :: r) : ∀ f ∈ selE B i c, e.l ≤ f.l := by
  have u : (selE B i c).Pairwise fun a b => a.l ≤ b.l := h.up.filter _
  rw [q] at u ⊢
  intro f hf
  rcases List.mem_cons.mp hf with rfl | hf
  · exact Nat.le_refl _
  · exact (List.pairwise_cons.mp u).1 f hf
end NX

namespace NX
open PySem PySem.Spec PyProof.Rows L2
open Evl (Ex ex_l ex_t fresh_back)
/-! ### for k in a new dict whose keys are tuples -/
theorem Own.frz {G H : Hp} {L : List (Addr × HO)} {d : Addr} {o : HO} (S : Own G ((d, o) :: L) H) (u : HO) : Own (upd G d u) L (upd H d u) ∧ Ex G (upd G d u) ∧ upd G d u d = some u := by
  have ne : ∀ x ∈ L, x.1 ≠ d := fun x hx z => S.nin (z ▸ List.mem_map_of_mem hx)
  refine ⟨⟨fun a v h => ?_, fun x hx => ?_, S.forget.nd, S.forget.nt⟩, fun a v h => ?_, upd_same⟩
  · by_cases e : a = d
    · subst e
      rw [upd_same] at h ⊢
      exact h
    · rw [upd_ne e] at h ⊢
      exact S.ex _ _ h
  · rw [upd_ne (ne x hx), upd_ne (ne x hx)]
    exact S.at_ x (List.mem_cons_of_mem _ hx)
  · have e : a ≠ d := ne_of_none h S.no0
    rw [upd_ne e]
    exact h
section
variable {σ : L2.St} {G H : Hp} {L : List (Addr × HO)} {te : TE} {tt : TT} {tb : TS} {g : TG} {vs : List Nat} {Q : VK} {n b c : L2.St → Hp → Prop} {rt : VK} {d : Addr} {o : Obj} {kvs : List (List L2.Key × V)}
theorem g_keysF {td : TE} {R : It → Hp → Prop} (k : td σ H fun x H1 => ∃ d kvs, x = .ref d ∧ H1 d = some (.dT kvs) ∧ ∀ o, R (Itkt d o kvs) (upd H1 d (.frz o (.dT kvs)))) : iKeysF td σ H R := k
theorem n_keysF {D : Ends} (S : Own G ((d, .dT kvs) :: L) H) (k : ∀ o G1 H1, Ex G G1 → G1 d = some (.frz o (.dT kvs)) → Own G1 L H1 → FORJ (Itkt d o kvs) g tb D σ H1) : ∃ d' kvs', V.ref d = .ref d' ∧ H d' = some (.dT kvs') ∧ ∀ o, FORJ (Itkt d' o kvs') g tb D σ (upd H d' (.frz o (.dT kvs'))) :=
  ⟨d, kvs, rfl, S.get0, fun o => k o _ _ (S.frz _).2.1 (S.frz _).2.2 (S.frz _).1⟩
theorem n_keysL (S : Own G ((d, .dT kvs) :: L) H) (k : ∀ o G1 H1, Ex G G1 → G1 d = some (.frz o (.dT kvs)) → Own G1 L H1 → LCJ (Itkt d o kvs) g tt te vs σ H1 Q) : ∃ d' kvs', V.ref d = .ref d' ∧ H d' = some (.dT kvs') ∧ ∀ o, LCJ (Itkt d' o kvs') g tt te vs σ (upd H d' (.frz o (.dT kvs'))) Q :=
  ⟨d, kvs, rfl, S.get0, fun o => k o _ _ (S.frz _).2.1 (S.frz _).2.2 (S.frz _).1⟩
theorem w_keysT (Pv : Nat → L2.St → Hp → Prop) (h0 : Pv 0 σ H) (hl : ∀ i σ H, Pv i σ H → H d = some (.frz o (.dT kvs)))
    (hs : ∀ i k v q σ H, kvs[i]? = some (k, v) → H q = some (.tup (k.map kV)) → Pv i σ H → g (.ref q) σ H fun σ2 H2 => tb ⟨Pv (i + 1), rt, n, Pv (i + 1)⟩ σ2 H2) (hd : ∀ σ H, Pv kvs.length σ H → n σ H) :
    FORJ (Itkt d o kvs) g tb ⟨n, rt, b, c⟩ σ H := by
  refine ⟨fun i m σ H => m = kvs.length - i ∧ i ≤ kvs.length ∧ Pv i σ H, ⟨kvs.length, by simp, Nat.zero_le _, h0⟩, ?_⟩
  rintro i m σ H ⟨rfl, hi, p⟩
  have q := hl i σ H p
  by_cases hlt : i < kvs.length
  · refine .inr ⟨⟨q, hlt⟩, Pv (i + 1), fun σ' H' p' => ⟨kvs.length - (i + 1), by omega, rfl, hlt, p'⟩, fun x H' y => ?_⟩
    obtain ⟨rfl, k, v, a, h1, rfl, h2⟩ := y
    exact hs i k v a σ _ h1 h2 p
  · have e : i = kvs.length := by omega
    subst e
    exact .inl ⟨⟨q, Nat.le_refl _⟩, hd _ _ p⟩
theorem v_keysT (F : Nat → List V → Hp → List (Addr × HO) → Prop) (S : Own G L H) (hx : G d = some (.frz o (.dT kvs))) (hz : kvs.length ≤ 1000000) (h0 : F 0 [] G L)
    (hs : ∀ D i k v q acc G1 L1 H1, kvs[i]? = some (k, v) → H1 q = some (.tup (k.map kV)) → i < 1000000 → Ex G G1 → acc.length ≤ i → F i acc G1 L1 → Own G1 ((D, .lst acc) :: L1) H1 → g (.ref q) (wipe σ vs) H1 fun σ2 H2 => wipe σ2 vs = wipe σ vs ∧ tt σ2 H2 fun b H3 =>
      if b = true then te σ2 H3 fun y H4 => CE G D F i y H4 else CP G D F (i + 1) H3)
    (hd : ∀ p acc G1 L1 H1, Ex G G1 → acc.length ≤ kvs.length → F kvs.length acc G1 L1 → Own G1 ((p, .lst acc) :: L1) H1 → Q (.ref p) H1) :
    LCJ (Itkt d o kvs) g tt te vs σ H Q := by
  intro D hD
  refine ⟨fun i m H => m = kvs.length - i ∧ i ≤ kvs.length ∧ CP G D F i H, ⟨kvs.length, by simp, Nat.zero_le _, [], G, L, Ex.refl G, Nat.le_refl _, h0, S.lay hD⟩, ?_⟩
  rintro i m H1 ⟨rfl, hi, p⟩
  obtain ⟨acc, G1, L1, e, hl, f, S1⟩ := p
  have q := S1.ex _ _ (e _ _ hx)
  by_cases hlt : i < kvs.length
  · refine .inr ⟨⟨q, hlt⟩, CP G D F (i + 1), fun H' p' => ⟨kvs.length - (i + 1), by omega, rfl, hlt, p'⟩, fun x H' y => ?_⟩
    obtain ⟨rfl, k, v, a, h1, rfl, h2⟩ := y
    exact hs D i k v a acc G1 L1 _ h1 h2 (by omega) e hl f S1
  · have ei : i = kvs.length := by omega
    subst ei
    exact .inl ⟨⟨q, Nat.le_refl _⟩, hd D acc G1 L1 H1 e hl f S1⟩
end
/-! ### lists of states compared -/
def pdN (ns : List Int) : PyData := .tuple (ns.map .int)
theorem dpN_ints {K : PySem.W.Frag} {H : Hp} : ∀ ns : List Int, DpAll K H (ns.map V.int) (ns.map .int)
  | [] => .nil
  | n :: ns => .cons (.int _) (dpN_ints ns)
theorem dp_sts {K : PySem.W.Frag} {H : Hp} : ∀ {xs : List V} {L : List (List Int)}, Sts H xs L → DpAll K H xs (L.map pdN)
  | _, _, .nil => .nil
  | _, _, .cons r t => by
    obtain ⟨u, rfl, hu⟩ := r
    exact .cons (.tup (SqT.of hu) (dpN_ints _)) (dp_sts t)
theorem layN_int : ∀ ns : List Int, PyData.canLayAll0 (ns.map .int) = true
  | [] => by rw [List.map_nil]; unfold PyData.canLayAll0; rfl
  | n :: ns => by
    rw [List.map_cons]
    unfold PyData.canLayAll0
    rw [layN_int ns]
    show (PyData.canLay0 (.int n) && true) = true
    simp [PyData.canLay0]
theorem depthN_int : ∀ ns : List Int, PyData.depthAll (ns.map .int) ≤ 1
  | [] => by rw [List.map_nil]; unfold PyData.depthAll; omega
  | n :: ns => by
    rw [List.map_cons]
    unfold PyData.depthAll
    have := depthN_int ns
    have h : PyData.depth (.int n) ≤ 1 := by simp [PyData.depth]
    omega
theorem lay_sts : ∀ L : List (List Int), PyData.canLayAll0 (L.map pdN) = true
  | [] => by rw [List.map_nil]; unfold PyData.canLayAll0; rfl
  | n :: L => by
    rw [List.map_cons]
    unfold PyData.canLayAll0
    rw [lay_sts L]
    show (PyData.canLay0 (.tuple (n.map .int)) && true) = true
    simp only [PyData.canLay0, layN_int, Bool.and_self]
theorem depth_sts : ∀ L : List (List Int), PyData.depthAll (L.map pdN) ≤ 2
  | [] => by rw [List.map_nil]; unfold PyData.depthAll; omega
  | n :: L => by
    rw [List.map_cons]
    unfold PyData.depthAll
    have := depth_sts L
    have h : PyData.depth (pdN n) ≤ 2 := by
      unfold pdN
      simp only [PyData.depth]
      have := depthN_int n
      omega
    omega
theorem shaped_sts (L : List (List Int)) : SeqAt.shaped (.list (L.map pdN)) = true := by
  unfold SeqAt.shaped
  have h := depth_sts L
  rw [Bool.and_eq_true]
  refine ⟨?_, decide_eq_true ?_⟩
  · simp only [PyData.canLay0]
    exact lay_sts L
  · simp only [PyData.depth]
    omega
theorem eqvN_ints : ∀ a b : List Int, PyData.eqvAll (a.map .int) (b.map .int) = decide (a = b)
  | [], [] => by simp [PyData.eqvAll]
  | [], _ :: _ => by simp [PyData.eqvAll]
  | _ :: _, [] => by simp [PyData.eqvAll]
  | x :: a, y :: b => by
    rw [List.map_cons, List.map_cons, PyData.eqvAll, eqvN_ints a b]
    simp only [PyData.eqv, List.cons.injEq]
    rw [Bool.eq_iff_iff]
    simp
theorem eqv_sts : ∀ a b : List (List Int), PyData.eqvAll (a.map pdN) (b.map pdN) = decide (a = b)
  | [], [] => by simp [PyData.eqvAll]
  | [], _ :: _ => by simp [PyData.eqvAll]
  | _ :: _, [] => by simp [PyData.eqvAll]
  | x :: a, y :: b => by
    rw [List.map_cons, List.map_cons, PyData.eqvAll, eqv_sts a b]
    unfold pdN
    rw [PyData.eqv, eqvN_ints]
    rw [Bool.eq_iff_iff]
    simp
theorem n_eqS {K : PySem.W.Frag} {H : Hp} {c d : Addr} {A B : List (List Int)} {x y : List V} {Q : VK} (h1 : SqL K H c x) (h2 : SqL K H d y) (l1 : Sts H x A) (l2 : Sts H y B) (k : Q (.bl (decide (A = B))) H) : rEqD K (.ref c) (.ref d) H Q :=
  ⟨_, _, .lst h1 (dp_sts l1), .lst h2 (dp_sts l2), shaped_sts A, shaped_sts B, by rw [PyData.eqv, eqv_sts]; exact k⟩
theorem n_neS {K : PySem.W.Frag} {H : Hp} {c d : Addr} {A B : List (List Int)} {x y : List V} {Q : VK} (h1 : SqL K H c x) (h2 : SqL K H d y) (l1 : Sts H x A) (l2 : Sts H y B) (k : Q (.bl (!decide (A = B))) H) : rNeD K (.ref c) (.ref d) H Q :=
  ⟨_, _, .lst h1 (dp_sts l1), .lst h2 (dp_sts l2), shaped_sts A, shaped_sts B, by rw [PyData.eqv, eqv_sts]; exact k⟩
/-- l.extend(b) -/
theorem n_extS {G H : Hp} {L : List (Addr × HO)} {l b : Addr} {xs zs : List V} {Q : VK} (S : Own G ((b, .lst zs) :: (l, .lst xs) :: L) H) (hz : xs.length + zs.length ≤ 1000000) (k : ∀ H1, Own G ((b, .lst zs) :: (l, .lst (xs ++ zs)) :: L) H1 → Q .non H1) : rExtend (.ref l) [.ref b] H Q :=
  ⟨l, b, xs, zs, rfl, rfl, S.get1, S.get0, small (by omega), k _ S.put1⟩
theorem s_glst {K : PySem.W.Frag} {m : Nat} {t : TGs} {a : Addr} {xs : List V} {σ : L2.St} {H : Hp} {Q : L2.St → Hp → Prop} (h : SqL K H a xs) (e : xs.length = m) (k : t xs σ H Q) : gLst K m t (.ref a) σ H Q := ⟨a, xs, rfl, h, e, k⟩
end NX

namespace NX
open PySem PySem.Spec PyProof.Rows L2
open Evl (Ex ex_l ex_t fresh_back)
/-! ### a dict that is locked while it is walked -/
theorem Own.unlock {G H : Hp} {L : List (Addr × HO)} {d : Addr} {o : Obj} {u : HO} (S : Own G L H) (h : G d = some (.frz o u)) (ht : noTup u = true := by rfl) : Own (cut G [(d, u)]) ((d, u) :: L) (upd H d u) := by
  have ne : ∀ x ∈ L, x.1 ≠ d := fun x hx z => by
    have := (S.at_ x hx).1
    rw [z, h] at this
    cases this
  refine ⟨fun a v e => ?_, fun x hx => ?_, ?_, fun x hx => ?_⟩
  · by_cases q : a = d
    · subst q
      rw [cut_in (by simp)] at e
      cases e
    · rw [cut_out (by simpa using q)] at e
      rw [upd_ne q]
      exact S.ex _ _ e
  · rcases List.mem_cons.mp hx with rfl | hx
    · exact ⟨cut_in (by simp), upd_same⟩
    · rw [upd_ne (ne x hx), cut_out (by simpa using ne x hx)]
      exact S.at_ x hx
  · rw [List.map_cons, List.nodup_cons]
    refine ⟨fun m => ?_, S.nd⟩
    obtain ⟨x, hx, z⟩ := List.mem_map.mp m
    exact ne x hx z
  · rcases List.mem_cons.mp hx with rfl | hx
    · exact ht
    · exact S.nt x hx
theorem cut_ex {G G' : Hp} {d : Addr} {u : HO} (e : Ex G G') (h : G d = none) : Ex G (cut G' [(d, u)]) := fun a v q => by
  have : a ≠ d := ne_of_none q h
  rw [cut_out (by simpa using this)]
  exact e _ _ q
theorem cut_get {G : Hp} {d a : Addr} {o : Obj} {u w v : HO} (h : G d = some (.frz o w)) (e : G a = some v) (n : ∀ o w, v ≠ .frz o w) : cut G [(d, u)] a = some v := by
  have : a ≠ d := fun z => by
    subst z
    rw [h] at e
    cases e
    exact n _ _ rfl
  rw [cut_out (by simpa using this)]
  exact e
theorem Sts.cut {G : Hp} {d : Addr} {o : Obj} {u w : HO} (h : G d = some (.frz o w)) {xs : List V} {L : List (List Int)} (s : Sts G xs L) : Sts (cut G [(d, u)]) xs L := by
  induction s with
  | nil => exact .nil
  | cons r _ ih => obtain ⟨t, e1, e2⟩ := r; exact .cons ⟨t, e1, cut_get h e2 (fun _ _ z => by cases z)⟩ ih
section
variable {σ : L2.St} {G H : Hp} {L : List (Addr × HO)} {te : TE} {ts : TS} {Q : VK} {n b c : L2.St → Hp → Prop} {rt : VK} {d : Addr} {kvs : List (List L2.Key × V)}
theorem g_keys {td : TE} {R : It → Hp → Prop} (k : td σ H fun x H1 => ∃ d o, x = .ref d ∧ ((∃ kvs, H1 d = some (.frz o (.dK kvs)) ∧ R (Itk d o kvs) H1) ∨ ∃ kvs, H1 d = some (.frz o (.dT kvs)) ∧ R (Itkt d o kvs) H1)) : iKeys td σ H R := k
theorem n_keysR {o : Obj} {R : It → Hp → Prop} (h : H d = some (.frz o (.dT kvs))) (k : R (Itkt d o kvs) H) : ∃ d' o', V.ref d = .ref d' ∧ ((∃ kvs', H d' = some (.frz o' (.dK kvs')) ∧ R (Itk d' o' kvs') H) ∨ ∃ kvs', H d' = some (.frz o' (.dT kvs')) ∧ R (Itkt d' o' kvs') H) :=
  ⟨d, o, rfl, .inr ⟨kvs, h, k⟩⟩
/-- the dict at the head of L is locked for an expression | a statement -/
theorem n_lockE (S : Own G ((d, .dT kvs) :: L) H) (k : ∀ o G1 H1, Ex G G1 → G1 d = some (.frz o (.dT kvs)) → Own G1 L H1 → ∀ Q' : VK, (∀ v G2 L2 H2, Ex G1 G2 → Own G2 L2 H2 → (Own (cut G2 [(d, .dT kvs)]) ((d, .dT kvs) :: L2) (upd H2 d (.dT kvs)) → Q v (upd H2 d (.dT kvs))) → Q' v H2) → te σ H1 Q') : tLockE te σ H Q :=
  ⟨d, .dT kvs, S.get0, True.intro, fun od => k od _ _ (S.frz _).2.1 (S.frz _).2.2 (S.frz _).1 _ fun v G2 L2 H2 e S2 q => ⟨S2.ex _ _ (e _ _ (S.frz _).2.2), q (S2.unlock (e _ _ (S.frz _).2.2))⟩⟩
theorem n_lockS (S : Own G ((d, .dT kvs) :: L) H) (k : ∀ o G1 H1, Ex G G1 → G1 d = some (.frz o (.dT kvs)) → Own G1 L H1 → ∀ (n' : L2.St → Hp → Prop) (rt' : VK) (b' c' : L2.St → Hp → Prop), (∀ σ2 G2 L2 H2, Ex G1 G2 → Own G2 L2 H2 → (Own (cut G2 [(d, .dT kvs)]) ((d, .dT kvs) :: L2) (upd H2 d (.dT kvs)) → n σ2 (upd H2 d (.dT kvs))) → n' σ2 H2) → ts ⟨n', rt', b', c'⟩ σ H1) : tLock ts ⟨n, rt, b, c⟩ σ H :=
  ⟨d, .dT kvs, S.get0, True.intro, fun od => k od _ _ (S.frz _).2.1 (S.frz _).2.2 (S.frz _).1 _ _ _ _ fun σ2 G2 L2 H2 e S2 q => ⟨S2.ex _ _ (e _ _ (S.frz _).2.2), q (S2.unlock (e _ _ (S.frz _).2.2))⟩⟩
end
end NX

namespace NX
open PySem PySem.Spec PyProof.Rows L2
open Evl (Ex ex_l ex_t fresh_back)
def rRev (K : PySem.W.Frag) (x : V) (H1 : Hp) (Q : VK) : Prop := ∃ a xs, x = .ref a ∧ SqL K H1 a xs ∧ ∀ p, H1 p = none → Q (.ref p) (upd H1 p (.lst xs.reverse))
section
variable {K : PySem.W.Frag} {σ : L2.St} {G H : Hp} {L : List (Addr × HO)} {te : TE} {Q : VK}
theorem g_rev (k : te σ H fun x H1 => rRev K x H1 Q) : tRevL K te σ H Q := k
theorem n_rev {a : Addr} {xs : List V} (S : Own G L H) (h : SqL K H a xs) (k : ∀ p H1, H p = none → Own G ((p, .lst xs.reverse) :: L) H1 → Q (.ref p) H1) : rRev K (.ref a) H Q :=
  ⟨a, xs, rfl, h, fun p hp => k p _ hp (S.lay hp)⟩
theorem n_revG {a : Addr} {xs : List V} (S : Own G L H) (h : SqL K H a xs) (k : ∀ p G1 H1, H p = none → Ex G G1 → Ex H H1 → G1 p = some (.lst xs.reverse) → Own G1 L H1 → Q (.ref p) H1) : rRev K (.ref a) H Q :=
  ⟨a, xs, rfl, h, fun p hp => k p _ _ hp (S.still hp).2.1 (Ex.new hp) (S.still hp).2.2 (S.still hp).1⟩
end
/-- d[t], d locked -/
theorem n_dgetF {H : Hp} {p t : Addr} {o : Obj} {kvs : List (List L2.Key × V)} {st : List Int} {v : V} {R : V → Prop} (h : H p = some (.frz o (.dT kvs))) (ht : StA H t st) (e : valV kvs (keyN st) = some v) (k : R v) : ∃ a v', V.ref p = .ref a ∧ DGet H a (.ref t) (some v') ∧ R v' :=
  ⟨p, v, rfl, .inr ⟨kvs, keyN st, t, .inr ⟨o, h⟩, rfl, by rw [keyN_kV]; exact ht, e.symm⟩, k⟩
theorem VF.tup {G G' : Hp} {E : List Ent} {e : Ent} {v : V} (h : VF G E e v) (i : ∀ t xs, G t = some (.tup xs) → G' t = some (.tup xs)) : VF G' E e v := by
  rcases h with h | ⟨h, p, q, f, a, b, c, d⟩
  · exact .inl h
  · exact .inr ⟨h, p, q, f, a, i _ _ b, c, i _ _ d⟩
theorem DV.at_ {R : Ent → V → Prop} {E : List Ent} {kvs : List (List L2.Key × V)} (h : DV R E kvs) {i : Nat} {k : List L2.Key} {v : V} (e : kvs[i]? = Option.some (k, v)) : ∃ f, E[i]? = Option.some f ∧ k = keyN f.st ∧ R f v := by
  obtain ⟨f, hf, a, b⟩ := pr_get h e
  exact ⟨f, hf, a, b⟩
end NX

namespace NX
open PySem PySem.Spec PyProof.Rows L2
open Evl (Ex ex_l ex_t fresh_back)
/-! ### what is new behind a call -/
theorem paired_snoc {α β : Type} {R : α → β → Prop} {xs : List α} {ys : List β} {x : α} {y : β} (h : Paired R xs ys) (e : R x y) : Paired R (xs ++ [x]) (ys ++ [y]) := by
  induction h with
  | nil => exact .cons e .nil
  | cons h _ ih => exact .cons h ih
theorem nw_ext {G H H' : Hp} (e : Ex H H') : Ex (nw G H) (nw G H') := fun a u h => by
  cases q : G a with
  | none => rw [nw_new q] at h; rw [nw_new q]; exact e _ _ h
  | some o =>
    cases t : noTup o with
    | true => unfold nw at h; rw [q] at h; simp [t] at h
    | false => rw [nw_tup q t] at h; rw [nw_tup q t]; exact e _ _ h
theorem nw_le {G H H' G' : Hp} (e : Ex G H) (e2 : Ex (nw H H') G') : Ex (nw H H') (nw G G') := fun a u h => by
  have h2 := e2 _ _ h
  cases q : G a with
  | none => rw [nw_new q]; exact h2
  | some o =>
    cases t : noTup o with
    | true => unfold nw at h; rw [e _ _ q] at h; simp [t] at h
    | false => rw [nw_tup q t]; exact h2
theorem Own.backN {G G' H : Hp} {L : List (Addr × HO)} {p : Addr} {o : HO} (S : Own G ((p, o) :: L) H) (e : Ex (cut H [(p, o)]) G') : Ex (nw (cut H [(p, o)]) G') (cut G' L) := fun a u h => by
  have m : a ∉ L.map Prod.fst := fun m => by
    obtain ⟨x, hx, z⟩ := List.mem_map.mp m
    have ne : x.1 ≠ p := fun z => S.nin (z ▸ List.mem_map_of_mem hx)
    have y := (S.at_ x (List.mem_cons_of_mem _ hx)).2
    have y2 : cut H [(p, o)] a = some x.2 := by rw [← z, cut_out (by simpa using ne)]; exact y
    have n := S.forget.nt x hx
    unfold nw at h
    rw [y2] at h
    simp [n] at h
  rw [cut_out m]
  cases q : cut H [(p, o)] a with
  | none => rw [nw_new q] at h; exact h
  | some u' =>
    cases t : noTup u' with
    | true => unfold nw at h; rw [q] at h; simp [t] at h
    | false => rw [nw_tup q t] at h; exact h
theorem nw_sub {H H' : Hp} : Ex (nw H H') H' := fun a u h => by
  cases q : H a with
  | none => rw [nw_new q] at h; exact h
  | some o =>
    cases t : noTup o with
    | true => unfold nw at h; rw [q] at h; simp [t] at h
    | false => rw [nw_tup q t] at h; exact h
end NX

namespace NX
open PySem PySem.Spec PyProof.Rows L2
open Evl (Ex ex_l ex_t fresh_back)
abbrev s_fewest : Stmt := top 23
theorem sc_fewest : FnScope ["network", "station", "channel", "most", "found", "some", "steps", "state", "one"] ["network", "station", "channel", "most"] (defScope s_fewest) := ⟨rfl, rfl, rfl, by decide +kernel, rfl, by decide +kernel, by decide +kernel⟩
/-- what fewest tells: the word, the list's items -/
def FewXs (G : Hp) (B : List Ent) (i : Nat) (c : Int) (wrd : Str) (xs : List V) : Prop :=
  (selE B i c = [] ∧ wrd = "never" ∧ ∃ L', Sts G xs L' ∧ L'.Perm (B.map Ent.st) ∧ Asc L') ∨ (∃ e r is, selE B i c = e :: r ∧ wrd = "steps" ∧ Pth B e is ∧ xs = (is.reverse.map fun (k : Nat) => V.int (k : Int)))
def spFewS (C CS CC CT : Addr) : Sp := fun vs H Q E => ∃ (a : Addr) (n : Nat) (ks : List Pr) (v u : V) (most : Int), vs = [.ref a, v, u, .int most] ∧ NetAt C H a n ks ∧ ((OddSt H n v ∧ Thr E CS "station" v H) ∨ (OkSt n v ∧ OddCh H u ∧ Thr E CC "channel" u H) ∨
  ∃ (i : Nat) (c : Int) (B : List Ent), v = .int (i : Int) ∧ i < n ∧ u = .int c ∧ 1 ≤ c ∧ Bfs (nb ks) n B ∧ (B.length ≤ 1000000 ∨ most ≤ 1000000) ∧ (most < (B.length : Int) → Thr E CT "most" (.int most) H) ∧
    ((B.length : Int) ≤ most → ∀ p q wrd xs H', H p = none → H q = none → p ≠ q → Ex H H' → H' p = some (.tup [.str wrd, .ref q]) → H' q = some (.lst xs) → FewXs (nw H H') B i c wrd xs → Q (.ref p) H'))
section
variable {P : Program} {w : World} {K : PySem.W.Frag} {mg : Str → Option Value} {base : Heap} {C CS CC CT : Addr}
theorem ok_fews {f : Addr} {fd : FuncData} (F : FunD K "fewest" "fewest" (defArgs s_fewest) (defBody s_fewest) (defScope s_fewest) [] [("most", .int 1000)] f fd) (T : Txt mg)
    (c_check_wanted : Cal P w K mg base 4 "check_wanted" ["network", "station", "channel"] [] (spWanted C CS CC)) (c_first_steps : Cal P w K mg base 5 "first_steps" ["network", "most"] [] (spFirst C CT)) : FnOk P w K mg base (L2.CX P w) 6 f fd ["network", "station", "channel", "most"] (spFewS C CS CC CT) := by
  refine F.ok sc_fewest (fun vs H Q E h => ?_) (fun cdv A outer s H vs Q E hr h => ?_)
  · obtain ⟨a, n, ks, v, u, most, rfl, _⟩ := h
    rfl
  · obtain ⟨a, n, ks, v, u, most, rfl, N, h⟩ := h
    have hu65 : ∀ X : Cx, X.A = A.deeper (envOfC "fewest" (defScope s_fewest) s.heap.objs.size f cdv) → X.A.units + 65 < cLine := fun X e => by rw [e]; have := hr.un; omega
    refine ⟨_, (pss_cons (ps_expr (pe_cal c_check_wanted (hr.mono (by first | decide | omega)) (passE (takes_of rfl rfl rfl rfl) fun _ _ _ _ z => z) (pa_cons (pv 0) (pa_cons (pv 1) (pa_cons (pv 2) pa_nil)))))
      (pss_cons (ps_set (i := 4) sc_fewest.nd rfl (Or.inl rfl) (pe_cal c_first_steps (hr.mono (by first | decide | omega)) (passE (takes_of rfl rfl rfl rfl) fun _ _ _ _ z => z) (pa_cons (pv 0) (pa_cons (pv 3) pa_nil))))
      (pss_cons (ps_setLc (i := 5) (own := [("state", 7)]) (by rfl) sc_fewest.nd rfl rfl (sw_true rfl rfl rfl (by decide +kernel)) (pi_keysF (pv 4)) (blkOk_by (own := [("state", 7)]) (N := ["network", "station", "channel", "most", "found", "some", "steps", "state", "one"]) (sc := defScope s_fewest) (by decide +kernel)) (fun _ _ _ _ _ => (pg_name (i := 7) sc_fewest.nd rfl (Or.inl rfl))) (fun _ _ _ _ _ => (pts_one (pt_cmpR op_eq (pe_ix (ix_tupK (K := K)) (pv 7) (pv 1) (fun _ _ => rfl)) (pv 2) (nomark _)))) (fun _ _ _ _ _ => (pv 7)))
      (pss_cons (ps_if (pt_cmpR (op_eqD (Nat.lt_of_succ_lt (hu65 _ rfl))) (pv 5) (pe_lst pa_nil) (nomark _)) (pss_one (ps_ret (pe_tup (pa_cons pe_str (pa_cons (pe_callB (cr_sortedD rfl) (by rfl) T.n_sorted (by decide +kernel) (pa_cons (pv 4) pa_nil)) pa_nil))))) pss_nil)
      (pss_cons (ps_set (i := 6) sc_fewest.nd rfl (Or.inl rfl) (pe_lst pa_nil))
      (pss_cons (ps_set (i := 7) sc_fewest.nd rfl (Or.inl rfl) (pe_ix ix_list (pv 5) pe_int (fun _ _ => rfl)))
      (pss_cons (ps_while (passes_of rfl) (pt_cmpR op_notNone (pe_dget (hu1 (hu65 _ rfl)) (pv 4) (pv 7) (fun _ _ => rfl)) pe_non (nomark _)) (pss_cons (ps_asg (pe_dget (hu1 (hu65 _ rfl)) (pv 4) (pv 7) (fun _ _ => rfl)) (pg_tup (n := 2) rfl (pgs_cons (pg_name (i := 7) sc_fewest.nd rfl (Or.inl rfl)) (pgs_cons (pg_name (i := 8) sc_fewest.nd rfl (Or.inl rfl)) pgs_nil))))
      (pss_one (ps_expr (pe_bm PySem.F.plainAttrs_list PySem.F.slot_list_append PySem.F.type_list_append mt_append (pv 6) (pa_cons (pv 8) pa_nil))))))
      (pss_one (ps_ret (pe_tup (pa_cons pe_str (pa_cons (pe_revL (pv 6)) pa_nil)))))))))))), ?_⟩
    walk_at "go"
    rcases h with ⟨ho, kE⟩ | ⟨hk, ho, kE⟩ | ⟨i, c, B, rfl, hi, rfl, hc, hB, hz, kE, k⟩
    · exact ⟨a, n, ks, v, u, rfl, N, .inl ⟨ho, fun d H' e hd => kE d H' e hd⟩⟩
    · exact ⟨a, n, ks, v, u, rfl, N, .inr (.inl ⟨hk, ho, fun d H' e hd => kE d H' e hd⟩)⟩
    · refine ⟨a, n, ks, _, _, rfl, N, .inr (.inr ⟨⟨(i : Int), rfl, by omega, by omega⟩, ⟨c, rfl, hc⟩, fun H1 e1 => ?_⟩)⟩
      walk_at "go"
      refine ⟨a, n, ks, most, B, rfl, N.mono e1, hB, hz, fun hm p kvs H2 hp e2 hd hv => ?_, fun hm d H2 e2 hd => kE hm d H2 (e1.trans e2) hd⟩
      have k := k hm
      have hBz : ∀ f ∈ B, f.st.length = n := fun f hf => (hB.okk.rch f hf).len
      have hpn : H p = none := fresh_back e1 hp
      have S1 := (Own.start H1).new e2 hp hd rfl
      obtain ⟨S2, ez2, ey2⟩ := S1.absorb (Ex.refl H2)
      have hv2 : DV (VF (cut H2 [(p, HO.dT kvs)]) B) B kvs := hv.imp fun f _ v h => h.tup fun t xs ht => ey2 _ _ (nw_tup' (Ex.refl H2) (nw_sub _ _ ht))
      have eG2 : Ex H (cut H2 [(p, HO.dT kvs)]) := e1.trans ez2
      generalize cut H2 [(p, HO.dT kvs)] = G2 at S2 ez2 ey2 hv2 eG2
      walk_at "go"
      refine g_keysF ?_
      walk_at "go"
      refine n_keysL S2 fun o G3 H3 e3 hp3 S3 => ?_
      have hv3 : DV (VF G3 B) B kvs := hv2.imp fun f _ v h => h.mono e3 (List.prefix_refl _)
      have hB6 : B.length ≤ 1000000 := by omega
      have hnext : ∀ {j : Nat} {e : Ent}, B[j]? = some e → selE (B.take (j + 1)) i c = selE (B.take j) i c ++ (if tv e.st (i : Int) = c then [e] else []) := fun {j e} h => by
        unfold selE
        rw [take_snoc h, List.filter_append]
        by_cases q : tv e.st (i : Int) = c
        · rw [if_pos q, List.filter_cons_of_pos (by exact decide_eq_true q), List.filter_nil]
        · rw [if_neg q, List.filter_cons_of_neg (by simpa using q), List.filter_nil]
      refine v_keysT (fun j acc G' L' => L' = [] ∧ Sts G' acc ((selE (B.take j) i c).map Ent.st)) S3 hp3 (by rw [hv.len]; exact hB6) ⟨rfl, .nil⟩ ?_ ?_
      · rintro D j kk vv q acc G' L' H' hkv hq hj e' hl' ⟨rfl, ha⟩ S'
        obtain ⟨e, he, rfl, _⟩ := hv3.at_ hkv
        have hel := hBz e (List.mem_of_getElem? he)
        rw [keyN_kV] at hq
        obtain ⟨S4, ez4, ey4⟩ := S'.absorb (Ex.refl H')
        have hq4 := ey4 _ _ (nw_tup' (Ex.refl H') hq)
        have ha4 := ha.mono ez4
        have e4 := e'.trans ez4
        generalize cut H' [(D, HO.lst acc)] = G4 at S4 ez4 ey4 hq4 ha4 e4
        walk_at "go"
        refine ⟨rfl, ?_⟩
        walk_at "go"
        refine g_ixT (SqT.of hq) (at_tv (by omega) (by omega)) ?_
        walk_at "go"
        refine if_2 (fun cc => ?_) (fun cc => ?_)
        · have cc := of_decide_eq_true cc
          walk_at "go"
          refine c_yes S4 e4 hl' hj ⟨rfl, ?_⟩
          rw [hnext he, if_pos cc, List.map_append]
          exact ha4.append (.cons ⟨q, rfl, hq4⟩ .nil)
        · have cc := of_decide_eq_false cc
          refine c_no S4 e4 hl' ⟨rfl, ?_⟩
          rw [hnext he, if_neg cc, List.append_nil]
          exact ha4
      · rintro p5 acc5 G5 L5 H5 e5 _ ⟨rfl, ha5⟩ S5
        rw [hv.len, List.take_length] at ha5
        have hp5 := e5 _ _ hp3
        have hv5 : DV (VF G5 B) B kvs := hv3.imp fun f _ v h => h.mono e5 (List.prefix_refl _)
        have eG5 : Ex H G5 := eG2.trans (e3.trans e5)
        walk_at "go"
        refine n_lst S5 (by decide) fun p6 H6 _ S6 => ?_
        refine n_eqS (SqL.of S6.get1) (SqL.of S6.get0) (ha5.mono S6.ex) .nil ?_
        have S6 := S6.forget
        walk_at "go"
        have hnil : ((selE B i c).map Ent.st = []) ↔ selE B i c = [] := List.map_eq_nil_iff
        refine if_2 (fun cc => ?_) (fun cc => ?_)
        · have cc := hnil.mp (of_decide_eq_true cc)
          have hne : ∀ ns ∈ B.map Ent.st, ns ≠ [] := fun ns hn => by
            obtain ⟨e, he, rfl⟩ := List.mem_map.mp hn
            have h1 := hBz e he
            intro z
            rw [z] at h1
            simp at h1
            omega
          walk_at "go"
          refine ⟨p, kvs, B.map Ent.st, rfl, .inr ⟨o, S6.ex _ _ hp5⟩, hv.keys, hne, fun ys L' q7 hy hp' ha7 hq7 => ?_⟩
          have S7 := S6.lay (o := .lst ys) hq7
          have hq70 : H q7 = none := fresh_back (eG5.trans S6.ex) hq7
          walk_at "go"
          refine n_tup S7 (by show 2 ≤ 10000000; decide) fun t8 G8 H8 ht80 e8 e8' ht8 S8 => ?_
          walk_at "go"
          have e68 : Ex H6 H8 := (Ex.new hq7).trans e8'
          refine k t8 q7 _ ys H8 (fresh_back ((eG5.trans S6.ex).trans (Ex.new hq7)) ht80) hq70 (fun z => ?_) ((eG5.trans S6.ex).trans e68) (S8.ex _ _ ht8) S8.get0 (.inl ⟨cc, rfl, L', sts_tup (hy.mono e68) ((eG5.trans S6.ex).trans e68), hp', ha7⟩)
          rw [z, upd_same] at ht80
          cases ht80
        · have cc := fun z => of_decide_eq_false cc (hnil.mpr z)
          obtain ⟨e0, r0, hsel⟩ : ∃ e r, selE B i c = e :: r := by
            cases q : selE B i c with
            | nil => exact absurd q cc
            | cons e r => exact ⟨e, r, rfl⟩
          have he0 : e0 ∈ B := (selE_in (i := i) (c := c) (by rw [hsel]; exact List.mem_cons_self)).1
          obtain ⟨k0, hk0⟩ := List.mem_iff_getElem?.mp he0
          obtain ⟨is0, hpth⟩ := Pth.ex hB.okk k0 hk0
          rw [hsel] at ha5
          obtain ⟨y5, ys5, rfl⟩ : ∃ y ys, acc5 = y :: ys := by
            cases ha5 with
            | cons h t => exact ⟨_, _, rfl⟩
          obtain ⟨t5, ns5, hns5, rfl, ht5⟩ := ha5.get (i := 0) (x := y5) rfl
          obtain rfl : e0.st = ns5 := by simpa using hns5
          walk_at "go"
          refine n_lst S6 (by decide) fun q7 H7 hq7 S7 => ?_
          walk_at "go"
          refine g_ixL (SqL.of S7.get1) (atI_nat (xs := .ref t5 :: ys5) (j := 0) (v := .ref t5) rfl) ?_
          walk_at "go"
          have hq70 : H q7 = none := fresh_back (eG5.trans S6.ex) hq7
          refine s_while (fun m σ' H' => ∃ (G' : Hp) (t : Addr) (f : Ent) (kf : Nat) (done rest : List Nat) (x8 : Option V), σ' = [some (.ref a), some (.int (i : Int)), some (.int c), some (.int most), some (.ref p), some (.ref p5), some (.ref q7), some (.ref t), x8] ∧ m = f.l ∧ Ex G5 G' ∧ StA G' t f.st ∧ B[kf]? = some f ∧ Pth B f rest ∧ is0 = done ++ rest ∧
            Own G' [(q7, .lst (done.map fun (k : Nat) => V.int (k : Int))), (p5, .lst (.ref t5 :: ys5))] H') _
            ⟨G5, t5, e0, k0, [], is0, _, rfl, rfl, Ex.refl _, ht5, hk0, hpth, rfl, S7⟩ ?_
          rintro m σ' H' ⟨G', t, f, kf, done, rest, x8, rfl, rfl, e', ht, hf, hpf, rfl, S⟩
          obtain ⟨v, hv1, hvf⟩ := hv5.val hB.okk.nd hf
          have hvf : VF G' B f v := hvf.mono e' (List.prefix_refl _)
          walk_at "go"
          refine g_dget' ?_
          walk_at "go"
          refine n_dgetF (S.ex _ _ (e' _ _ hp5)) (S.ex _ _ ht) hv1 ?_
          walk_at "go"
          rcases hvf with ⟨h0, rfl⟩ | ⟨h0, tp, tq, g, rfl, htp, hg, htq⟩
          · refine if_ff rfl ?_
            cases hpf with
            | s h1 _ _ => exact absurd h0 h1
            | z _ =>
              walk_at "go"
              refine g_rev ?_
              walk_at "go"
              refine n_revG S (SqL.of S.get0) fun q9 G9 H9 hq9 e9 e9' hq9' S9 => ?_
              walk_at "go"
              refine n_tup S9 (by show 2 ≤ 10000000; decide) fun t10 G10 H10 ht10 e10 e10' ht10' S10 => ?_
              walk_at "go"
              have eall : Ex H H' := eG5.trans (e'.trans S.ex)
              refine k t10 q9 _ _ H10 (fresh_back (eall.trans e9') ht10) (fresh_back eall hq9) (fun z => ?_) (eall.trans (e9'.trans e10')) (S10.ex _ _ ht10') (S10.ex _ _ (e10 _ _ hq9')) (.inr ⟨e0, r0, _, hsel, rfl, hpth, ?_⟩)
              · rw [z] at ht10
                rw [S9.ex _ _ hq9'] at ht10
                cases ht10
              · rw [List.append_nil, List.map_reverse]
          · refine if_tt rfl ?_
            cases hpf with
            | z h1 => exact absurd h1 h0
            | @s _ g' is _ hg' hpg =>
              rw [hg] at hg'
              cases hg'
              obtain ⟨_, _, g2, hg2, _, hgl⟩ := hB.okk.ls hf h0
              rw [hg] at hg2
              cases hg2
              refine s_turn ?_
              walk_at "go"
              refine g_dget' ?_
              walk_at "go"
              refine n_dgetF (S.ex _ _ (e' _ _ hp5)) (S.ex _ _ ht) hv1 ?_
              refine s_gtup (SqT.of (S.ex _ _ htp)) rfl ?_
              walk_at "go"
              refine ⟨tyL (SqL.of S.get0), ?_⟩
              walk_at "go"
              have hfacts := hpth.facts hB.okk hk0
              refine n_app S (by
                rw [List.length_map]
                have h1 := hfacts.1
                rw [List.length_append] at h1
                have h2 := hB.okk.lk k0 hk0
                have h3 := (List.getElem?_eq_some_iff.mp hk0).1
                omega) fun H8 S8 => ?_
              walk_at "go"
              refine ⟨g.l, by omega, G', tq, g, f.p, done ++ [f.i], is, _, rfl, rfl, e', htq, hg, hpg, by simp, ?_⟩
              rw [List.map_append]
              exact S8
end
end NX

namespace NX
/-! ### switchings of states that are given by functions -/
def mkS (n : Nat) (f : Nat → Int) : List Int := (List.range n).map f
def upS (f : Nat → Int) (i : Nat) (c : Int) : Nat → Int := fun j => if j = i then c else f j
def zeroS : Nat → Int := fun _ => 0
section
variable {nbr : Nbr} {n : Nat} {f g h : Nat → Int} {i : Nat} {c : Int}
theorem tv_mk {j : Nat} (h : j < n) : tv (mkS n f) (j : Int) = f j := tv_get (by
  unfold mkS
  rw [List.getElem?_map, List.getElem?_range h] <;> rfl)
theorem mk_len : (mkS n f).length = n := by unfold mkS; rw [List.length_map, List.length_range]
theorem mk_ext (e : ∀ j, j < n → f j = g j) : mkS n f = mkS n g := List.map_congr_left fun j hj => e j (List.mem_range.mp hj)
theorem mk_zero : mkS n zeroS = List.replicate n 0 := by
  refine tv_ext (by rw [mk_len, List.length_replicate]) fun i hi => ?_
  rw [mk_len] at hi
  rw [tv_mk hi, tv_rep hi] <;> rfl
theorem sw_mk (hi : i < n) (e : chn nbr (mkS n f) i = c) : sw nbr (mkS n f) i = mkS n (upS f i c) := by
  have hl : (sw nbr (mkS n f) i).length = n := by rw [sw_len (by rw [mk_len]; exact hi), mk_len]
  refine tv_ext (by rw [hl, mk_len]) fun j hj => ?_
  rw [hl] at hj
  rw [sw_tv (by rw [mk_len]; exact hi), tv_mk hj, e]
  rw [tv_mk hj]
  unfold upS
  split
  · rfl
  · rfl
/-- neighbours are other stations -/
def NbOk (nbr : Nbr) (n : Nat) : Prop := ∀ i : Nat, i < n → ∀ x ∈ nbr (i : Int), ∃ j : Nat, x = (j : Int) ∧ j < n ∧ j ≠ i
theorem nb_ok {ks : List Pr} (ok : Okl n ks) : NbOk (nb ks) n := fun i _ x hx => by
  obtain ⟨j, rfl, hj⟩ := nb_nat ok hx
  have := nb_rng ok hx
  exact ⟨j, rfl, hj, by omega⟩
theorem st_on (hn : NbOk nbr n) (hi : i < n) (h0 : f i = 0) (hc : 1 ≤ c) (h1 : ∀ j : Nat, j < n → j ≠ i → (j : Int) ∈ nbr (i : Int) → f j ≠ c) (h2 : ∀ d, 1 ≤ d → d < c → ∃ j : Nat, (j : Int) ∈ nbr (i : Int) ∧ f j = d) : sw nbr (mkS n f) i = mkS n (upS f i c) := by
  refine sw_mk hi ?_
  unfold chn
  rw [if_pos (by rw [tv_mk hi]; exact h0)]
  refine mexL_of ⟨hc, fun hm => ?_, fun d a b => ?_⟩
  · obtain ⟨x, hx, e⟩ := List.mem_map.mp hm
    obtain ⟨j, rfl, hj, ne⟩ := hn i hi x hx
    rw [tv_mk hj] at e
    exact h1 j hj ne hx e
  · obtain ⟨j, hj, e⟩ := h2 d a b
    obtain ⟨j', ej, hj', _⟩ := hn i hi _ hj
    have : j = j' := by omega
    subst this
    exact List.mem_map.mpr ⟨_, hj, by rw [tv_mk hj', e]⟩
theorem st_off (hi : i < n) (h0 : f i ≠ 0) : sw nbr (mkS n f) i = mkS n (upS f i 0) := by
  refine sw_mk hi ?_
  unfold chn
  rw [if_neg (by rw [tv_mk hi]; exact h0)]
noncomputable def runS (nbr : Nbr) (st : List Int) (steps : List Int) : List Int := steps.foldl (fun s (x : Int) => sw nbr s x.toNat) st
theorem run_app (st : List Int) (a b : List Int) : runS nbr st (a ++ b) = runS nbr (runS nbr st a) b := by unfold runS; rw [List.foldl_append]
theorem run_cons (st : List Int) (x : Int) (a : List Int) : runS nbr st (x :: a) = runS nbr (sw nbr st x.toNat) a := rfl
theorem run_snoc (st : List Int) (x : Int) (a : List Int) : runS nbr st (a ++ [x]) = sw nbr (runS nbr st a) x.toNat := by rw [run_app] <;> rfl
theorem Rch.run {s : List Int} (h : Rch nbr n s) : ∀ {a : List Int}, (∀ x ∈ a, 0 ≤ x ∧ x < (n : Int)) → Rch nbr n (runS nbr s a)
  | [], _ => h
  | x :: a, hx => by
    rw [run_cons]
    have := hx x List.mem_cons_self
    exact Rch.run (h.step (i := x.toNat) (by omega)) fun y hy => hx y (List.mem_cons_of_mem _ hy)
/-- the switchings lead from f to g -/
def Rn (nbr : Nbr) (n : Nat) (f : Nat → Int) (a : List Int) (g : Nat → Int) : Prop := runS nbr (mkS n f) a = mkS n g
theorem Rn.nil (e : ∀ j, j < n → f j = g j) : Rn nbr n f [] g := mk_ext e
theorem Rn.on {a : List Int} (c : Int) (hn : NbOk nbr n) (hi : i < n) (h0 : f i = 0) (hc : 1 ≤ c) (h1 : ∀ j : Nat, j < n → j ≠ i → (j : Int) ∈ nbr (i : Int) → f j ≠ c) (h2 : ∀ d, 1 ≤ d → d < c → ∃ j : Nat, (j : Int) ∈ nbr (i : Int) ∧ f j = d) (r : Rn nbr n (upS f i c) a g) : Rn nbr n f ((i : Int) :: a) g := by
  unfold Rn
  rw [run_cons, Int.toNat_natCast, st_on hn hi h0 hc h1 h2]
  exact r
theorem Rn.off {a : List Int} (hi : i < n) (h0 : f i ≠ 0) (r : Rn nbr n (upS f i 0) a g) : Rn nbr n f ((i : Int) :: a) g := by
  unfold Rn
  rw [run_cons, Int.toNat_natCast, st_off hi h0]
  exact r
theorem Rn.app {a b : List Int} (r : Rn nbr n f a g) (q : Rn nbr n g b h) : Rn nbr n f (a ++ b) h := by
  unfold Rn
  rw [run_app, r]
  exact q
theorem Rn.to {a : List Int} (r : Rn nbr n f a g) (e : ∀ j, j < n → g j = h j) : Rn nbr n f a h := by
  unfold Rn
  rw [r, mk_ext e]
theorem Rn.of {a : List Int} (r : Rn nbr n f a g) (e : ∀ j, j < n → h j = f j) : Rn nbr n h a g := by
  unfold Rn
  rw [mk_ext e]
  exact r
end
/-! ### 3, 4, 5 -/
def to3 (s h l : Int) : List Int := [s, h, s, l, s, h, l]
def bes2 (s sp go l : Int) : List Int := [sp, s, sp, l, go, s, l]
local macro_rules | `(tactic| walk_at "uu") => `(tactic| ((try unfold NX.upS); (try unfold NX.zeroS); (try dsimp only); repeat' (first | omega | split)))
theorem one_d {P : Int → Prop} (h : P 1) : ∀ d : Int, 1 ≤ d → d < 2 → P d := fun d h1 h2 => by
  obtain rfl : d = 1 := by omega
  exact h
section
variable {nbr : Nbr} {n : Nat}
theorem run_to3 {s h l : Nat} (hn : NbOk nbr n) (hs : s < n) (hh : h < n) (hl : l < n) (ne : h ≠ l) (n1 : h ≠ s) (n2 : l ≠ s) (a1 : (h : Int) ∈ nbr (s : Int)) (a2 : (l : Int) ∈ nbr (s : Int)) (b1 : (s : Int) ∈ nbr (h : Int)) :
    Rn nbr n zeroS (to3 s h l) (upS zeroS s 3) := by
  refine .on 1 hn hs rfl (by omega) (fun j _ _ _ => by walk_at "uu") (fun d h1 h2 => by omega) ?_
  refine .on 2 hn hh (by walk_at "uu") (by omega) (fun j _ _ _ => by walk_at "uu") (one_d ⟨s, b1, by walk_at "uu"⟩) ?_
  refine .off hs (by walk_at "uu") ?_
  refine .on 1 hn hl (by walk_at "uu") (by omega) (fun j _ _ _ => by walk_at "uu") (fun d h1 h2 => by omega) ?_
  refine .on 3 hn hs (by walk_at "uu") (by omega) (fun j _ _ _ => by walk_at "uu") (fun d h1 h2 => ?_) ?_
  · rcases (show d = 1 ∨ d = 2 by omega) with rfl | rfl
    · exact ⟨l, a2, by walk_at "uu"⟩
    · exact ⟨h, a1, by walk_at "uu"⟩
  refine .off hh (by walk_at "uu") ?_
  refine .off hl (by walk_at "uu") ?_
  exact .nil fun j _ => by walk_at "uu"
/-- the last switchings to 4 -/
theorem run_end4 {s t e f : Nat} (hn : NbOk nbr n) (hs : s < n) (ht : t < n) (he : e < n) (hf : f < n) (n1 : t ≠ s) (n2 : e ≠ s) (n3 : f ≠ s) (n4 : e ≠ t) (n5 : f ≠ t) (n6 : e ≠ f) (a1 : (t : Int) ∈ nbr (s : Int)) (a2 : (e : Int) ∈ nbr (s : Int)) (a3 : (f : Int) ∈ nbr (s : Int)) (b2 : (s : Int) ∈ nbr (e : Int)) :
    Rn nbr n (upS zeroS t 3) ([(s : Int), e, s, f, s] ++ [(t : Int), e, f]) (upS zeroS s 4) := by
  refine .on 1 hn hs (by walk_at "uu") (by omega) (fun j _ _ _ => by walk_at "uu") (fun d h1 h2 => by omega) ?_
  refine .on 2 hn he (by walk_at "uu") (by omega) (fun j _ _ _ => by walk_at "uu") (one_d ⟨s, b2, by walk_at "uu"⟩) ?_
  refine .off hs (by walk_at "uu") ?_
  refine .on 1 hn hf (by walk_at "uu") (by omega) (fun j _ _ _ => by walk_at "uu") (fun d h1 h2 => by omega) ?_
  refine .on 4 hn hs (by walk_at "uu") (by omega) (fun j _ _ _ => by walk_at "uu") (fun d h1 h2 => ?_) ?_
  · rcases (show d = 1 ∨ d = 2 ∨ d = 3 by omega) with rfl | rfl | rfl
    · exact ⟨f, a3, by walk_at "uu"⟩
    · exact ⟨e, a2, by walk_at "uu"⟩
    · exact ⟨t, a1, by walk_at "uu"⟩
  refine .off ht (by walk_at "uu") ?_
  refine .off he (by walk_at "uu") ?_
  refine .off hf (by walk_at "uu") ?_
  exact .nil fun j _ => by walk_at "uu"
/-- with 4 beside: 3 at a neighbour -/
theorem run_bes3 {s sp go l q : Nat} (hn : NbOk nbr n) (hs : s < n) (hp : sp < n) (hg : go < n) (hl : l < n) (n1 : sp ≠ s) (n2 : go ≠ s) (n3 : l ≠ s) (n4 : go ≠ l) (n5 : q ≠ s) (n6 : q ≠ sp) (n7 : q ≠ go) (n8 : q ≠ l) (a1 : (sp : Int) ∈ nbr (s : Int)) (a2 : (s : Int) ∈ nbr (go : Int)) (a3 : (l : Int) ∈ nbr (go : Int)) (n9 : sp ≠ go) :
    Rn nbr n (upS zeroS q 4) (bes2 s sp go l) (upS (upS zeroS q 4) go 3) := by
  refine .on 1 hn hp (by walk_at "uu") (by omega) (fun j _ _ _ => by walk_at "uu") (fun d h1 h2 => by omega) ?_
  refine .on 2 hn hs (by walk_at "uu") (by omega) (fun j _ _ _ => by walk_at "uu") (one_d ⟨sp, a1, by walk_at "uu"⟩) ?_
  refine .off hp (by walk_at "uu") ?_
  refine .on 1 hn hl (by walk_at "uu") (by omega) (fun j _ _ _ => by walk_at "uu") (fun d h1 h2 => by omega) ?_
  refine .on 3 hn hg (by walk_at "uu") (by omega) (fun j _ _ _ => by walk_at "uu") (fun d h1 h2 => ?_) ?_
  · rcases (show d = 1 ∨ d = 2 by omega) with rfl | rfl
    · exact ⟨l, a3, by walk_at "uu"⟩
    · exact ⟨s, a2, by walk_at "uu"⟩
  refine .off hs (by walk_at "uu") ?_
  refine .off hl (by walk_at "uu") ?_
  exact .nil fun j _ => by walk_at "uu"
/-- with 3 beside both: 4 at a neighbour -/
theorem run_bes4 {s sp go l q : Nat} (hn : NbOk nbr n) (hs : s < n) (hp : sp < n) (hg : go < n) (hl : l < n) (n1 : sp ≠ s) (n2 : go ≠ s) (n3 : l ≠ s) (n4 : go ≠ l) (n5 : q ≠ s) (n6 : q ≠ sp) (n7 : q ≠ go) (n8 : q ≠ l) (a1 : (sp : Int) ∈ nbr (s : Int)) (a2 : (s : Int) ∈ nbr (go : Int)) (a3 : (l : Int) ∈ nbr (go : Int)) (a4 : (q : Int) ∈ nbr (go : Int)) (n9 : sp ≠ go) :
    Rn nbr n (upS zeroS q 3) (bes2 s sp go l) (upS (upS zeroS q 3) go 4) := by
  refine .on 1 hn hp (by walk_at "uu") (by omega) (fun j _ _ _ => by walk_at "uu") (fun d h1 h2 => by omega) ?_
  refine .on 2 hn hs (by walk_at "uu") (by omega) (fun j _ _ _ => by walk_at "uu") (one_d ⟨sp, a1, by walk_at "uu"⟩) ?_
  refine .off hp (by walk_at "uu") ?_
  refine .on 1 hn hl (by walk_at "uu") (by omega) (fun j _ _ _ => by walk_at "uu") (fun d h1 h2 => by omega) ?_
  refine .on 4 hn hg (by walk_at "uu") (by omega) (fun j _ _ _ => by walk_at "uu") (fun d h1 h2 => ?_) ?_
  · rcases (show d = 1 ∨ d = 2 ∨ d = 3 by omega) with rfl | rfl | rfl
    · exact ⟨l, a3, by walk_at "uu"⟩
    · exact ⟨s, a2, by walk_at "uu"⟩
    · exact ⟨q, a4, by walk_at "uu"⟩
  refine .off hs (by walk_at "uu") ?_
  refine .off hl (by walk_at "uu") ?_
  exact .nil fun j _ => by walk_at "uu"
theorem run_end5 {s q t e f : Nat} (hn : NbOk nbr n) (hs : s < n) (hq : q < n) (ht : t < n) (he : e < n) (hf : f < n) (n1 : t ≠ s) (n2 : e ≠ s) (n3 : f ≠ s) (n4 : e ≠ t) (n5 : f ≠ t) (n6 : e ≠ f) (m1 : q ≠ s) (m2 : q ≠ t) (m3 : q ≠ e) (m4 : q ≠ f)
    (a0 : (q : Int) ∈ nbr (s : Int)) (a1 : (t : Int) ∈ nbr (s : Int)) (a2 : (e : Int) ∈ nbr (s : Int)) (a3 : (f : Int) ∈ nbr (s : Int)) (b2 : (s : Int) ∈ nbr (e : Int)) {g : Nat → Int} (hg : ∀ j, j < n → g j = if j = q then 4 else if j = t then 3 else 0) :
    Rn nbr n g [(s : Int), e, s, f, s, q, t, e, f] (upS zeroS s 5) := by
  refine Rn.of ?_ hg
  refine .on 1 hn hs (by walk_at "uu") (by omega) (fun j _ _ _ => by walk_at "uu") (fun d h1 h2 => by omega) ?_
  refine .on 2 hn he (by walk_at "uu") (by omega) (fun j _ _ _ => by walk_at "uu") (one_d ⟨s, b2, by walk_at "uu"⟩) ?_
  refine .off hs (by walk_at "uu") ?_
  refine .on 1 hn hf (by walk_at "uu") (by omega) (fun j _ _ _ => by walk_at "uu") (fun d h1 h2 => by omega) ?_
  refine .on 5 hn hs (by walk_at "uu") (by omega) (fun j _ _ _ => by walk_at "uu") (fun d h1 h2 => ?_) ?_
  · rcases (show d = 1 ∨ d = 2 ∨ d = 3 ∨ d = 4 by omega) with rfl | rfl | rfl | rfl
    · exact ⟨f, a3, by walk_at "uu"⟩
    · exact ⟨e, a2, by walk_at "uu"⟩
    · exact ⟨t, a1, by walk_at "uu"⟩
    · exact ⟨q, a0, by walk_at "uu"⟩
  refine .off hq (by walk_at "uu") ?_
  refine .off ht (by walk_at "uu") ?_
  refine .off he (by walk_at "uu") ?_
  refine .off hf (by walk_at "uu") ?_
  exact .nil fun j _ => by walk_at "uu"
end
end NX

namespace NX
/-! ### the switchings of schedule_low -/
local macro_rules | `(tactic| walk_at "uu") => `(tactic| ((try unfold NX.upS); (try unfold NX.zeroS); (try dsimp only); repeat' (first | omega | split)))
def othS (ks : List Pr) (i : Int) (wo : List Int) : List Int := (nb ks i).filter fun x => !decide (x ∈ wo)
def thirdS (ks : List Pr) (s : Int) : Int := ((nb ks s).filter fun x => decide (2 ≤ (nb ks x).length)).getD 0 0
def to4 (ks : List Pr) (s : Int) : List Int :=
  to3 (thirdS ks s) ((nb ks (thirdS ks s)).getD 0 0) ((nb ks (thirdS ks s)).getD 1 0) ++ [s, (othS ks s [thirdS ks s]).getD 0 0, s, (othS ks s [thirdS ks s]).getD 1 0, s] ++ [thirdS ks s, (othS ks s [thirdS ks s]).getD 0 0, (othS ks s [thirdS ks s]).getD 1 0]
def fourS (ks : List Pr) (t : List Int) (s : Int) : Int := ((nb ks s).filter fun x => decide (4 ≤ tv t x)).getD 0 0
def threeS (ks : List Pr) (t : List Int) (s q : Int) : Int := ((othS ks s [q]).filter fun x => decide (3 ≤ tv t x)).getD 0 0
def spareS (a b x : Int) : Int := if a ≠ x then a else b
def pre5 (ks : List Pr) (s q r e f : Int) : List Int :=
  match othS ks r [s, q] with
  | x :: _ => to4 ks q ++ bes2 s (spareS f e x) r x
  | [] => to3 r s q ++ bes2 s (spareS f e ((othS ks q [s, r]).getD 0 0)) q ((othS ks q [s, r]).getD 0 0)
def fin5 (ks : List Pr) (s q r e f : Int) : List Int := pre5 ks s q r e f ++ [s, e, s, f, s, q, r, e, f]
def qr5 (ks : List Pr) (s q r : Int) : List Int := fin5 ks s q r ((othS ks s [q, r]).getD 0 0) ((othS ks s [q, r]).getD 1 0)
def to5 (ks : List Pr) (t : List Int) (s : Int) : List Int := qr5 ks s (fourS ks t s) (threeS ks t s (fourS ks t s))
def lowS (ks : List Pr) (t : List Int) (s c : Int) : List Int :=
  if c = 1 then [s] else if c = 2 then [(nb ks s).getD 0 0, s, (nb ks s).getD 0 0] else if c = 3 then to3 s ((nb ks s).getD 0 0) ((nb ks s).getD 1 0) else if c = 4 then to4 ks s else to5 ks t s
theorem filter_two {α : Type} (p : α → Bool) : ∀ l : List α, (l.filter p).length + (l.filter fun x => !p x).length = l.length
  | [] => rfl
  | x :: l => by
    have ih := filter_two p l
    cases h : p x <;> simp [h] <;> omega
theorem oth_len {ks : List Pr} {i : Int} {wo : List Int} (nd : (nb ks i).Nodup) : (nb ks i).length ≤ (othS ks i wo).length + wo.length := by
  have h1 := filter_two (fun x => decide (x ∈ wo)) (nb ks i)
  have h2 : ((nb ks i).filter fun x => decide (x ∈ wo)).length ≤ wo.length := len_le_of_sub (nd.filter _) fun x hx => by
    have := (List.mem_filter.mp hx).2
    exact of_decide_eq_true this
  unfold othS
  omega
theorem mem_oth {ks : List Pr} {i x : Int} {wo : List Int} : x ∈ othS ks i wo ↔ x ∈ nb ks i ∧ x ∉ wo := by
  unfold othS
  rw [List.mem_filter]
  simp
theorem oth_nd {ks : List Pr} {i : Int} {wo : List Int} (nd : (nb ks i).Nodup) : (othS ks i wo).Nodup := nd.filter _
theorem getD_mem {l : List Int} {j : Nat} (h : j < l.length) : l.getD j 0 ∈ l := by
  rw [List.getD_eq_getElem?_getD, List.getElem?_eq_getElem h]
  exact List.getElem_mem h
theorem getD_ne {l : List Int} (nd : l.Nodup) {i j : Nat} (h : i < l.length) (h' : j < l.length) (ne : i ≠ j) : l.getD i 0 ≠ l.getD j 0 := by
  rw [List.getD_eq_getElem?_getD, List.getD_eq_getElem?_getD, List.getElem?_eq_getElem h, List.getElem?_eq_getElem h']
  exact fun e => ne ((List.getElem_inj nd).mp e)
/-- what the numbers of the table say -/
structure NetF (n : Nat) (ks : List Pr) (t : List Int) : Prop where
  ok : Okl n ks
  nd : ∀ i : Int, (nb ks i).Nodup
  tab : TabF n ks t
section
variable {n : Nat} {ks : List Pr} {t : List Int}
theorem NetF.deg (N : NetF n ks t) {i : Nat} (hi : i < n) : tv t (i : Int) ≤ ((nb ks (i : Int)).length : Int) + 1 := by
  have := (N.tab.2 i hi).le_len
  rw [List.length_map] at this
  omega
theorem NetF.many (N : NetF n ks t) {i : Nat} (hi : i < n) {j : Int} (h1 : 1 ≤ j) (h2 : j < tv t (i : Int)) : tv t (i : Int) - j ≤ (((nb ks (i : Int)).filter fun x => decide (j ≤ tv t x)).length : Int) := by
  have h := ((N.tab.2 i hi).2 (tv t (i : Int) - 1)).mp (Int.le_refl _) j h1 (by omega)
  unfold cge at h
  rw [List.countP_map, List.countP_eq_length_filter] at h
  have e : ((fun x => decide (j ≤ x)) ∘ tv t) = fun x => decide (j ≤ tv t x) := rfl
  rw [e] at h
  omega
theorem NetF.nat (N : NetF n ks t) {i x : Int} (h : x ∈ nb ks i) : ∃ j : Nat, x = (j : Int) ∧ j < n := nb_nat N.ok h
theorem NetF.sym (N : NetF n ks t) {i j : Int} (h : j ∈ nb ks i) : i ∈ nb ks j := (nb_sym N.ok).mp h
theorem NetF.irr (N : NetF n ks t) {i j : Int} (h : j ∈ nb ks i) : j ≠ i := (nb_rng N.ok h).2.2.1
theorem NetF.third (N : NetF n ks t) {i : Nat} (hi : i < n) (h : 4 ≤ tv t (i : Int)) : thirdS ks (i : Int) ∈ nb ks (i : Int) ∧ 2 ≤ (nb ks (thirdS ks (i : Int))).length := by
  have h1 := N.many hi (j := 3) (by omega) (by omega)
  obtain ⟨x, hx⟩ : ∃ x, x ∈ (nb ks (i : Int)).filter fun x => decide (3 ≤ tv t x) := by
    cases q : (nb ks (i : Int)).filter fun x => decide (3 ≤ tv t x) with
    | nil => rw [q] at h1; simp at h1; omega
    | cons y l => exact ⟨y, List.mem_cons_self⟩
  obtain ⟨hx1, hx2⟩ := List.mem_filter.mp hx
  have hx2 := of_decide_eq_true hx2
  obtain ⟨j, rfl, hj⟩ := N.nat hx1
  have := N.deg hj
  have hm : (j : Int) ∈ (nb ks (i : Int)).filter fun x => decide (2 ≤ (nb ks x).length) := List.mem_filter.mpr ⟨hx1, decide_eq_true (by omega)⟩
  have hz : thirdS ks (i : Int) ∈ (nb ks (i : Int)).filter fun x => decide (2 ≤ (nb ks x).length) := getD_mem (List.length_pos_of_mem hm)
  obtain ⟨a, b⟩ := List.mem_filter.mp hz
  exact ⟨a, of_decide_eq_true b⟩
theorem NetF.run4 (N : NetF n ks t) {i : Nat} (hi : i < n) (h : 4 ≤ tv t (i : Int)) : Rn (nb ks) n zeroS (to4 ks (i : Int)) (upS zeroS i 4) := by
  obtain ⟨h1, h2⟩ := N.third hi h
  have hd := N.deg hi
  unfold to4
  have o1 := oth_len (wo := [thirdS ks (i : Int)]) (N.nd (i : Int))
  have o2 := oth_nd (wo := [thirdS ks (i : Int)]) (N.nd (i : Int))
  have e0 := getD_mem (l := othS ks (i : Int) [thirdS ks (i : Int)]) (j := 0) (by simp at o1; omega)
  have e1 := getD_mem (l := othS ks (i : Int) [thirdS ks (i : Int)]) (j := 1) (by simp at o1; omega)
  have ne := getD_ne o2 (i := 0) (j := 1) (by simp at o1; omega) (by simp at o1; omega) (by decide)
  generalize (othS ks (i : Int) [thirdS ks (i : Int)]).getD 0 0 = e at e0 ne ⊢
  generalize (othS ks (i : Int) [thirdS ks (i : Int)]).getD 1 0 = f at e1 ne ⊢
  obtain ⟨g0, e0'⟩ := mem_oth.mp e0
  obtain ⟨g1, e1'⟩ := mem_oth.mp e1
  clear e0 e1
  simp only [List.mem_singleton] at e0' e1'
  generalize thirdS ks (i : Int) = z at *
  have m0 := getD_mem (l := nb ks z) (j := 0) (by omega)
  have m1 := getD_mem (l := nb ks z) (j := 1) (by omega)
  have mn := getD_ne (N.nd z) (i := 0) (j := 1) (by omega) (by omega) (by decide)
  generalize (nb ks z).getD 0 0 = a at m0 mn ⊢
  generalize (nb ks z).getD 1 0 = b at m1 mn ⊢
  obtain ⟨z, rfl, hz⟩ := N.nat h1
  obtain ⟨e, rfl, he⟩ := N.nat g0
  obtain ⟨f, rfl, hf⟩ := N.nat g1
  obtain ⟨a, rfl, ha⟩ := N.nat m0
  obtain ⟨b, rfl, hb⟩ := N.nat m1
  have z1 := N.irr h1
  have z2 := N.irr g0
  have z3 := N.irr g1
  have z4 := N.irr m0
  have z5 := N.irr m1
  rw [List.append_assoc]
  exact (run_to3 (nb_ok N.ok) hz ha hb (by omega) (by omega) (by omega) m0 m1 (N.sym m0)).app (run_end4 (nb_ok N.ok) hi hz he hf (by omega) (by omega) (by omega) (by omega) (by omega) (by omega) h1 g0 g1 (N.sym g0))
theorem spare_or (a b x : Int) : (spareS a b x = a ∧ a ≠ x) ∨ (spareS a b x = b ∧ a = x) := by
  unfold spareS
  split
  · rename_i h; exact .inl ⟨rfl, h⟩
  · rename_i h; exact .inr ⟨rfl, Decidable.not_not.mp h⟩
theorem NetF.run5 (N : NetF n ks t) {i : Nat} (hi : i < n) (h : 5 ≤ tv t (i : Int)) : Rn (nb ks) n zeroS (to5 ks t (i : Int)) (upS zeroS i 5) ∧ (to5 ks t (i : Int)).length ≤ 31 ∧ ∀ x ∈ to5 ks t (i : Int), 0 ≤ x ∧ x < (n : Int) := by
  have hd := N.deg hi
  have c4 := N.many hi (j := 4) (by omega) (by omega)
  have c3 := N.many hi (j := 3) (by omega) (by omega)
  have q0 : fourS ks t (i : Int) ∈ (nb ks (i : Int)).filter fun x => decide (4 ≤ tv t x) := getD_mem (by omega)
  unfold to5
  generalize fourS ks t (i : Int) = q at q0 ⊢
  obtain ⟨q1, q2⟩ := List.mem_filter.mp q0
  have q2 := of_decide_eq_true q2
  have r0 : threeS ks t (i : Int) q ∈ (othS ks (i : Int) [q]).filter fun x => decide (3 ≤ tv t x) := getD_mem (by
    have e : (othS ks (i : Int) [q]).filter (fun x => decide (3 ≤ tv t x)) = ((nb ks (i : Int)).filter fun x => decide (3 ≤ tv t x)).filter fun x => !decide (x ∈ [q]) := by
      unfold othS
      rw [List.filter_filter, List.filter_filter]
      congr 1
      funext x
      exact Bool.and_comm _ _
    rw [e]
    have h1 := filter_two (fun x => decide (x ∈ [q])) ((nb ks (i : Int)).filter fun x => decide (3 ≤ tv t x))
    have h2 : (((nb ks (i : Int)).filter fun x => decide (3 ≤ tv t x)).filter fun x => decide (x ∈ [q])).length ≤ [q].length := len_le_of_sub (((N.nd (i : Int)).filter _).filter _) fun x hx => by
      have := (List.mem_filter.mp hx).2
      exact of_decide_eq_true this
    simp only [List.length_singleton] at h2
    omega)
  generalize threeS ks t (i : Int) q = r at r0 ⊢
  obtain ⟨r1, r2⟩ := List.mem_filter.mp r0
  have r2 := of_decide_eq_true r2
  obtain ⟨r4, r3⟩ := mem_oth.mp r1
  clear r1
  simp only [List.mem_singleton] at r3
  have o1 := oth_len (wo := [q, r]) (N.nd (i : Int))
  simp only [List.length_cons, List.length_nil] at o1
  have o2 := oth_nd (wo := [q, r]) (N.nd (i : Int))
  have e0 := getD_mem (l := othS ks (i : Int) [q, r]) (j := 0) (by omega)
  have f0 := getD_mem (l := othS ks (i : Int) [q, r]) (j := 1) (by omega)
  have ne := getD_ne o2 (i := 0) (j := 1) (by omega) (by omega) (by decide)
  unfold qr5
  generalize (othS ks (i : Int) [q, r]).getD 0 0 = e at e0 ne ⊢
  generalize (othS ks (i : Int) [q, r]).getD 1 0 = f at f0 ne ⊢
  obtain ⟨e1, e2⟩ := mem_oth.mp e0
  obtain ⟨f1, f2⟩ := mem_oth.mp f0
  simp only [List.mem_cons, List.not_mem_nil, or_false, not_or] at e2 f2
  obtain ⟨q, rfl, hq⟩ := N.nat q1
  obtain ⟨r, rfl, hr⟩ := N.nat r4
  obtain ⟨e, rfl, he⟩ := N.nat e1
  obtain ⟨f, rfl, hf⟩ := N.nat f1
  have z1 := N.irr q1
  have z2 := N.irr r4
  have z3 := N.irr e1
  have z4 := N.irr f1
  have nbk := nb_ok N.ok
  have fin : ∀ g : Nat → Int, (∀ j, j < n → g j = if j = q then 4 else if j = r then 3 else 0) → Rn (nb ks) n g [(i : Int), e, i, f, i, q, r, e, f] (upS zeroS i 5) := fun g hg =>
    run_end5 nbk hi hq hr he hf (by omega) (by omega) (by omega) (by omega) (by omega) (by omega) (by omega) (by omega) (by omega) (by omega) q1 r4 e1 f1 (N.sym e1) hg
  have main : ∀ a : List Int, Rn (nb ks) n zeroS a (fun j => if j = q then 4 else if j = r then 3 else 0) → a.length ≤ 22 → (∀ x ∈ a, 0 ≤ x ∧ x < (n : Int)) →
      Rn (nb ks) n zeroS (a ++ [(i : Int), e, i, f, i, q, r, e, f]) (upS zeroS i 5) ∧ (a ++ [(i : Int), e, i, f, i, q, r, e, f]).length ≤ 31 ∧ ∀ x ∈ a ++ [(i : Int), e, i, f, i, q, r, e, f], 0 ≤ x ∧ x < (n : Int) := fun a ha hl hx => by
    refine ⟨ha.app (fin _ fun j _ => rfl), by rw [List.length_append]; simp only [List.length_cons, List.length_nil]; omega, fun x hm => ?_⟩
    rcases List.mem_append.mp hm with hm | hm
    · exact hx x hm
    · simp only [List.mem_cons, List.not_mem_nil, or_false] at hm
      omega
  unfold fin5 pre5
  have bx : ∀ (sp go l : Nat), sp < n → go < n → l < n → ∀ x ∈ bes2 (i : Int) sp go l, 0 ≤ x ∧ x < (n : Int) := fun sp go l h1 h2 h3 x hx => by
    unfold bes2 at hx
    simp only [List.mem_cons, List.not_mem_nil, or_false] at hx
    omega
  cases ho : othS ks (r : Int) [(i : Int), (q : Int)] with
  | cons x l =>
    have hx0 : x ∈ othS ks (r : Int) [(i : Int), (q : Int)] := by rw [ho]; exact List.mem_cons_self
    obtain ⟨x1, x2⟩ := mem_oth.mp hx0
    clear hx0
    dsimp only
    simp only [List.mem_cons, List.not_mem_nil, or_false, not_or] at x2
    obtain ⟨x, rfl, hx⟩ := N.nat x1
    have z5 := N.irr x1
    obtain ⟨sp, es, hs, ns, as⟩ : ∃ sp : Nat, spareS (f : Int) (e : Int) (x : Int) = (sp : Int) ∧ sp < n ∧ (sp = f ∨ sp = e) ∧ (sp : Int) ∈ nb ks (i : Int) := by
      rcases spare_or (f : Int) (e : Int) (x : Int) with ⟨h, _⟩ | ⟨h, _⟩
      · exact ⟨f, h, hf, .inl rfl, f1⟩
      · exact ⟨e, h, he, .inr rfl, e1⟩
    rw [es]
    refine main _ (((N.run4 hq q2).app (run_bes3 nbk hi hs hr hx (by omega) (by omega) (by omega) (by omega) (by omega) (by omega) (by omega) (by omega) as (N.sym r4) x1 (by omega))).to fun j _ => by walk_at "uu") (by
      rw [List.length_append]; unfold to4 to3 bes2; simp) fun y hy => ?_
    rcases List.mem_append.mp hy with hy | hy
    · obtain ⟨h1, h2⟩ := N.third hq q2
      unfold to4 at hy
      have o1 := oth_len (wo := [thirdS ks (q : Int)]) (N.nd (q : Int))
      have hdq := N.deg hq
      simp only [List.length_singleton] at o1
      have w0 := (mem_oth.mp (getD_mem (l := othS ks (q : Int) [thirdS ks (q : Int)]) (j := 0) (by omega))).1
      have w1 := (mem_oth.mp (getD_mem (l := othS ks (q : Int) [thirdS ks (q : Int)]) (j := 1) (by omega))).1
      have m0 := getD_mem (l := nb ks (thirdS ks (q : Int))) (j := 0) (by omega)
      have m1 := getD_mem (l := nb ks (thirdS ks (q : Int))) (j := 1) (by omega)
      have k1 := nb_rng N.ok h1
      have k2 := nb_rng N.ok w0
      have k3 := nb_rng N.ok w1
      have k4 := nb_rng N.ok m0
      have k5 := nb_rng N.ok m1
      unfold to3 at hy
      simp only [List.mem_append, List.mem_cons, List.not_mem_nil, or_false] at hy
      omega
    · exact bx sp r x hs hr hx y hy
  | nil =>
    dsimp only
    have hdr := N.deg hr
    have hdq := N.deg hq
    have emp : ∀ y : Int, y ∈ nb ks (r : Int) → y = (i : Int) ∨ y = (q : Int) := fun y hy => by
      by_cases c1 : y = (i : Int)
      · exact .inl c1
      · by_cases c2 : y = (q : Int)
        · exact .inr c2
        · have : y ∈ othS ks (r : Int) [(i : Int), (q : Int)] := mem_oth.mpr ⟨hy, by simp [c1, c2]⟩
          rw [ho] at this
          cases this
    have rq : (q : Int) ∈ nb ks (r : Int) := by
      by_cases c : (q : Int) ∈ nb ks (r : Int)
      · exact c
      · have := len_le_of_sub (m := [(i : Int)]) (N.nd (r : Int)) fun y hy => by
          rcases emp y hy with rfl | rfl
          · exact List.mem_singleton.mpr rfl
          · exact absurd hy c
        simp only [List.length_singleton] at this
        omega
    have o3 := oth_len (wo := [(i : Int), (r : Int)]) (N.nd (q : Int))
    simp only [List.length_cons, List.length_nil] at o3
    have x0 := getD_mem (l := othS ks (q : Int) [(i : Int), (r : Int)]) (j := 0) (by omega)
    generalize (othS ks (q : Int) [(i : Int), (r : Int)]).getD 0 0 = x at x0 ⊢
    obtain ⟨x1, x2⟩ := mem_oth.mp x0
    simp only [List.mem_cons, List.not_mem_nil, or_false, not_or] at x2
    obtain ⟨x, rfl, hx⟩ := N.nat x1
    have z5 := N.irr x1
    obtain ⟨sp, es, hs, ns, as⟩ : ∃ sp : Nat, spareS (f : Int) (e : Int) (x : Int) = (sp : Int) ∧ sp < n ∧ (sp = f ∨ sp = e) ∧ (sp : Int) ∈ nb ks (i : Int) := by
      rcases spare_or (f : Int) (e : Int) (x : Int) with ⟨h, _⟩ | ⟨h, _⟩
      · exact ⟨f, h, hf, .inl rfl, f1⟩
      · exact ⟨e, h, he, .inr rfl, e1⟩
    rw [es]
    refine main _ (((run_to3 nbk hr hi hq (by omega) (by omega) (by omega) (N.sym r4) rq r4).app (run_bes4 nbk hi hs hq hx (by omega) (by omega) (by omega) (by omega) (by omega) (by omega) (by omega) (by omega) as (N.sym q1) x1 (N.sym rq) (by omega))).to fun j _ => by walk_at "uu") (by
      rw [List.length_append]; unfold to3 bes2; simp) fun y hy => ?_
    rcases List.mem_append.mp hy with hy | hy
    · unfold to3 at hy
      simp only [List.mem_cons, List.not_mem_nil, or_false] at hy
      omega
    · exact bx sp q x hs hq hx y hy
theorem pw1 : (2 : Int) ^ (1 : Int).toNat - 1 = 1 := by decide
theorem pw2 : (2 : Int) ^ (2 : Int).toNat - 1 = 3 := by decide
theorem pw3 : (2 : Int) ^ (3 : Int).toNat - 1 = 7 := by decide
theorem pw4 : (2 : Int) ^ (4 : Int).toNat - 1 = 15 := by decide
/-- LOW: the switchings to c leave all others off -/
theorem NetF.low (N : NetF n ks t) {i : Nat} (hi : i < n) {c : Int} (h1 : 1 ≤ c) (h5 : c ≤ 5) (hc : c ≤ tv t (i : Int)) :
    Rn (nb ks) n zeroS (lowS ks t (i : Int) c) (upS zeroS i c) ∧ ((lowS ks t (i : Int) c).length : Int) ≤ 2 ^ c.toNat - 1 ∧ ∀ x ∈ lowS ks t (i : Int) c, 0 ≤ x ∧ x < (n : Int) := by
  have nbk := nb_ok N.ok
  have hd := N.deg hi
  unfold lowS
  rcases (show c = 1 ∨ c = 2 ∨ c = 3 ∨ c = 4 ∨ c = 5 by omega) with rfl | rfl | rfl | rfl | rfl
  · rw [if_pos rfl]
    refine ⟨.on 1 nbk hi rfl (by omega) (fun j _ _ _ => by walk_at "uu") (fun d a b => by omega) (.nil fun j _ => rfl), by rw [pw1]; simp, fun x hx => ?_⟩
    rw [List.mem_singleton.mp hx]
    omega
  · rw [if_neg (by decide), if_pos rfl]
    have m0 := getD_mem (l := nb ks (i : Int)) (j := 0) (by omega)
    generalize (nb ks (i : Int)).getD 0 0 = a at m0 ⊢
    obtain ⟨a, rfl, ha⟩ := N.nat m0
    have z := N.irr m0
    refine ⟨.on 1 nbk ha rfl (by omega) (fun j _ _ _ => by walk_at "uu") (fun d a b => by omega) (.on 2 nbk hi (by walk_at "uu") (by omega) (fun j _ _ _ => by walk_at "uu") (one_d ⟨a, m0, by walk_at "uu"⟩) (.off ha (by walk_at "uu") (.nil fun j _ => by walk_at "uu"))), by rw [pw2]; simp, fun x hx => ?_⟩
    simp only [List.mem_cons, List.not_mem_nil, or_false] at hx
    omega
  · rw [if_neg (by decide), if_neg (by decide), if_pos rfl]
    have m0 := getD_mem (l := nb ks (i : Int)) (j := 0) (by omega)
    have m1 := getD_mem (l := nb ks (i : Int)) (j := 1) (by omega)
    have mn := getD_ne (N.nd (i : Int)) (i := 0) (j := 1) (by omega) (by omega) (by decide)
    generalize (nb ks (i : Int)).getD 0 0 = a at m0 mn ⊢
    generalize (nb ks (i : Int)).getD 1 0 = b at m1 mn ⊢
    obtain ⟨a, rfl, ha⟩ := N.nat m0
    obtain ⟨b, rfl, hb⟩ := N.nat m1
    have z4 := N.irr m0
    have z5 := N.irr m1
    refine ⟨run_to3 nbk hi ha hb (by omega) (by omega) (by omega) m0 m1 (N.sym m0), by rw [pw3]; unfold to3; simp, fun x hx => ?_⟩
    unfold to3 at hx
    simp only [List.mem_cons, List.not_mem_nil, or_false] at hx
    omega
  · rw [if_neg (by decide), if_neg (by decide), if_neg (by decide), if_pos rfl]
    refine ⟨N.run4 hi hc, by rw [pw4]; unfold to4 to3; simp, fun x hx => ?_⟩
    obtain ⟨h1, h2⟩ := N.third hi hc
    unfold to4 at hx
    have o1 := oth_len (wo := [thirdS ks (i : Int)]) (N.nd (i : Int))
    simp only [List.length_singleton] at o1
    have w0 := (mem_oth.mp (getD_mem (l := othS ks (i : Int) [thirdS ks (i : Int)]) (j := 0) (by omega))).1
    have w1 := (mem_oth.mp (getD_mem (l := othS ks (i : Int) [thirdS ks (i : Int)]) (j := 1) (by omega))).1
    have m0 := getD_mem (l := nb ks (thirdS ks (i : Int))) (j := 0) (by omega)
    have m1 := getD_mem (l := nb ks (thirdS ks (i : Int))) (j := 1) (by omega)
    have k1 := nb_rng N.ok h1
    have k2 := nb_rng N.ok w0
    have k3 := nb_rng N.ok w1
    have k4 := nb_rng N.ok m0
    have k5 := nb_rng N.ok m1
    unfold to3 at hx
    simp only [List.mem_append, List.mem_cons, List.not_mem_nil, or_false] at hx
    omega
  · rw [if_neg (by decide), if_neg (by decide), if_neg (by decide), if_neg (by decide)]
    obtain ⟨a, b, d⟩ := N.run5 hi hc
    exact ⟨a, by
      have e : (2 : Int) ^ (5 : Int).toNat - 1 = 31 := by decide
      rw [e]
      omega, d⟩
/-- BOUND: no state that can arise has a channel above the table -/
theorem NetF.bound (N : NetF n ks t) {s : List Int} (h : Rch (nb ks) n s) : ∀ i : Nat, i < n → tv s (i : Int) ≤ tv t (i : Int) := by
  have pos : ∀ i : Nat, i < n → 1 ≤ tv t (i : Int) := fun i hi => by have := (N.tab.2 i hi).1; omega
  induction h with
  | zero =>
    intro i hi
    rw [tv_rep hi]
    have := pos i hi
    omega
  | @step s k hs hk ih =>
    intro i hi
    rw [sw_tv (by rw [hs.len]; exact hk)]
    split
    · rename_i e
      subst e
      unfold chn
      split
      · have m := mexL_is ((nb ks (i : Int)).map (tv s))
        generalize mexL ((nb ks (i : Int)).map (tv s)) = c at m ⊢
        have hh : Has ((nb ks (i : Int)).map (tv t)) (c - 1) := fun j h1 h2 => by
          unfold cge
          rw [List.countP_map, List.countP_eq_length_filter]
          have nd : ((List.range (c - j).toNat).map fun (a : Nat) => (a : Int) + j).Nodup :=
            List.pairwise_map.mpr (by
              refine List.Pairwise.imp ?_ List.nodup_range
              intro a b ne e
              exact ne (by omega))
          have := len_le_of_sub (m := ((nb ks (i : Int)).filter ((fun x => decide (j ≤ x)) ∘ tv t)).map (tv s)) nd fun x hx => by
            obtain ⟨a, ha, rfl⟩ := List.mem_map.mp hx
            have := List.mem_range.mp ha
            obtain ⟨y, hy, ey⟩ := List.mem_map.mp (m.all ((a : Int) + j) (by omega) (by omega))
            obtain ⟨y', rfl, hy'⟩ := N.nat hy
            have := ih y' hy'
            refine List.mem_map.mpr ⟨_, List.mem_filter.mpr ⟨hy, ?_⟩, ey⟩
            show decide (j ≤ tv t (y' : Int)) = true
            exact decide_eq_true (by omega)
          rw [List.length_map, List.length_map, List.length_range] at this
          omega
        have := ((N.tab.2 i hi).2 (c - 1)).mpr hh
        omega
      · have := pos i hi
        omega
    · exact ih i hi
end
end NX

namespace NX
open PySem PySem.Spec PyProof.Rows L2
open Evl (Ex ex_l ex_t fresh_back)
abbrev s_chain : Stmt := top 27
theorem sc_chain : FnScope ["numbers", "found", "number"] ["numbers"] (defScope s_chain) := ⟨rfl, rfl, rfl, by decide +kernel, rfl, by decide +kernel, by decide +kernel⟩
def spChain (K : PySem.W.Frag) : Sp := fun vs H Q _ => ∃ (p : Addr) (ns : List Int), vs = [.ref p] ∧ SqL K H p (ns.map V.int) ∧ ∀ g H', Ex H H' → IsCh ns g → Q (.int g) H'
theorem n_chain {K : PySem.W.Frag} {G H : Hp} {L : List (Addr × HO)} {p : Addr} {ns : List Int} {Q : VK} {E : XK} (S : Own G L H) (h : SqL K H p (ns.map V.int)) (k : ∀ g H1, Ex H H1 → IsCh ns g → Own G L H1 → Q (.int g) H1) : spChain K [.ref p] H Q E :=
  ⟨p, ns, rfl, h, fun g H' e c => k g H' e c (S.grow e)⟩
section
variable {P : Program} {w : World} {K : PySem.W.Frag} {mg : Str → Option Value} {base : Heap}
theorem ok_chain {f : Addr} {fd : FuncData} (F : Fun K "chain" "chain" s_chain f fd) (T : Txt mg) : FnOk P w K mg base CX0 1 f fd ["numbers"] (spChain K) := by
  refine F.ok sc_chain (fun vs H Q E h => ?_) (fun cdv A outer s H vs Q E hr h => ?_)
  · obtain ⟨p, ns, rfl, _⟩ := h
    rfl
  · obtain ⟨p, ns, rfl, hp, k⟩ := h
    refine ⟨_, (pss_cons (ps_set (i := 1) sc_chain.nd rfl (Or.inl rfl) pe_int)
      (pss_cons (ps_for PassesOwn.never rfl (pi_list (pe_callB cr_sortedI (by rfl) T.n_sorted (by decide +kernel) (pa_cons (pv 0) pa_nil))) (pg_name (i := 2) sc_chain.nd rfl (Or.inl rfl)) (pss_one (ps_if (pt_cmpR op_gt (pv 2) (pv 1) (nomark _)) (pss_one (ps_aug (i := 1) sc_chain.nd rfl (Or.inl rfl) pe_int ip_add)) pss_nil)))
      (pss_one (ps_ret (pv 1))))), ?_⟩
    walk_at "go"
    refine n_sortI (Own.start H) hp fun ms q G1 H1 hpm hs _ e1 _ hq S1 => ?_
    walk_at "go"
    refine w_list (xs := ms.map V.int) (fun i σ' H' => (∃ g x, σ' = [some (.ref p), some (.int g), x] ∧ IsCh (ms.take i) g) ∧ Own G1 [] H') (SqL.of (S1.ex _ _ hq)) ⟨⟨0, _, rfl, IsCh.nil⟩, S1⟩ (fun i σ' H' h => SqL.of (h.2.ex _ _ hq)) ?_ ?_
    · rintro i y σ' H' hy ⟨⟨g, x, rfl, hc⟩, S⟩
      obtain ⟨z, hz, rfl⟩ := get_map hy
      have hc' := IsCh.snoc (x := z) hc fun y hy => by
        obtain ⟨j, hj, e⟩ := List.mem_iff_getElem.mp hy
        have hj' : j < i ∧ j < ms.length := by rw [List.length_take] at hj; omega
        rw [List.getElem_take] at e
        obtain ⟨hi, ez⟩ := List.getElem?_eq_some_iff.mp hz
        have := List.pairwise_iff_getElem.mp hs j i hj'.2 hi hj'.1
        omega
      rw [← take_snoc hz] at hc'
      walk_at "go"
      refine if_2 (fun e => ?_) (fun e => ?_)
      · have e := of_decide_eq_true e
        walk_at "go"
        rw [if_pos e] at hc'
        exact ⟨⟨_, _, rfl, hc'⟩, S⟩
      · have e := of_decide_eq_false e
        walk_at "go"
        rw [if_neg e] at hc'
        exact ⟨⟨_, _, rfl, hc'⟩, S⟩
    · rintro σ' H' ⟨⟨g, x, rfl, hc⟩, S⟩
      rw [List.length_map, List.take_length] at hc
      walk_at "go"
      exact k g _ (e1.trans S.ex) (hc.perm hpm)
end
end NX

namespace NX
open PySem PySem.Spec PyProof.Rows L2
open Evl (Ex ex_l ex_t fresh_back)
abbrev s_greatest_channels : Stmt := top 28
theorem sc_greatest_channels : FnScope ["network", "table", "lowered", "later", "station", "one"] ["network"] (defScope s_greatest_channels) := ⟨rfl, rfl, rfl, by decide +kernel, rfl, by decide +kernel, by decide +kernel⟩
def spGC (C : Addr) : Sp := fun vs H Q _ => ∃ (a : Addr) (n : Nat) (ks : List Pr), vs = [.ref a] ∧ NetAt C H a n ks ∧ ∀ t, TabF n ks t → Ret (.tup (t.map V.int)) H Q
theorem n_gc {C : Addr} {G H : Hp} {L : List (Addr × HO)} {a : Addr} {n : Nat} {ks : List Pr} {Q : VK} {E : XK} (S : Own G L H) (N : NetAt C G a n ks)
    (k : ∀ t p G1 H1, TabF n ks t → H p = none → Ex G G1 → Ex H H1 → G1 p = some (.tup (t.map V.int)) → Own G1 L H1 → Q (.ref p) H1) : spGC C [.ref a] H Q E :=
  ⟨a, n, ks, rfl, N.mono S.ex, fun t ht => n_retG S fun p G1 H1 => k t p G1 H1 ht⟩
section
variable {P : Program} {w : World} {K : PySem.W.Frag} {mg : Str → Option Value} {base : Heap}
theorem ok_gc {f C : Addr} {fd : FuncData} (F : Fun K "greatest_channels" "greatest_channels" s_greatest_channels f fd) (T : Txt mg) (NC : NetC K C) (c_chain : Cal P w K mg base 1 "chain" ["numbers"] [] (spChain K))
    (M_len : Mth P w K mg base 1 C "__len__" ["self"] (spLen C)) : FnOk P w K mg base CX0 3 f fd ["network"] (spGC C) := by
  refine F.ok sc_greatest_channels (fun vs H Q E h => ?_) (fun cdv A outer s H vs Q E hr h => ?_)
  · obtain ⟨a, n, ks, rfl, _⟩ := h
    rfl
  · obtain ⟨a, n, ks, rfl, N, k⟩ := h
    have hu65 : ∀ X : Cx, X.A = A.deeper (envOfC "greatest_channels" (defScope s_greatest_channels) s.heap.objs.size f cdv) → X.A.units + 65 < cLine := fun X e => by rw [e]; have := hr.un; omega
    obtain ⟨dx, kp, np, xs, nps, o⟩ := N.at_
    have ok := N.ok
    have hn := N.sz
    refine ⟨_, (pss_cons (ps_set (i := 1) sc_greatest_channels.nd rfl (Or.inr rfl) (pe_lc (own := [("station", 4)]) (by rfl) sc_greatest_channels.nd (pi_range1 (by rfl) T.n_range (pa_cons (pe_callB (call_lenNet NC M_len (hr.mono (by first | decide | omega))) (by rfl) T.n_len (by decide +kernel) (pa_cons (pv 0) pa_nil)) pa_nil)) (blkOk_by (own := [("station", 4)]) (N := ["network", "table", "lowered", "later", "station", "one"]) (sc := defScope s_greatest_channels) (by decide +kernel)) (fun _ _ _ _ _ => (pg_name (i := 4) sc_greatest_channels.nd rfl (Or.inl rfl))) (fun _ _ _ _ _ => pts_nil) (fun _ _ _ _ _ => (pe_op op_add (pe_callB (call_lenK (K := K)) (by rfl) T.n_len (by decide +kernel) (pa_cons (pe_ix (ix_listK (K := K)) (pe_fldK (K := K) (pv 0) rfl) (pv 4) (fun _ _ => rfl)) pa_nil)) pe_int))))
      (pss_cons (ps_set (i := 2) sc_greatest_channels.nd rfl (Or.inl rfl) pe_bl)
      (pss_cons (ps_while PassesOwn.never (pt_val (pv 2)) (pss_cons (ps_setLc (i := 3) (own := [("station", 4)]) (by rfl) sc_greatest_channels.nd rfl rfl (sw_true rfl rfl rfl (by decide +kernel)) (pi_range1 (by rfl) T.n_range (pa_cons (pe_callB (call_lenNet NC M_len (hr.mono (by first | decide | omega))) (by rfl) T.n_len (by decide +kernel) (pa_cons (pv 0) pa_nil)) pa_nil)) (blkOk_by (own := [("station", 4)]) (N := ["network", "table", "lowered", "later", "station", "one"]) (sc := defScope s_greatest_channels) (by decide +kernel)) (fun _ _ _ _ _ => (pg_name (i := 4) sc_greatest_channels.nd rfl (Or.inl rfl))) (fun _ _ _ _ _ => pts_nil) (fun _ _ _ _ _ => (pe_op op_add pe_int (pe_cal c_chain (hr.mono (by first | decide | omega)) passN (pa_cons (pe_lc (own := [("one", 5)]) (by rfl) sc_greatest_channels.nd (pi_listK (K := K) (pe_ix (ix_listK (K := K)) (pe_fldK (K := K) (pv 0) rfl) (pv 4) (fun _ _ => rfl))) (blkOk_by (own := [("one", 5)]) (by first | decide +kernel | kernel_rfl)) (fun _ _ _ _ _ => (pg_name (i := 5) sc_greatest_channels.nd rfl (Or.inl rfl))) (fun _ _ _ _ _ => pts_nil) (fun _ _ _ _ _ => (pe_ix (ix_listK (K := K)) (pv 1) (pv 5) (fun _ _ => rfl)))) pa_nil)))))
      (pss_cons (ps_set (i := 2) sc_greatest_channels.nd rfl (Or.inl rfl) (pe_cmpR (op_neD (Nat.lt_of_succ_lt (hu65 _ rfl))) (pv 3) (pv 1) (nomark _)))
      (pss_one (ps_set (i := 1) sc_greatest_channels.nd rfl (Or.inr rfl) (pv 3))))))
      (pss_one (ps_ret (pe_callTy call_tupN (by rfl) T.n_tuple (by decide +kernel) (pa_cons (pv 1) pa_nil))))))), ?_⟩
    walk_at "go"
    refine n_lenNet N ?_
    walk_at "go"
    refine v_rng1 (j := (n : Int)) (fun i acc G' L' => L' = [] ∧ ∃ c : List Int, c.length = i ∧ acc = c.map V.int ∧ ∀ j : Nat, j < i → tv c (j : Int) = ((nb ks (j : Int)).length : Int) + 1) (Own.start H) (by omega) ⟨rfl, [], rfl, rfl, fun j hj => absurd hj (Nat.not_lt_zero j)⟩ ?_ ?_
    · rintro D i acc G' L' H1 hi hi' e1 hl1 ⟨rfl, c, hc, rfl, hv⟩ S1
      obtain ⟨p, hp⟩ : ∃ p, nps[i]? = some p := ⟨_, List.getElem?_eq_getElem (by have := o.len; omega)⟩
      walk_at "go"
      refine ⟨rfl, ?_⟩
      walk_at "go"
      refine n_fld (S1.ex _ _ (e1 _ _ o.ins)) NC.cl NC.nN (nf_near kp np) ?_
      walk_at "go"
      refine g_ixL (SqL.of (S1.ex _ _ (e1 _ _ o.near))) (atI_nat (j := i) (v := .ref p) (by rw [List.getElem?_map, hp] <;> rfl)) ?_
      walk_at "go"
      refine n_len (SqL.of (S1.ex _ _ (e1 _ _ (o.each i p hp)))) ?_
      walk_at "go"
      refine c_yes S1 e1 hl1 hi' ⟨rfl, c ++ [((nb ks (i : Int)).length : Int) + 1], by rw [List.length_append, hc] <;> rfl, by rw [List.map_append, List.length_map] <;> rfl, fun j hj => ?_⟩
      by_cases e : j = i
      · subst e
        rw [← hc, tv_app2]
      · rw [tv_app1 (by omega) (by omega)]
        exact hv j (by omega)
    · rintro p acc G1 L1 H1 e1 _ ⟨rfl, t0, hlen, rfl, hv⟩ S1
      have hlen : t0.length = n := by omega
      have low0 : LowT n ks t0 := low_start hlen fun i hi => hv i (by omega)
      obtain ⟨S2, e2, hp2⟩ := S1.freeze
      generalize upd G1 p (.lst (t0.map V.int)) = G2 at S2 e2 hp2
      walk_at "go"
      refine s_while (fun m σ' H' => ∃ (q : Addr) (t : List Int) (low : Bool) (G' : Hp), (∃ x1 x2 x3, σ' = [some (.ref a), some (.ref q), some (.bl low), x1, x2, x3]) ∧ m = (if low then t.sum.toNat + 1 else 0) ∧ LowT n ks t ∧ (low = false → TabF n ks t) ∧
        Ex H G' ∧ Own G' [] H' ∧ G' q = some (.lst (t.map V.int))) _ ⟨p, t0, true, G2, ⟨_, _, _, rfl⟩, rfl, low0, (fun h => by cases h), e1.trans e2, S2, hp2⟩ ?_
      rintro m σ' H' ⟨q, t, low, G', ⟨x1, x2, x3, rfl⟩, rfl, hlow, hfin, eG, S, hq⟩
      have o' := (o.mono eG).mono S.ex
      walk_at "go"
      refine if_2 (fun e => ?_) (fun e => ?_)
      · subst e
        refine s_turn ?_
        walk_at "go"
        refine n_lenNet (N.mono (eG.trans S.ex)) ?_
        walk_at "go"
        refine v_rng1 (j := (n : Int)) (fun i acc G5 L' => L' = [] ∧ ∃ c : List Int, c.length = i ∧ acc = c.map V.int ∧ ∀ j : Nat, j < i → IsCh ((nb ks (j : Int)).map (tv t)) (tv c (j : Int) - 1)) S (by omega) ⟨rfl, [], rfl, rfl, fun j hj => absurd hj (Nat.not_lt_zero j)⟩ ?_ ?_
        · rintro D i acc G5 L' H5 hi hi' e5 hl5 ⟨rfl, c, hc, rfl, hv5⟩ S5
          obtain ⟨pi, hpi⟩ : ∃ p, nps[i]? = some p := ⟨_, List.getElem?_eq_getElem (by have := o.len; omega)⟩
          have o5 := (o.mono eG).mono e5
          have o5H := o5.mono S5.ex
          walk_at "go"
          refine ⟨rfl, ?_⟩
          walk_at "go"
          refine n_fld o5H.ins NC.cl NC.nN (nf_near kp np) ?_
          walk_at "go"
          refine g_ixL (SqL.of o5H.near) (atI_nat (j := i) (v := .ref pi) (by rw [List.getElem?_map, hpi] <;> rfl)) ?_
          have hz : (nb ks (i : Int)).length ≤ 1000000 := by
            have z := I_len ok N.up N.nd (i : Int)
            omega
          refine v_list (xs := (nb ks (i : Int)).map V.int) (fun j acc6 G6 L6 => L6 = [(D, .lst (c.map V.int))] ∧ acc6 = (((nb ks (i : Int)).take j).map (tv t)).map V.int) S5 (SqL.of (o5.each i pi hpi)) (by rw [List.length_map]; exact hz) ⟨rfl, rfl⟩ ?_ ?_
          · rintro D6 j x acc6 G6 L6 H6 hx hj e6 hl6 ⟨rfl, rfl⟩ S6
            obtain ⟨y, hy, rfl⟩ := get_map hx
            obtain ⟨y', rfl, hy'⟩ := nb_nat ok (List.mem_of_getElem? hy)
            walk_at "go"
            refine ⟨rfl, ?_⟩
            walk_at "go"
            refine g_ixL (SqL.of (S6.ex _ _ (e6 _ _ (e5 _ _ hq)))) (at_tv (by omega) (by have := hlow.1; omega)) ?_
            exact c_yes S6 e6 hl6 hj ⟨rfl, by rw [take_snoc hy, List.map_append, List.map_append] <;> rfl⟩
          · rintro p6 acc6 G6 L6 H6 e6 _ ⟨rfl, rfl⟩ S6
            rw [List.length_map, List.take_length] at S6
            walk_at "go"
            refine n_chain S6.forget S6.l0 fun g H7 e7 hch S7 => ?_
            walk_at "go"
            refine c_yes S7 (e5.trans e6) hl5 hi' ⟨rfl, c ++ [1 + g], by rw [List.length_append, hc] <;> rfl, by rw [List.map_append] <;> rfl, fun j hj => ?_⟩
            by_cases e : j = i
            · subst e
              rw [← hc, tv_app2, hc]
              have z : 1 + g - 1 = g := by omega
              rw [z]
              exact hch
            · rw [tv_app1 (by omega) (by omega)]
              exact hv5 j (by omega)
        · rintro p5 acc G5 L5 H5 e5 _ ⟨rfl, c, hc, rfl, hv5⟩ S5
          have hst : StepT n ks t c := ⟨by omega, fun i hi => hv5 i (by omega)⟩
          obtain ⟨S6, e6, hp6⟩ := S5.freeze
          generalize upd G5 p5 (.lst (c.map V.int)) = G6 at S6 e6 hp6
          walk_at "go"
          refine n_neIL (SqL.of (S6.ex _ _ hp6)) (SqL.of (S6.ex _ _ (e6 _ _ (e5 _ _ hq)))) ?_
          walk_at "go"
          have hs := low_sum hlow hst
          have hlow' := low_step ok hlow hst
          have eG6 := (eG.trans e5).trans e6
          by_cases ec : c = t
          · refine ⟨_, ?_, p5, c, !decide (c = t), G6, ⟨_, _, _, rfl⟩, rfl, hlow', fun _ => by rw [← ec] at hst; exact hst, eG6, S6, hp6⟩
            rw [decide_eq_true ec]
            show 0 < t.sum.toNat + 1
            omega
          · refine ⟨_, ?_, p5, c, !decide (c = t), G6, ⟨_, _, _, rfl⟩, rfl, hlow', (fun h => by rw [decide_eq_false ec] at h; cases h), eG6, S6, hp6⟩
            rw [decide_eq_false ec]
            show c.sum.toNat + 1 < t.sum.toNat + 1
            have := hs.2.2 ec
            omega
      · walk_at "go"
        refine n_tupL S (SqL.of (S.ex _ _ hq)) fun r G7 H7 hr7 e7 e7' h7 S7 => ?_
        exact k t (hfin e) r H7 (fresh_back (eG.trans S.ex) hr7) (eG.trans (S.ex.trans e7')) (S7.ex _ _ h7)
end
end NX

namespace NX
open PySem PySem.Spec PyProof.Rows L2
open Evl (Ex ex_l ex_t fresh_back)
abbrev s_others : Stmt := top 31
theorem sc_others : FnScope ["network", "station", "without", "one"] ["network", "station", "without"] (defScope s_others) := ⟨rfl, rfl, rfl, by decide +kernel, rfl, by decide +kernel, by decide +kernel⟩
abbrev s_to_three : Stmt := top 32
theorem sc_to_three : FnScope ["station", "high", "low"] ["station", "high", "low"] (defScope s_to_three) := ⟨rfl, rfl, rfl, by decide +kernel, rfl, by decide +kernel, by decide +kernel⟩
abbrev s_to_four : Stmt := top 33
theorem sc_to_four : FnScope ["network", "station", "third", "high", "low", "second", "first", "steps", "one"] ["network", "station"] (defScope s_to_four) := ⟨rfl, rfl, rfl, by decide +kernel, rfl, by decide +kernel, by decide +kernel⟩
abbrev s_beside_two : Stmt := top 34
theorem sc_beside_two : FnScope ["station", "spare", "goal", "low"] ["station", "spare", "goal", "low"] (defScope s_beside_two) := ⟨rfl, rfl, rfl, by decide +kernel, rfl, by decide +kernel, by decide +kernel⟩
abbrev s_to_five : Stmt := top 35
theorem sc_to_five : FnScope ["network", "station", "table", "fourth", "third", "second", "first", "free", "spare", "steps", "low", "one"] ["network", "station", "table"] (defScope s_to_five) := ⟨rfl, rfl, rfl, by decide +kernel, rfl, by decide +kernel, by decide +kernel⟩
abbrev s_schedule_low : Stmt := top 36
theorem sc_schedule_low : FnScope ["network", "station", "channel", "table", "near"] ["network", "station", "channel"] (defScope s_schedule_low) := ⟨rfl, rfl, rfl, by decide +kernel, rfl, by decide +kernel, by decide +kernel⟩
theorem NetAt.netF {C : Addr} {H : Hp} {a : Addr} {n : Nat} {ks : List Pr} (N : NetAt C H a n ks) {t : List Int} (h : TabF n ks t) : NetF n ks t := ⟨N.ok, fun i => nb_nodup N.ok N.up N.nd i, h⟩
def spOthers (K : PySem.W.Frag) (C : Addr) : Sp := fun vs H Q _ => ∃ (a p : Addr) (n : Nat) (ks : List Pr) (i : Int) (wo : List Int), vs = [.ref a, .int i, .ref p] ∧ NetAt C H a n ks ∧ (0 ≤ i ∧ i < (n : Int)) ∧ SqL K H p (wo.map V.int) ∧ Ret (.lst ((othS ks i wo).map V.int)) H Q
def spTo3 : Sp := fun vs H Q _ => ∃ (s h l : Int), vs = [.int s, .int h, .int l] ∧ Ret (.lst ((to3 s h l).map V.int)) H Q
def spTo4 (C : Addr) : Sp := fun vs H Q _ => ∃ (a : Addr) (n : Nat) (ks : List Pr) (i : Nat) (t : List Int), vs = [.ref a, .int (i : Int)] ∧ NetAt C H a n ks ∧ i < n ∧ TabF n ks t ∧ 4 ≤ tv t (i : Int) ∧ Ret (.lst ((to4 ks (i : Int)).map V.int)) H Q
def spBes : Sp := fun vs H Q _ => ∃ (s p g l : Int), vs = [.int s, .int p, .int g, .int l] ∧ Ret (.lst ((bes2 s p g l).map V.int)) H Q
def spTo5 (C : Addr) : Sp := fun vs H Q _ => ∃ (a tp : Addr) (n : Nat) (ks : List Pr) (i : Nat) (t : List Int), vs = [.ref a, .int (i : Int), .ref tp] ∧ NetAt C H a n ks ∧ i < n ∧ TabF n ks t ∧ H tp = some (.tup (t.map V.int)) ∧ 5 ≤ tv t (i : Int) ∧ Ret (.lst ((to5 ks t (i : Int)).map V.int)) H Q
section
variable {C : Addr} {G H : Hp} {L : List (Addr × HO)} {a : Addr} {n : Nat} {ks : List Pr} {Q : VK} {E : XK} {K : PySem.W.Frag}
theorem n_others {i : Int} {p : Addr} {wo : List Int} (S : Own G L H) (N : NetAt C G a n ks) (h : 0 ≤ i ∧ i < (n : Int)) (hp : SqL K H p (wo.map V.int)) (k : ∀ p G1 H1, H p = none → Ex G G1 → Ex H H1 → G1 p = some (.lst ((othS ks i wo).map V.int)) → Own G1 L H1 → Q (.ref p) H1) : spOthers K C [.ref a, .int i, .ref p] H Q E :=
  ⟨a, p, n, ks, i, wo, rfl, N.mono S.ex, h, hp, n_retG S k⟩
theorem n_to3 {s h l : Int} (S : Own G L H) (k : ∀ p G1 H1, H p = none → Ex G G1 → Ex H H1 → G1 p = some (.lst ((to3 s h l).map V.int)) → Own G1 L H1 → Q (.ref p) H1) : spTo3 [.int s, .int h, .int l] H Q E := ⟨s, h, l, rfl, n_retG S k⟩
theorem n_bes {s p g l : Int} (S : Own G L H) (k : ∀ q G1 H1, H q = none → Ex G G1 → Ex H H1 → G1 q = some (.lst ((bes2 s p g l).map V.int)) → Own G1 L H1 → Q (.ref q) H1) : spBes [.int s, .int p, .int g, .int l] H Q E := ⟨s, p, g, l, rfl, n_retG S k⟩
theorem n_to4 {i : Nat} {t : List Int} (S : Own G L H) (N : NetAt C G a n ks) (h : i < n) (ht : TabF n ks t) (h4 : 4 ≤ tv t (i : Int)) (k : ∀ p G1 H1, H p = none → Ex G G1 → Ex H H1 → G1 p = some (.lst ((to4 ks (i : Int)).map V.int)) → Own G1 L H1 → Q (.ref p) H1) : spTo4 C [.ref a, .int (i : Int)] H Q E :=
  ⟨a, n, ks, i, t, rfl, N.mono S.ex, h, ht, h4, n_retG S k⟩
theorem n_to5 {i : Nat} {t : List Int} {tp : Addr} (S : Own G L H) (N : NetAt C G a n ks) (h : i < n) (ht : TabF n ks t) (htp : G tp = some (.tup (t.map V.int))) (h4 : 5 ≤ tv t (i : Int)) (k : ∀ p G1 H1, H p = none → Ex G G1 → Ex H H1 → G1 p = some (.lst ((to5 ks t (i : Int)).map V.int)) → Own G1 L H1 → Q (.ref p) H1) : spTo5 C [.ref a, .int (i : Int), .ref tp] H Q E :=
  ⟨a, tp, n, ks, i, t, rfl, N.mono S.ex, h, ht, S.ex _ _ htp, h4, n_retG S k⟩
end
theorem getD_at {l : List Int} {j : Nat} (h : j < l.length) : (l.map V.int)[j]? = some (.int (l.getD j 0)) := by
  rw [List.getElem?_map, List.getD_eq_getElem?_getD, List.getElem?_eq_getElem h] <;> rfl
theorem take2 {l : List Int} (h : 2 ≤ l.length) : l.take 2 = [l.getD 0 0, l.getD 1 0] := by
  match l, h with
  | x :: y :: l, _ => rfl
/-- l[:2] of a list with two items or more -/
theorem n_sl2 {K : PySem.W.Frag} {G H : Hp} {L : List (Addr × HO)} {p : Addr} {l : List Int} {Q : VK} (S : Own G L H) (h : SqL K H p (l.map V.int)) (h2 : 2 ≤ l.length) (k : ∀ p G1 H1, H p = none → Ex G G1 → Ex H H1 → G1 p = some (.lst [.int (l.getD 0 0), .int (l.getD 1 0)]) → Own G1 L H1 → Q (.ref p) H1) : rSlL K (.ref p) none (some 2) H Q :=
  n_sl S h fun p G1 H1 h1 e1 e2 hp S1 => by
    have z : cutV (l.map V.int) none (some 2) = [.int (l.getD 0 0), .int (l.getD 1 0)] := by
      have := cutV_to (l.map V.int) 2
      rw [← List.map_take, take2 h2] at this
      exact this
    rw [z] at hp
    exact k p G1 H1 h1 e1 e2 hp S1
theorem filter_snoc {l : List Int} {p : Int → Bool} {m : Nat} {y : Int} (h : l[m]? = some y) : (l.take (m + 1)).filter p = (l.take m).filter p ++ (if p y = true then [y] else []) := by
  rw [take_snoc h, List.filter_append]
  cases q : p y
  · rw [List.filter_cons_of_neg (by rw [q]; exact Bool.false_ne_true), List.filter_nil, if_neg Bool.false_ne_true]
  · rw [List.filter_cons_of_pos q, List.filter_nil, if_pos rfl]
/-- the parts of to_five are there -/
theorem NetF.parts {n : Nat} {ks : List Pr} {t : List Int} (N : NetF n ks t) {i : Nat} (hi : i < n) (h : 5 ≤ tv t (i : Int)) : (0 < ((nb ks (i : Int)).filter fun x => decide (4 ≤ tv t x)).length ∧ (fourS ks t (i : Int) ∈ nb ks (i : Int) ∧ 4 ≤ tv t (fourS ks t (i : Int)))) ∧
    (0 < ((othS ks (i : Int) [fourS ks t (i : Int)]).filter fun x => decide (3 ≤ tv t x)).length ∧ threeS ks t (i : Int) (fourS ks t (i : Int)) ∈ othS ks (i : Int) [fourS ks t (i : Int)] ∧ 3 ≤ tv t (threeS ks t (i : Int) (fourS ks t (i : Int)))) ∧
    2 ≤ (othS ks (i : Int) [fourS ks t (i : Int), threeS ks t (i : Int) (fourS ks t (i : Int))]).length := by
  have hd := N.deg hi
  have c4 := N.many hi (j := 4) (by omega) (by omega)
  have c3 := N.many hi (j := 3) (by omega) (by omega)
  have q0 : fourS ks t (i : Int) ∈ (nb ks (i : Int)).filter fun x => decide (4 ≤ tv t x) := getD_mem (by omega)
  generalize fourS ks t (i : Int) = q at q0 ⊢
  obtain ⟨q1, q2⟩ := List.mem_filter.mp q0
  have pr : 0 < ((othS ks (i : Int) [q]).filter fun x => decide (3 ≤ tv t x)).length := by
    have e : (othS ks (i : Int) [q]).filter (fun x => decide (3 ≤ tv t x)) = ((nb ks (i : Int)).filter fun x => decide (3 ≤ tv t x)).filter fun x => !decide (x ∈ [q]) := by
      unfold othS
      rw [List.filter_filter, List.filter_filter]
      congr 1
      funext x
      exact Bool.and_comm _ _
    rw [e]
    have h1 := filter_two (fun x => decide (x ∈ [q])) ((nb ks (i : Int)).filter fun x => decide (3 ≤ tv t x))
    have h2 : (((nb ks (i : Int)).filter fun x => decide (3 ≤ tv t x)).filter fun x => decide (x ∈ [q])).length ≤ [q].length := len_le_of_sub (((N.nd (i : Int)).filter _).filter _) fun x hx => by
      have := (List.mem_filter.mp hx).2
      exact of_decide_eq_true this
    simp only [List.length_singleton] at h2
    omega
  have r0 : threeS ks t (i : Int) q ∈ (othS ks (i : Int) [q]).filter fun x => decide (3 ≤ tv t x) := getD_mem pr
  generalize threeS ks t (i : Int) q = r at r0 ⊢
  obtain ⟨r1, r2⟩ := List.mem_filter.mp r0
  have o1 := oth_len (wo := [q, r]) (N.nd (i : Int))
  simp only [List.length_cons, List.length_nil] at o1
  exact ⟨⟨by omega, q1, of_decide_eq_true q2⟩, ⟨pr, r1, of_decide_eq_true r2⟩, by omega⟩
section
variable {P : Program} {w : World} {K : PySem.W.Frag} {mg : Str → Option Value} {base : Heap} {C CS CC : Addr}
theorem ok_others {f : Addr} {fd : FuncData} (F : Fun K "others" "others" s_others f fd) (T : Txt mg) (NC : NetC K C) (M_neighbours : Mth P w K mg base 3 C "neighbours" ["self", "station"] (spNbrs C)) : FnOk P w K mg base CX0 4 f fd ["network", "station", "without"] (spOthers K C) := by
  refine F.ok sc_others (fun vs H Q E h => ?_) (fun cdv A outer s H vs Q E hr h => ?_)
  · obtain ⟨a, p, n, ks, i, wo, rfl, _⟩ := h
    rfl
  · obtain ⟨a, p, n, ks, i, wo, rfl, N, hi, hp, k⟩ := h
    refine ⟨_, (pss_one (ps_ret (pe_lc (own := [("one", 3)]) (by rfl) sc_others.nd (pi_list (pe_mth (pv 0) M_neighbours NC.cl (hr.mono (by first | decide | omega)) passN (pa_cons (pv 1) pa_nil))) (blkOk_by (own := [("one", 3)]) (N := ["network", "station", "without", "one"]) (sc := defScope s_others) (by decide +kernel)) (fun _ _ _ _ _ => (pg_name (i := 3) sc_others.nd rfl (Or.inl rfl))) (fun _ _ _ _ _ => (pts_one (pt_cmpR (op_notIn_seqK (K := K)) (pv 3) (pv 2) rfl))) (fun _ _ _ _ _ => (pv 3))))), ?_⟩
    have hlen := I_len (n := n) N.ok N.up N.nd i
    have hn := N.sz
    walk_at "go"
    refine ⟨N.ins (by decide) (by decide), ?_⟩
    walk_at "go"
    refine n_nbrs (Own.start H) N hi fun q G1 H1 hq e1 e1' hq1 S1 => ?_
    refine v_list (xs := (nb ks i).map V.int) (fun m acc G' L' => L' = [] ∧ acc = (((nb ks i).take m).filter fun x => !decide (x ∈ wo)).map V.int) S1 (SqL.of hq1) (by rw [List.length_map]; omega) ⟨rfl, rfl⟩ ?_ ?_
    · rintro D m x acc G' L' H' hx hm e' hl' ⟨rfl, rfl⟩ S'
      obtain ⟨y, hy, rfl⟩ := get_map hx
      walk_at "go"
      refine ⟨rfl, ?_⟩
      walk_at "go"
      refine n_ninIL (ex_l ((e1.trans e').trans S'.ex) hp) ?_
      walk_at "go"
      refine if_2 (fun cc => ?_) (fun cc => ?_)
      · walk_at "go"
        refine c_yes S' e' hl' hm ⟨rfl, ?_⟩
        rw [filter_snoc hy, if_pos cc, List.map_append] <;> rfl
      · refine c_no S' e' hl' ⟨rfl, ?_⟩
        rw [filter_snoc hy, if_neg (by rw [cc]; exact Bool.false_ne_true), List.append_nil]
    · rintro p5 acc5 G5 L5 H5 e5 _ ⟨rfl, rfl⟩ S5
      rw [List.length_map, List.take_length] at S5
      exact k p5 H5 (fresh_back e1 (fresh_back e5 S5.no0)) (e1.trans (e5.trans S5.ex)) S5.get0
theorem ok_to3 {f : Addr} {fd : FuncData} (F : Fun K "to_three" "to_three" s_to_three f fd) : FnOk P w K mg base CX0 1 f fd ["station", "high", "low"] spTo3 := by
  refine F.ok sc_to_three (fun vs H Q E h => ?_) (fun cdv A outer s H vs Q E hr h => ?_)
  · obtain ⟨a, b, c, rfl, _⟩ := h
    rfl
  · obtain ⟨a, b, c, rfl, k⟩ := h
    refine ⟨_, (pss_one (ps_ret (pe_lst (pa_cons (pv 0) (pa_cons (pv 1) (pa_cons (pv 0) (pa_cons (pv 2) (pa_cons (pv 0) (pa_cons (pv 1) (pa_cons (pv 2) pa_nil)))))))))), ?_⟩
    walk_at "go"
    refine n_lst (Own.start H) (by show 7 ≤ 10000000; decide) fun p H1 hp S1 => ?_
    exact k p H1 hp S1.ex S1.get0
theorem ok_bes {f : Addr} {fd : FuncData} (F : Fun K "beside_two" "beside_two" s_beside_two f fd) : FnOk P w K mg base CX0 1 f fd ["station", "spare", "goal", "low"] spBes := by
  refine F.ok sc_beside_two (fun vs H Q E h => ?_) (fun cdv A outer s H vs Q E hr h => ?_)
  · obtain ⟨a, b, c, d, rfl, _⟩ := h
    rfl
  · obtain ⟨a, b, c, d, rfl, k⟩ := h
    refine ⟨_, (pss_one (ps_ret (pe_lst (pa_cons (pv 1) (pa_cons (pv 0) (pa_cons (pv 1) (pa_cons (pv 3) (pa_cons (pv 2) (pa_cons (pv 0) (pa_cons (pv 3) pa_nil)))))))))), ?_⟩
    walk_at "go"
    refine n_lst (Own.start H) (by show 7 ≤ 10000000; decide) fun p H1 hp S1 => ?_
    exact k p H1 hp S1.ex S1.get0
theorem ok_to4 {f : Addr} {fd : FuncData} (F : Fun K "to_four" "to_four" s_to_four f fd) (T : Txt mg) (NC : NetC K C) (M_neighbours : Mth P w K mg base 3 C "neighbours" ["self", "station"] (spNbrs C)) (c_others : Cal P w K mg base 4 "others" ["network", "station", "without"] [] (spOthers K C))
    (c_to_three : Cal P w K mg base 1 "to_three" ["station", "high", "low"] [] spTo3) : FnOk P w K mg base CX0 5 f fd ["network", "station"] (spTo4 C) := by
  refine F.ok sc_to_four (fun vs H Q E h => ?_) (fun cdv A outer s H vs Q E hr h => ?_)
  · obtain ⟨a, n, ks, i, t, rfl, _⟩ := h
    rfl
  · obtain ⟨a, n, ks, i, t, rfl, N, hi, ht, h4, k⟩ := h
    refine ⟨_, (pss_cons (ps_set (i := 2) sc_to_four.nd rfl (Or.inl rfl) (pe_ix ix_list (pe_lc (own := [("one", 8)]) (by rfl) sc_to_four.nd (pi_list (pe_mth (pv 0) M_neighbours NC.cl (hr.mono (by first | decide | omega)) passN (pa_cons (pv 1) pa_nil))) (blkOk_by (own := [("one", 8)]) (N := ["network", "station", "third", "high", "low", "second", "first", "steps", "one"]) (sc := defScope s_to_four) (by decide +kernel)) (fun _ _ _ _ _ => (pg_name (i := 8) sc_to_four.nd rfl (Or.inl rfl))) (fun _ _ _ _ _ => (pts_one (pt_cmpR op_ge (pe_callB (call_lenK (K := K)) (by rfl) T.n_len (by decide +kernel) (pa_cons (pe_ix (ix_listK (K := K)) (pe_fldK (K := K) (pv 0) rfl) (pv 8) (fun _ _ => rfl)) pa_nil)) pe_int (nomark _)))) (fun _ _ _ _ _ => (pv 8))) pe_int (fun _ _ => rfl)))
      (pss_cons (ps_asg (pe_slice sl_list (pe_mth (pv 0) M_neighbours NC.cl (hr.mono (by first | decide | omega)) passN (pa_cons (pv 2) pa_nil)) po_none (po_some pe_int)) (pg_lst (n := 2) rfl (pgs_cons (pg_name (i := 3) sc_to_four.nd rfl (Or.inl rfl)) (pgs_cons (pg_name (i := 4) sc_to_four.nd rfl (Or.inl rfl)) pgs_nil))))
      (pss_cons (ps_asg (pe_slice sl_list (pe_cal c_others (hr.mono (by first | decide | omega)) passN (pa_cons (pv 0) (pa_cons (pv 1) (pa_cons (pe_lst (pa_cons (pv 2) pa_nil)) pa_nil)))) po_none (po_some pe_int)) (pg_lst (n := 2) rfl (pgs_cons (pg_name (i := 5) sc_to_four.nd rfl (Or.inl rfl)) (pgs_cons (pg_name (i := 6) sc_to_four.nd rfl (Or.inl rfl)) pgs_nil))))
      (pss_cons (ps_set (i := 7) sc_to_four.nd rfl (Or.inl rfl) (pe_op op_catL (pe_cal c_to_three (hr.mono (by first | decide | omega)) passN (pa_cons (pv 2) (pa_cons (pv 3) (pa_cons (pv 4) pa_nil)))) (pe_lst (pa_cons (pv 1) (pa_cons (pv 5) (pa_cons (pv 1) (pa_cons (pv 6) (pa_cons (pv 1) pa_nil))))))))
      (pss_one (ps_ret (pe_op op_catL (pv 7) (pe_lst (pa_cons (pv 2) (pa_cons (pv 5) (pa_cons (pv 6) pa_nil))))))))))), ?_⟩
    have F4 := N.netF ht
    obtain ⟨th1, th2⟩ := F4.third hi h4
    obtain ⟨z, hz, hzn⟩ := F4.nat th1
    have hn := N.sz
    have hlen := fun i => I_len (n := n) N.ok N.up N.nd i
    obtain ⟨dx, kp, np, xs, nps, o⟩ := N.at_
    walk_at "go"
    refine ⟨N.ins (by decide) (by decide), ?_⟩
    walk_at "go"
    refine n_nbrs (Own.start H) N (by omega) fun q G1 H1 hq e1 e1' hq1 S1 => ?_
    refine v_list (xs := (nb ks (i : Int)).map V.int) (fun m acc G' L' => L' = [] ∧ acc = (((nb ks (i : Int)).take m).filter fun x => decide (2 ≤ (nb ks x).length)).map V.int) S1 (SqL.of hq1) (by rw [List.length_map]; have := hlen (i : Int); omega) ⟨rfl, rfl⟩ ?_ ?_
    · rintro D m x acc G' L' H' hx hm e' hl' ⟨rfl, rfl⟩ S'
      obtain ⟨y, hy, rfl⟩ := get_map hx
      obtain ⟨j, rfl, hj⟩ := F4.nat (List.mem_of_getElem? hy)
      have o1 := o.mono ((e1.trans e').trans S'.ex)
      obtain ⟨p, hp⟩ : ∃ p, nps[j]? = some p := ⟨_, List.getElem?_eq_getElem (by have := o.len; omega)⟩
      walk_at "go"
      refine ⟨rfl, ?_⟩
      walk_at "go"
      refine n_fld o1.ins NC.cl NC.nN (nf_near kp np) ?_
      walk_at "go"
      refine g_ixL (SqL.of o1.near) (atI_nat (j := j) (v := .ref p) (by rw [List.getElem?_map, hp] <;> rfl)) ?_
      walk_at "go"
      refine n_len (SqL.of (o1.each j p hp)) ?_
      walk_at "go"
      rw [List.length_map]
      refine if_2 (fun cc => ?_) (fun cc => ?_)
      · have cc := of_decide_eq_true cc
        walk_at "go"
        refine c_yes S' e' hl' hm ⟨rfl, ?_⟩
        rw [filter_snoc hy, if_pos (by exact decide_eq_true (by omega)), List.map_append] <;> rfl
      · have cc := of_decide_eq_false cc
        refine c_no S' e' hl' ⟨rfl, ?_⟩
        rw [filter_snoc hy, if_neg (by simp; omega), List.append_nil]
    · rintro p5 acc5 G5 L5 H5 e5 _ ⟨rfl, rfl⟩ S5
      rw [List.length_map, List.take_length] at S5
      have pos : 0 < ((nb ks (i : Int)).filter fun x => decide (2 ≤ (nb ks x).length)).length := List.length_pos_of_mem (List.mem_filter.mpr ⟨th1, decide_eq_true th2⟩)
      walk_at "go"
      refine g_ixL (SqL.of S5.get0) (atI_nat (j := 0) (getD_at pos)) ?_
      have S5 := S5.forget
      have eG5 : Ex H G5 := e1.trans e5
      rw [show ((nb ks (i : Int)).filter fun x => decide (2 ≤ (nb ks x).length)).getD 0 0 = thirdS ks (i : Int) from rfl]
      walk_at "go"
      refine ⟨(N.mono (eG5.trans S5.ex)).ins (by decide) (by decide), ?_⟩
      walk_at "go"
      refine n_nbrs S5 (N.mono eG5) (by rw [hz]; omega) fun q6 G6 H6 hq6 e6 e6' hq6' S6 => ?_
      walk_at "go"
      refine n_sl2 S6 (SqL.of (S6.ex _ _ hq6')) (by have := th2; exact this) fun q7 G7 H7 _ e7 _ hq7 S7 => ?_
      refine s_glst (SqL.of (S7.ex _ _ hq7)) rfl ?_
      walk_at "go"
      refine n_lst S7 (by show 1 ≤ 10000000; decide) fun q8 H8 _ S8 => ?_
      have N7 := N.mono (eG5.trans (e6.trans e7))
      walk_at "go"
      refine n_others (wo := [thirdS ks (i : Int)]) S8 N7 (by omega) (SqL.of S8.get0) fun q9 G9 H9 _ e9 _ hq9 S9 => ?_
      have o1 := oth_len (wo := [thirdS ks (i : Int)]) (F4.nd (i : Int))
      have hd := F4.deg hi
      simp only [List.length_singleton] at o1
      have S9 := S9.forget
      walk_at "go"
      refine n_sl2 S9 (SqL.of (S9.ex _ _ hq9)) (by omega) fun q10 G10 H10 _ e10 _ hq10 S10 => ?_
      refine s_glst (SqL.of (S10.ex _ _ hq10)) rfl ?_
      walk_at "go"
      refine n_to3 S10 fun q11 G11 H11 _ e11 _ hq11 S11 => ?_
      walk_at "go"
      refine n_lstG S11 (by show 5 ≤ 10000000; decide) fun q12 G12 H12 _ e12 _ hq12 S12 => ?_
      refine n_catG S12 (SqL.of (S12.ex _ _ (e12 _ _ hq11))) (SqL.of (S12.ex _ _ hq12)) (by unfold to3; simp) fun q13 G13 H13 _ e13 _ hq13 S13 => ?_
      walk_at "go"
      refine n_lstG S13 (by show 3 ≤ 10000000; decide) fun q14 G14 H14 _ e14 _ hq14 S14 => ?_
      refine n_cat S14 (SqL.of (S14.ex _ _ (e14 _ _ hq13))) (SqL.of (S14.ex _ _ hq14)) (by unfold to3; simp) fun q15 H15 hq15 S15 => ?_
      have eall : Ex H G14 := eG5.trans (e6.trans (e7.trans (e9.trans (e10.trans (e11.trans (e12.trans (e13.trans e14)))))))
      refine k q15 H15 (fresh_back (eall.trans S14.ex) hq15) (eall.trans S15.ex) ?_
      rw [S15.get0]
      unfold to4
      rw [List.map_append, List.map_append] <;> rfl
theorem ok_to5 {f : Addr} {fd : FuncData} (F : Fun K "to_five" "to_five" s_to_five f fd) (T : Txt mg) (NC : NetC K C) (M_neighbours : Mth P w K mg base 3 C "neighbours" ["self", "station"] (spNbrs C)) (c_others : Cal P w K mg base 4 "others" ["network", "station", "without"] [] (spOthers K C))
    (c_to_three : Cal P w K mg base 1 "to_three" ["station", "high", "low"] [] spTo3) (c_to_four : Cal P w K mg base 5 "to_four" ["network", "station"] [] (spTo4 C)) (c_beside_two : Cal P w K mg base 1 "beside_two" ["station", "spare", "goal", "low"] [] spBes) : FnOk P w K mg base CX0 6 f fd ["network", "station", "table"] (spTo5 C) := by
  refine F.ok sc_to_five (fun vs H Q E h => ?_) (fun cdv A outer s H vs Q E hr h => ?_)
  · obtain ⟨a, tp, n, ks, i, t, rfl, _⟩ := h
    rfl
  · obtain ⟨a, tp, n, ks, i, t, rfl, N, hi, ht, htp, h5, k⟩ := h
    have hu65 : ∀ X : Cx, X.A = A.deeper (envOfC "to_five" (defScope s_to_five) s.heap.objs.size f cdv) → X.A.units + 65 < cLine := fun X e => by rw [e]; have := hr.un; omega
    refine ⟨_, (pss_cons (ps_set (i := 3) sc_to_five.nd rfl (Or.inl rfl) (pe_ix ix_list (pe_lc (own := [("one", 11)]) (by rfl) sc_to_five.nd (pi_list (pe_mth (pv 0) M_neighbours NC.cl (hr.mono (by first | decide | omega)) passN (pa_cons (pv 1) pa_nil))) (blkOk_by (own := [("one", 11)]) (N := ["network", "station", "table", "fourth", "third", "second", "first", "free", "spare", "steps", "low", "one"]) (sc := defScope s_to_five) (by decide +kernel)) (fun _ _ _ _ _ => (pg_name (i := 11) sc_to_five.nd rfl (Or.inl rfl))) (fun _ _ _ _ _ => (pts_one (pt_cmpR op_ge (pe_ix (ix_tupK (K := K)) (pv 2) (pv 11) (fun _ _ => rfl)) pe_int (nomark _)))) (fun _ _ _ _ _ => (pv 11))) pe_int (fun _ _ => rfl)))
      (pss_cons (ps_set (i := 4) sc_to_five.nd rfl (Or.inl rfl) (pe_ix ix_list (pe_lc (own := [("one", 11)]) (by rfl) sc_to_five.nd (pi_list (pe_cal c_others (hr.mono (by first | decide | omega)) passN (pa_cons (pv 0) (pa_cons (pv 1) (pa_cons (pe_lst (pa_cons (pv 3) pa_nil)) pa_nil))))) (blkOk_by (own := [("one", 11)]) (N := ["network", "station", "table", "fourth", "third", "second", "first", "free", "spare", "steps", "low", "one"]) (sc := defScope s_to_five) (by decide +kernel)) (fun _ _ _ _ _ => (pg_name (i := 11) sc_to_five.nd rfl (Or.inl rfl))) (fun _ _ _ _ _ => (pts_one (pt_cmpR op_ge (pe_ix (ix_tupK (K := K)) (pv 2) (pv 11) (fun _ _ => rfl)) pe_int (nomark _)))) (fun _ _ _ _ _ => (pv 11))) pe_int (fun _ _ => rfl)))
      (pss_cons (ps_asg (pe_slice sl_list (pe_cal c_others (hr.mono (by first | decide | omega)) passN (pa_cons (pv 0) (pa_cons (pv 1) (pa_cons (pe_lst (pa_cons (pv 3) (pa_cons (pv 4) pa_nil))) pa_nil)))) po_none (po_some pe_int)) (pg_lst (n := 2) rfl (pgs_cons (pg_name (i := 5) sc_to_five.nd rfl (Or.inl rfl)) (pgs_cons (pg_name (i := 6) sc_to_five.nd rfl (Or.inl rfl)) pgs_nil))))
      (pss_cons (ps_set (i := 7) sc_to_five.nd rfl (Or.inr rfl) (pe_cal c_others (hr.mono (by first | decide | omega)) passN (pa_cons (pv 0) (pa_cons (pv 4) (pa_cons (pe_lst (pa_cons (pv 1) (pa_cons (pv 3) pa_nil))) pa_nil)))))
      (pss_cons (ps_if (pt_cmpR (op_neD (Nat.lt_of_succ_lt (hu65 _ rfl))) (pv 7) (pe_lst pa_nil) (nomark _)) (pss_cons (ps_set (i := 8) sc_to_five.nd rfl (Or.inl rfl) (pe_ix ix_list (pe_lc (own := [("one", 11)]) (by rfl) sc_to_five.nd (pi_tup (pe_tup (pa_cons (pv 6) (pa_cons (pv 5) pa_nil)))) (blkOk_by (own := [("one", 11)]) (N := ["network", "station", "table", "fourth", "third", "second", "first", "free", "spare", "steps", "low", "one"]) (sc := defScope s_to_five) (by decide +kernel)) (fun _ _ _ _ _ => (pg_name (i := 11) sc_to_five.nd rfl (Or.inl rfl))) (fun _ _ _ _ _ => (pts_one (pt_cmpR op_ne (pv 11) (pe_ix (ix_listK (K := K)) (pv 7) pe_int (fun _ _ => rfl)) (nomark _)))) (fun _ _ _ _ _ => (pv 11))) pe_int (fun _ _ => rfl)))
      (pss_one (ps_set (i := 9) sc_to_five.nd rfl (Or.inl rfl) (pe_op op_catL (pe_cal c_to_four (hr.mono (by first | decide | omega)) passN (pa_cons (pv 0) (pa_cons (pv 3) pa_nil))) (pe_cal c_beside_two (hr.mono (by first | decide | omega)) passN (pa_cons (pv 1) (pa_cons (pv 8) (pa_cons (pv 4) (pa_cons (pe_ix ix_list (pv 7) pe_int (fun _ _ => rfl)) pa_nil))))))))) (pss_cons (ps_set (i := 10) sc_to_five.nd rfl (Or.inr rfl) (pe_ix ix_list (pe_cal c_others (hr.mono (by first | decide | omega)) passN (pa_cons (pv 0) (pa_cons (pv 3) (pa_cons (pe_lst (pa_cons (pv 1) (pa_cons (pv 4) pa_nil))) pa_nil)))) pe_int (fun _ _ => rfl)))
      (pss_cons (ps_set (i := 8) sc_to_five.nd rfl (Or.inl rfl) (pe_ix ix_list (pe_lc (own := [("one", 11)]) (by rfl) sc_to_five.nd (pi_tup (pe_tup (pa_cons (pv 6) (pa_cons (pv 5) pa_nil)))) (blkOk_by (own := [("one", 11)]) (N := ["network", "station", "table", "fourth", "third", "second", "first", "free", "spare", "steps", "low", "one"]) (sc := defScope s_to_five) (by decide +kernel)) (fun _ _ _ _ _ => (pg_name (i := 11) sc_to_five.nd rfl (Or.inl rfl))) (fun _ _ _ _ _ => (pts_one (pt_cmpR op_ne (pv 11) (pv 10) (nomark _)))) (fun _ _ _ _ _ => (pv 11))) pe_int (fun _ _ => rfl)))
      (pss_one (ps_set (i := 9) sc_to_five.nd rfl (Or.inl rfl) (pe_op op_catL (pe_cal c_to_three (hr.mono (by first | decide | omega)) passN (pa_cons (pv 4) (pa_cons (pv 1) (pa_cons (pv 3) pa_nil)))) (pe_cal c_beside_two (hr.mono (by first | decide | omega)) passN (pa_cons (pv 1) (pa_cons (pv 8) (pa_cons (pv 3) (pa_cons (pv 10) pa_nil)))))))))))
      (pss_one (ps_ret (pe_op op_catL (pv 9) (pe_lst (pa_cons (pv 1) (pa_cons (pv 5) (pa_cons (pv 1) (pa_cons (pv 6) (pa_cons (pv 1) (pa_cons (pv 3) (pa_cons (pv 4) (pa_cons (pv 5) (pa_cons (pv 6) pa_nil)))))))))))))))))), ?_⟩
    have F5 := N.netF ht
    obtain ⟨⟨fo1, fo2⟩, ⟨tr1, tr2, tr3⟩, oth⟩ := F5.parts hi h5
    have hn := N.sz
    have hlen := fun i => I_len (n := n) N.ok N.up N.nd i
    have o2 := oth_nd (wo := [fourS ks t (i : Int), threeS ks t (i : Int) (fourS ks t (i : Int))]) (F5.nd (i : Int))
    have oth0 := getD_mem (l := othS ks (i : Int) [fourS ks t (i : Int), threeS ks t (i : Int) (fourS ks t (i : Int))]) (j := 0) (by omega)
    have oth1 := getD_mem (l := othS ks (i : Int) [fourS ks t (i : Int), threeS ks t (i : Int) (fourS ks t (i : Int))]) (j := 1) (by omega)
    have otn := getD_ne o2 (i := 0) (j := 1) (by omega) (by omega) (by decide)
    walk_at "go"
    refine ⟨N.ins (by decide) (by decide), ?_⟩
    walk_at "go"
    refine n_nbrs (Own.start H) N (by omega) fun q G1 H1 hq e1 e1' hq1 S1 => ?_
    refine v_list (xs := (nb ks (i : Int)).map V.int) (fun m acc G' L' => L' = [] ∧ acc = (((nb ks (i : Int)).take m).filter fun x => decide (4 ≤ tv t x)).map V.int) S1 (SqL.of hq1) (by rw [List.length_map]; have := hlen (i : Int); omega) ⟨rfl, rfl⟩ ?_ ?_
    · rintro D m x acc G' L' H' hx hm e' hl' ⟨rfl, rfl⟩ S'
      obtain ⟨y, hy, rfl⟩ := get_map hx
      obtain ⟨j, rfl, hj⟩ := F5.nat (List.mem_of_getElem? hy)
      walk_at "go"
      refine ⟨rfl, ?_⟩
      walk_at "go"
      refine g_ixT (SqT.of (((e1.trans e').trans S'.ex) _ _ htp)) (at_tv (by omega) (by have := ht.1; omega)) ?_
      walk_at "go"
      refine if_2 (fun cc => ?_) (fun cc => ?_)
      · walk_at "go"
        refine c_yes S' e' hl' hm ⟨rfl, ?_⟩
        rw [filter_snoc hy, if_pos (by exact cc), List.map_append] <;> rfl
      · refine c_no S' e' hl' ⟨rfl, ?_⟩
        rw [filter_snoc hy, if_neg (by exact fun z => by rw [cc] at z; cases z), List.append_nil]
    rintro p5 acc5 G5 L5 H5 e5 _ ⟨rfl, rfl⟩ S5
    rw [List.length_map, List.take_length] at S5
    walk_at "go"
    refine g_ixL (SqL.of S5.get0) (atI_nat (j := 0) (getD_at fo1)) ?_
    have S5 := S5.forget
    have eG5 : Ex H G5 := e1.trans e5
    rw [show ((nb ks (i : Int)).filter fun x => decide (4 ≤ tv t x)).getD 0 0 = fourS ks t (i : Int) from rfl]
    clear fo1
    have F4 : ∃ z : Nat, fourS ks t (i : Int) = (z : Int) ∧ z < n := F5.nat fo2.1
    have T3 : threeS ks t (i : Int) (fourS ks t (i : Int)) = ((othS ks (i : Int) [fourS ks t (i : Int)]).filter fun x => decide (3 ≤ tv t x)).getD 0 0 := rfl
    have hfin : to5 ks t (i : Int) = qr5 ks (i : Int) (fourS ks t (i : Int)) (threeS ks t (i : Int) (fourS ks t (i : Int))) := rfl
    rw [hfin] at k
    clear hfin
    generalize hqq : fourS ks t (i : Int) = qq at *
    clear hqq
    walk_at "go"
    refine n_lst S5 (by show 1 ≤ 10000000; decide) fun p6 H6 _ S6 => ?_
    walk_at "go"
    refine n_others (wo := [qq]) S6 (N.mono eG5) (by omega) (SqL.of S6.get0) fun p7 G7 H7 _ e7 _ hp7 S7 => ?_
    have S7 := S7.forget
    refine v_list (xs := (othS ks (i : Int) [qq]).map V.int) (fun m acc G' L' => L' = [] ∧ acc = (((othS ks (i : Int) [qq]).take m).filter fun x => decide (3 ≤ tv t x)).map V.int) S7 (SqL.of hp7) (by
      rw [List.length_map]
      have h1 := hlen (i : Int)
      have h2 : (othS ks (i : Int) [qq]).length ≤ (nb ks (i : Int)).length := List.length_filter_le _ _
      omega) ⟨rfl, rfl⟩ ?_ ?_
    · rintro D m x acc G' L' H' hx hm e' hl' ⟨rfl, rfl⟩ S'
      obtain ⟨y, hy, rfl⟩ := get_map hx
      obtain ⟨j, rfl, hj⟩ := F5.nat (mem_oth.mp (List.mem_of_getElem? hy)).1
      walk_at "go"
      refine ⟨rfl, ?_⟩
      walk_at "go"
      refine g_ixT (SqT.of (((eG5.trans (e7.trans e')).trans S'.ex) _ _ htp)) (at_tv (by omega) (by have := ht.1; omega)) ?_
      walk_at "go"
      refine if_2 (fun cc => ?_) (fun cc => ?_)
      · walk_at "go"
        refine c_yes S' e' hl' hm ⟨rfl, ?_⟩
        rw [filter_snoc hy, if_pos (by exact cc), List.map_append] <;> rfl
      · refine c_no S' e' hl' ⟨rfl, ?_⟩
        rw [filter_snoc hy, if_neg (by exact fun z => by rw [cc] at z; cases z), List.append_nil]
    rintro p8 acc8 G8 L8 H8 e8 _ ⟨rfl, rfl⟩ S8
    rw [List.length_map, List.take_length] at S8
    walk_at "go"
    refine g_ixL (SqL.of S8.get0) (atI_nat (j := 0) (getD_at tr1)) ?_
    have S8 := S8.forget
    have eG8 : Ex H G8 := eG5.trans (e7.trans e8)
    rw [← T3]
    clear T3 tr1
    generalize hrr : threeS ks t (i : Int) qq = rr at *
    clear hrr
    walk_at "go"
    refine n_lst S8 (by show 2 ≤ 10000000; decide) fun p9 H9 _ S9 => ?_
    walk_at "go"
    refine n_others (wo := [qq, rr]) S9 (N.mono eG8) (by omega) (SqL.of S9.get0) fun p10 G10 H10 _ e10 _ hp10 S10 => ?_
    have S10 := S10.forget
    walk_at "go"
    refine n_sl2 S10 (SqL.of (S10.ex _ _ hp10)) oth fun p11 G11 H11 _ e11 _ hp11 S11 => ?_
    refine s_glst (SqL.of (S11.ex _ _ hp11)) rfl ?_
    have eG11 : Ex H G11 := eG8.trans (e10.trans e11)
    have hqr : qr5 ks (i : Int) qq rr = fin5 ks (i : Int) qq rr ((othS ks (i : Int) [qq, rr]).getD 0 0) ((othS ks (i : Int) [qq, rr]).getD 1 0) := rfl
    rw [hqr] at k
    clear hqr
    generalize (othS ks (i : Int) [qq, rr]).getD 0 0 = ee at *
    generalize (othS ks (i : Int) [qq, rr]).getD 1 0 = ff at *
    obtain ⟨q, rfl, hq⟩ := F4
    obtain ⟨tr4, tr5⟩ := mem_oth.mp tr2
    obtain ⟨r, rfl, hr⟩ := F5.nat tr4
    walk_at "go"
    refine n_lst S11 (by show 2 ≤ 10000000; decide) fun p12 H12 _ S12 => ?_
    walk_at "go"
    refine n_others (wo := [(i : Int), (q : Int)]) S12 (N.mono eG11) (by omega) (SqL.of S12.get0) fun p13 G13 H13 _ e13 _ hp13 S13 => ?_
    have S13 := S13.forget
    have eG13 : Ex H G13 := eG11.trans e13
    refine s_name ?_
    refine s_seq ?_
    have N13 := N.mono eG13
    -- the spare one
    have spare : ∀ (x : Int), 0 < ([ff, ee].filter fun y => !decide (y = x)).length ∧ ([ff, ee].filter fun y => !decide (y = x)).getD 0 0 = spareS ff ee x := fun x => by
      unfold spareS
      by_cases c : ff = x
      · have c2 : ee ≠ x := fun z => otn (z.trans c.symm)
        simp [c, c2]
      · simp [c]
    refine s_join (fun σ2 H2 => ∃ (G2 : Hp) (p15 : Addr) (x8 x10 x11 : Option V), σ2 = [some (.ref a), some (.int (i : Int)), some (.ref tp), some (.int (q : Int)), some (.int (r : Int)), some (.int ee), some (.int ff), some (.ref p13), x8, some (.ref p15), x10, x11] ∧
      Ex H G2 ∧ G2 p15 = some (.lst ((pre5 ks (i : Int) q r ee ff).map V.int)) ∧ Own G2 [] H2) ?_ (fun n' hn' => ?_)
    · rintro σ2 H2 ⟨G2, p15, x8, x10, x11, rfl, e2, hp15, S2⟩
      walk_at "go"
      refine n_lstG S2 (by show 9 ≤ 10000000; decide) fun p16 G16 H16 _ e16 _ hp16 S16 => ?_
      refine n_cat S16 (SqL.of (S16.ex _ _ (e16 _ _ hp15))) (SqL.of (S16.ex _ _ hp16)) (by
        have : (pre5 ks (i : Int) q r ee ff).length ≤ 22 := by
          unfold pre5
          split
          · unfold to4 to3 bes2; simp
          · unfold to3 bes2; simp
        rw [List.length_map]
        show _ + 9 ≤ _
        omega) fun p17 H17 hp17 S17 => ?_
      refine k p17 H17 (fresh_back ((e2.trans e16).trans S16.ex) hp17) ((e2.trans e16).trans S17.ex) ?_
      rw [S17.get0]
      unfold fin5
      rw [List.map_append] <;> rfl
    · walk_at "go"
      refine n_lst S13 (by decide) fun p14 H14 _ S14 => ?_
      refine n_neIL (SqL.of (S14.ex _ _ hp13)) (ms := []) (SqL.of S14.get0) ?_
      have S14 := S14.forget
      walk_at "go"
      refine if_2 (fun c => ?_) (fun c => ?_)
      · have c : othS ks (r : Int) [(i : Int), (q : Int)] ≠ [] := by simpa using c
        cases ho : othS ks (r : Int) [(i : Int), (q : Int)] with
        | nil => exact absurd ho c
        | cons x l =>
          have e5 : pre5 ks (i : Int) q r ee ff = to4 ks q ++ bes2 i (spareS ff ee x) r x := by unfold pre5; rw [ho]
          rw [e5] at hn'
          rw [ho] at hp13
          clear e5
          obtain ⟨s1, s2⟩ := spare x
          walk_at "go"
          refine n_tup S14 (by show 2 ≤ 10000000; decide) fun t15 G15 H15 _ e15 _ ht15 S15 => ?_
          have ht15 : G15 t15 = some (.tup ([ff, ee].map V.int)) := ht15
          refine v_tup (xs := [ff, ee].map V.int) (fun m acc G' L' => L' = [] ∧ acc = (([ff, ee].take m).filter fun y => !decide (y = x)).map V.int) S15 (SqT.of ht15) (by rw [List.length_map]; show 2 ≤ 1000000; decide) ⟨rfl, rfl⟩ ?_ ?_
          · rintro D m y acc G' L' H' hx hm e' hl' ⟨rfl, rfl⟩ S'
            obtain ⟨y, hy, rfl⟩ := get_map hx
            walk_at "go"
            refine ⟨rfl, ?_⟩
            walk_at "go"
            refine g_ixL (SqL.of (S'.ex _ _ (e' _ _ (e15 _ _ hp13)))) (atI_nat (xs := (x :: l).map V.int) (j := 0) (v := .int x) rfl) ?_
            walk_at "go"
            refine if_2 (fun cc => ?_) (fun cc => ?_)
            · walk_at "go"
              refine c_yes S' e' hl' hm ⟨rfl, ?_⟩
              rw [filter_snoc hy, if_pos (by exact cc), List.map_append] <;> rfl
            · refine c_no S' e' hl' ⟨rfl, ?_⟩
              rw [filter_snoc hy, if_neg (by exact fun z => by rw [cc] at z; cases z), List.append_nil]
          rintro p16 acc16 G16 L16 H16 e16 _ ⟨rfl, rfl⟩ S16
          rw [List.length_map, List.take_length] at S16
          walk_at "go"
          refine g_ixL (SqL.of S16.get0) (atI_nat (j := 0) (getD_at s1)) ?_
          have S16 := S16.forget
          rw [s2]
          have e1316 : Ex G13 G16 := e15.trans e16
          walk_at "go"
          refine n_to4 S16 (N13.mono e1316) hq ht fo2.2 fun p17 G17 H17 _ e17 _ hp17 S17 => ?_
          walk_at "go"
          refine g_ixL (SqL.of (S17.ex _ _ (e17 _ _ (e1316 _ _ hp13)))) (atI_nat (xs := (x :: l).map V.int) (j := 0) (v := .int x) rfl) ?_
          walk_at "go"
          refine n_bes S17 fun p18 G18 H18 _ e18 _ hp18 S18 => ?_
          walk_at "go"
          refine n_catG S18 (SqL.of (S18.ex _ _ (e18 _ _ hp17))) (SqL.of (S18.ex _ _ hp18)) (by unfold to4 to3 bes2; simp) fun p19 G19 H19 _ e19 _ hp19 S19 => ?_
          walk_at "go"
          refine hn' _ _ ⟨G19, p19, _, _, _, rfl, eG13.trans (e1316.trans (e17.trans (e18.trans e19))), ?_, S19⟩
          rw [hp19, List.map_append]
      · have c : othS ks (r : Int) [(i : Int), (q : Int)] = [] := by simpa using c
        have e5 : pre5 ks (i : Int) q r ee ff = to3 r i q ++ bes2 i (spareS ff ee ((othS ks (q : Int) [(i : Int), (r : Int)]).getD 0 0)) q ((othS ks (q : Int) [(i : Int), (r : Int)]).getD 0 0) := by unfold pre5; rw [c]
        rw [e5] at hn'
        clear e5
        have hdq := F5.deg hq
        have o3 := oth_len (wo := [(i : Int), (r : Int)]) (F5.nd (q : Int))
        simp only [List.length_cons, List.length_nil] at o3
        have po : 0 < (othS ks (q : Int) [(i : Int), (r : Int)]).length := by have := fo2.2; omega
        walk_at "go"
        refine n_lst S14 (by show 2 ≤ 10000000; decide) fun p15 H15 _ S15 => ?_
        walk_at "go"
        refine n_others (wo := [(i : Int), (r : Int)]) S15 N13 (by omega) (SqL.of S15.get0) fun p16 G16 H16 _ e16 _ hp16 S16 => ?_
        have S16 := S16.forget
        walk_at "go"
        refine g_ixL (SqL.of (S16.ex _ _ hp16)) (atI_nat (j := 0) (getD_at po)) ?_
        generalize (othS ks (q : Int) [(i : Int), (r : Int)]).getD 0 0 = x at *
        obtain ⟨s1, s2⟩ := spare x
        walk_at "go"
        refine n_tup S16 (by show 2 ≤ 10000000; decide) fun t17 G17 H17 _ e17 _ ht17 S17 => ?_
        have ht17 : G17 t17 = some (.tup ([ff, ee].map V.int)) := ht17
        refine v_tup (xs := [ff, ee].map V.int) (fun m acc G' L' => L' = [] ∧ acc = (([ff, ee].take m).filter fun y => !decide (y = x)).map V.int) S17 (SqT.of ht17) (by rw [List.length_map]; show 2 ≤ 1000000; decide) ⟨rfl, rfl⟩ ?_ ?_
        · rintro D m y acc G' L' H' hx hm e' hl' ⟨rfl, rfl⟩ S'
          obtain ⟨y, hy, rfl⟩ := get_map hx
          walk_at "go"
          refine ⟨rfl, ?_⟩
          walk_at "go"
          refine if_2 (fun cc => ?_) (fun cc => ?_)
          · walk_at "go"
            refine c_yes S' e' hl' hm ⟨rfl, ?_⟩
            rw [filter_snoc hy, if_pos (by exact cc), List.map_append] <;> rfl
          · refine c_no S' e' hl' ⟨rfl, ?_⟩
            rw [filter_snoc hy, if_neg (by exact fun z => by rw [cc] at z; cases z), List.append_nil]
        rintro p18 acc18 G18 L18 H18 e18 _ ⟨rfl, rfl⟩ S18
        rw [List.length_map, List.take_length] at S18
        walk_at "go"
        refine g_ixL (SqL.of S18.get0) (atI_nat (j := 0) (getD_at s1)) ?_
        have S18 := S18.forget
        rw [s2]
        walk_at "go"
        refine n_to3 S18 fun p19 G19 H19 _ e19 _ hp19 S19 => ?_
        walk_at "go"
        refine n_bes S19 fun p20 G20 H20 _ e20 _ hp20 S20 => ?_
        walk_at "go"
        refine n_catG S20 (SqL.of (S20.ex _ _ (e20 _ _ hp19))) (SqL.of (S20.ex _ _ hp20)) (by unfold to3 bes2; simp) fun p21 G21 H21 _ e21 _ hp21 S21 => ?_
        walk_at "go"
        refine hn' _ _ ⟨G21, p21, _, _, _, rfl, eG13.trans (e16.trans (e17.trans (e18.trans (e19.trans (e20.trans e21))))), ?_, S21⟩
        rw [hp21, List.map_append]
/-- no channel that schedule_low takes -/
def BadLow (H : Hp) (t : List Int) (i : Nat) (u : V) : Prop := ∃ ty, OddV H u ty ∧ (ty = "int" → ∃ c, u = .int c ∧ ¬ (1 ≤ c ∧ c ≤ min 5 (tv t (i : Int))))
def spLow (C CS CC : Addr) : Sp := fun vs H Q E => ∃ (a : Addr) (n : Nat) (ks : List Pr) (v u : V), vs = [.ref a, v, u] ∧ NetAt C H a n ks ∧ ((OddSt H n v ∧ Thr E CS "station" v H) ∨
  ∃ i : Nat, v = .int (i : Int) ∧ i < n ∧ ∀ t, TabF n ks t → ((BadLow H t i u ∧ Thr E CC "channel" u H) ∨ ∃ c, u = .int c ∧ (1 ≤ c ∧ c ≤ min 5 (tv t (i : Int))) ∧ Ret (.lst ((lowS ks t (i : Int) c).map V.int)) H Q))
theorem ok_low {f : Addr} {fd : FuncData} (F : Fun K "schedule_low" "schedule_low" s_schedule_low f fd) (T : Txt mg) (NC : NetC K C) (c_is_int : Cal P w K mg base 1 "is_int" ["value"] [] (spIsInt K)) (M_check_station : Mth P w K mg base 3 C "check_station" ["self", "station"] (spChkX C CS))
    (M_neighbours : Mth P w K mg base 3 C "neighbours" ["self", "station"] (spNbrs C)) (c_greatest_channels : Cal P w K mg base 3 "greatest_channels" ["network"] [] (spGC C)) (c_to_three : Cal P w K mg base 1 "to_three" ["station", "high", "low"] [] spTo3)
    (c_to_four : Cal P w K mg base 5 "to_four" ["network", "station"] [] (spTo4 C)) (c_to_five : Cal P w K mg base 6 "to_five" ["network", "station", "table"] [] (spTo5 C)) (X_NoChannel : Exn P w K mg base "NoChannel" CC "channel") : FnOk P w K mg base (L2.CX P w) 7 f fd ["network", "station", "channel"] (spLow C CS CC) := by
  refine F.okX sc_schedule_low (fun vs H Q E h => ?_) (fun cdv A outer s H vs Q E hr h => ?_)
  · obtain ⟨a, n, ks, v, u, rfl, _⟩ := h
    rfl
  · obtain ⟨a, n, ks, v, u, rfl, N, h⟩ := h
    have hu65 : ∀ X : Cx, X.A = A.deeper (envOfC "schedule_low" (defScope s_schedule_low) s.heap.objs.size f cdv) → X.A.units + 65 < cLine := fun X e => by rw [e]; have := hr.un; omega
    refine ⟨_, (pss_cons (ps_expr (pe_mth (pv 0) M_check_station NC.cl (hr.mono (by first | decide | omega)) (passE (takes_of rfl rfl rfl rfl) fun _ _ _ _ z => z) (pa_cons (pv 1) pa_nil)))
      (pss_cons (ps_set (i := 3) sc_schedule_low.nd rfl (Or.inl rfl) (pe_cal c_greatest_channels (hr.mono (by first | decide | omega)) passN (pa_cons (pv 0) pa_nil)))
      (pss_cons (ps_if (PW.pt (pw_or (pt_not (pt_val (pe_cal c_is_int (hr.mono (by first | decide | omega)) passN (pa_cons (pv 2) pa_nil)))) (pw_or1 (pt_not (pt_chain op_le op_le pe_int (pv 2) (pe_callB (call_minN rfl) (by rfl) T.n_min (by decide +kernel) (pa_cons (pe_cst (by rfl) T.m_MOST_LOW) (pa_cons (pe_ix ix_tup (pv 3) (pv 1) (fun _ _ => rfl)) pa_nil)))))))) (pss_one (ps_raiseE (K := K) rfl (takes_of rfl rfl rfl rfl) X_NoChannel (hr.mono (by first | decide | omega)) (pa_cons (pv 2) pa_nil))) pss_nil)
      (pss_cons (ps_set (i := 4) sc_schedule_low.nd rfl (Or.inl rfl) (pe_mth (pv 0) M_neighbours NC.cl (hr.mono (by first | decide | omega)) passN (pa_cons (pv 1) pa_nil)))
      (pss_cons (ps_if (pt_cmpR op_eq (pv 2) pe_int (nomark _)) (pss_one (ps_ret (pe_lst (pa_cons (pv 1) pa_nil)))) pss_nil)
      (pss_cons (ps_if (pt_cmpR op_eq (pv 2) pe_int (nomark _)) (pss_one (ps_ret (pe_lst (pa_cons (pe_ix ix_list (pv 4) pe_int (fun _ _ => rfl)) (pa_cons (pv 1) (pa_cons (pe_ix ix_list (pv 4) pe_int (fun _ _ => rfl)) pa_nil)))))) pss_nil)
      (pss_cons (ps_if (pt_cmpR op_eq (pv 2) pe_int (nomark _)) (pss_one (ps_ret (pe_cal c_to_three (hr.mono (by first | decide | omega)) passN (pa_cons (pv 1) (pa_cons (pe_ix ix_list (pv 4) pe_int (fun _ _ => rfl)) (pa_cons (pe_ix ix_list (pv 4) pe_int (fun _ _ => rfl)) pa_nil)))))) pss_nil)
      (pss_cons (ps_if (pt_cmpR op_eq (pv 2) pe_int (nomark _)) (pss_one (ps_ret (pe_cal c_to_four (hr.mono (by first | decide | omega)) passN (pa_cons (pv 0) (pa_cons (pv 1) pa_nil))))) pss_nil)
      (pss_one (ps_ret (pe_cal c_to_five (hr.mono (by first | decide | omega)) passN (pa_cons (pv 0) (pa_cons (pv 1) (pa_cons (pv 3) pa_nil)))))))))))))), ?_⟩
    walk_at "go"
    refine ⟨N.ins (by decide) (by decide), ?_⟩
    walk_at "go"
    rcases h with ⟨ho, kE⟩ | ⟨i, rfl, hi, k⟩
    · exact ⟨a, n, ks, v, rfl, N, .inr ⟨ho, fun d H' e hd => kE d H' e hd⟩⟩
    refine ⟨a, n, ks, _, rfl, N, .inl ⟨⟨(i : Int), rfl, by omega, by omega⟩, fun H1 e1 => ?_⟩⟩
    walk_at "go"
    refine n_gc (Own.start H1) (N.mono e1) fun t p2 G2 H2 ht hp2 e2 e2' hp2' S2 => ?_
    have F2 := N.netF ht
    have e12 : Ex H G2 := e1.trans e2
    have htl := ht.1
    walk_at "go"
    rcases k t ht with ⟨⟨ty, ho, hno⟩, kE⟩ | ⟨c, rfl, hc, k⟩
    · refine ⟨u, ty, rfl, (ho.mono (e12.trans S2.ex)).isT, ?_⟩
      walk_at "go"
      have eE := e12.trans S2.ex
      by_cases c : ty = "int"
      · subst c
        obtain ⟨c, rfl, hc⟩ := hno rfl
        refine if_ff (by decide +kernel) ?_
        walk_at "go"
        refine if_2 (fun cc => ?_) (fun cc => ?_)
        · have cc := of_decide_eq_true cc
          walk_at "go"
          refine g_ixT (SqT.of (S2.ex _ _ hp2')) (at_tv (by omega) (by omega)) ?_
          walk_at "go"
          refine if_tt (nfalse (by omega)) ?_
          refine s_raiseE ?_
          walk_at "go"
          exact n_raise X_NoChannel.oex fun d H4 _ e4 hd => kE d H4 (eE.trans e4) hd
        · walk_at "go"
          refine s_raiseE ?_
          walk_at "go"
          exact n_raise X_NoChannel.oex fun d H4 _ e4 hd => kE d H4 (eE.trans e4) hd
      · have e : (ty == "int") = false := by simp [c]
        rw [e]
        walk_at "go"
        refine s_raiseE ?_
        walk_at "go"
        exact n_raise X_NoChannel.oex fun d H4 _ e4 hd => kE d H4 (eE.trans e4) hd
    · refine g_isint ?_
      walk_at "go"
      refine if_tt (dtrue (by omega)) ?_
      walk_at "go"
      refine g_ixT (SqT.of (S2.ex _ _ hp2')) (at_tv (by omega) (by omega)) ?_
      walk_at "go"
      refine if_ff (ntrue (by omega)) ?_
      walk_at "go"
      refine ⟨(N.mono (e12.trans S2.ex)).ins (by decide) (by decide), ?_⟩
      walk_at "go"
      have hd := F2.deg hi
      refine n_nbrs S2 (N.mono e12) (by omega) fun p3 G3 H3 _ e3 _ hp3 S3 => ?_
      have e13 : Ex H G3 := e12.trans e3
      have ix : ∀ {j : Nat}, j < (nb ks (i : Int)).length → atI ((nb ks (i : Int)).map V.int) (j : Int) = some (.int ((nb ks (i : Int)).getD j 0)) := fun h => atI_nat (getD_at h)
      have q3 := SqL.of (K := K) (S3.ex _ _ hp3)
      walk_at "go"
      unfold lowS at k
      refine if_2 (fun cc => ?_) (fun cc => ?_)
      · have cc := of_decide_eq_true cc
        rw [if_pos cc] at k
        walk_at "go"
        refine n_lst S3 (by show 1 ≤ 10000000; decide) fun p H4 hp S4 => ?_
        exact k p H4 (fresh_back (e13.trans S3.ex) hp) (e13.trans S4.ex) S4.get0
      have cc := of_decide_eq_false cc
      rw [if_neg cc] at k
      walk_at "go"
      refine if_2 (fun c2 => ?_) (fun c2 => ?_)
      · have c2 := of_decide_eq_true c2
        rw [if_pos c2] at k
        walk_at "go"
        refine g_ixL q3 (ix (j := 0) (by omega)) ?_
        walk_at "go"
        refine g_ixL q3 (ix (j := 0) (by omega)) ?_
        walk_at "go"
        refine n_lst S3 (by show 3 ≤ 10000000; decide) fun p H4 hp S4 => ?_
        exact k p H4 (fresh_back (e13.trans S3.ex) hp) (e13.trans S4.ex) S4.get0
      have c2 := of_decide_eq_false c2
      rw [if_neg c2] at k
      walk_at "go"
      refine if_2 (fun c3 => ?_) (fun c3 => ?_)
      · have c3 := of_decide_eq_true c3
        rw [if_pos c3] at k
        walk_at "go"
        refine g_ixL q3 (ix (j := 0) (by omega)) ?_
        walk_at "go"
        refine g_ixL q3 (ix (j := 1) (by omega)) ?_
        walk_at "go"
        refine n_to3 S3 fun p G4 H4 hp e4 e4' hp4 S4 => ?_
        exact k p H4 (fresh_back (e13.trans S3.ex) hp) (e13.trans (e4.trans S4.ex)) (S4.ex _ _ hp4)
      have c3 := of_decide_eq_false c3
      rw [if_neg c3] at k
      walk_at "go"
      refine if_2 (fun c4 => ?_) (fun c4 => ?_)
      · have c4 := of_decide_eq_true c4
        rw [if_pos c4] at k
        walk_at "go"
        refine n_to4 S3 (N.mono e13) hi ht (by omega) fun p G4 H4 hp e4 e4' hp4 S4 => ?_
        exact k p H4 (fresh_back (e13.trans S3.ex) hp) (e13.trans (e4.trans S4.ex)) (S4.ex _ _ hp4)
      have c4 := of_decide_eq_false c4
      rw [if_neg c4] at k
      walk_at "go"
      refine n_to5 S3 (N.mono e13) hi ht (e3 _ _ hp2') (by omega) fun p G4 H4 hp e4 e4' hp4 S4 => ?_
      exact k p H4 (fresh_back (e13.trans S3.ex) hp) (e13.trans (e4.trans S4.ex)) (S4.ex _ _ hp4)
end
end NX

namespace NX
/-! ### stations without links: all lists of 0 and 1 -/
def vecL : Nat → List (List Int)
  | 0 => [[]]
  | n + 1 => (vecL n).map (· ++ [0]) ++ (vecL n).map (· ++ [1])
theorem vec_len : ∀ n, (vecL n).length = 2 ^ n
  | 0 => rfl
  | n + 1 => by rw [vecL, List.length_append, List.length_map, List.length_map, vec_len n]; omega
theorem vec_mem : ∀ {n : Nat} {s : List Int}, s ∈ vecL n ↔ s.length = n ∧ ∀ x ∈ s, x = 0 ∨ x = 1
  | 0, s => by
    constructor
    · intro h
      rw [List.mem_singleton.mp h]
      exact ⟨rfl, fun x hx => nomatch hx⟩
    · rintro ⟨h, _⟩
      rw [List.eq_nil_of_length_eq_zero h]
      exact List.mem_singleton.mpr rfl
  | n + 1, s => by
    rw [vecL, List.mem_append]
    constructor
    · rintro (h | h)
      · obtain ⟨t, ht, rfl⟩ := List.mem_map.mp h
        obtain ⟨h1, h2⟩ := vec_mem.mp ht
        refine ⟨by rw [List.length_append, h1] <;> rfl, fun x hx => ?_⟩
        rcases List.mem_append.mp hx with hx | hx
        · exact h2 x hx
        · exact .inl (List.mem_singleton.mp hx)
      · obtain ⟨t, ht, rfl⟩ := List.mem_map.mp h
        obtain ⟨h1, h2⟩ := vec_mem.mp ht
        refine ⟨by rw [List.length_append, h1] <;> rfl, fun x hx => ?_⟩
        rcases List.mem_append.mp hx with hx | hx
        · exact h2 x hx
        · exact .inr (List.mem_singleton.mp hx)
    · rintro ⟨h1, h2⟩
      have hne : s ≠ [] := fun z => by rw [z] at h1; cases h1
      have e := List.dropLast_concat_getLast hne
      have ht : s.dropLast ∈ vecL n := vec_mem.mpr ⟨by rw [List.length_dropLast, h1] <;> rfl, fun x hx => h2 x (List.dropLast_subset s hx)⟩
      rcases h2 _ (List.getLast_mem hne) with z | z
      · exact .inl (List.mem_map.mpr ⟨_, ht, by rw [← z]; exact e⟩)
      · exact .inr (List.mem_map.mpr ⟨_, ht, by rw [← z]; exact e⟩)
theorem vec_nd : ∀ n, (vecL n).Nodup
  | 0 => by simp [vecL]
  | n + 1 => by
    rw [vecL]
    refine List.nodup_append.mpr ⟨List.Pairwise.map _ (fun a b h e => h (List.append_cancel_right e)) (vec_nd n), List.Pairwise.map _ (fun a b h e => h (List.append_cancel_right e)) (vec_nd n), fun a ha b hb e => ?_⟩
    obtain ⟨s, _, rfl⟩ := List.mem_map.mp ha
    obtain ⟨t, _, rfl⟩ := List.mem_map.mp hb
    have := List.append_inj_right' e rfl
    cases this
theorem mexL_nil : mexL [] = 1 := mexL_of ⟨by decide, by simp, fun d a b => by omega⟩
theorem chn_nil (st : List Int) (i : Nat) : chn (nb []) st i = if tv st (i : Int) = 0 then 1 else 0 := by
  unfold chn
  rw [show nb [] (i : Int) = [] from rfl, List.map_nil, mexL_nil]
theorem rch_vec {n : Nat} {s : List Int} : Rch (nb []) n s ↔ s ∈ vecL n := by
  rw [vec_mem]
  constructor
  · intro h
    refine ⟨h.len, ?_⟩
    induction h with
    | zero => intro x hx; exact .inl (List.eq_of_mem_replicate hx)
    | @step t i h hi ih =>
      intro x hx
      unfold sw at hx
      rcases List.mem_append.mp hx with hx | hx
      · rcases List.mem_append.mp hx with hx | hx
        · exact ih x (List.mem_of_mem_take hx)
        · rw [List.mem_singleton.mp hx, chn_nil]
          split
          · exact .inr rfl
          · exact .inl rfl
      · exact ih x (List.mem_of_mem_drop hx)
  · rintro ⟨h1, h2⟩
    have key : ∀ k, k ≤ n → Rch (nb []) n (s.take k ++ List.replicate (n - k) 0) := by
      intro k
      induction k with
      | zero => intro _; rw [List.take_zero, List.nil_append, Nat.sub_zero]; exact .zero
      | succ k ih =>
        intro hk
        have hr := ih (by omega)
        have hks : k < s.length := by omega
        have ht : s.take (k + 1) = s.take k ++ [s[k]] := by rw [List.take_add_one, List.getElem?_eq_getElem hks] <;> rfl
        have hrep : List.replicate (n - k) (0 : Int) = [0] ++ List.replicate (n - (k + 1)) 0 := by
          rw [show n - k = (n - (k + 1)) + 1 by omega, List.replicate_succ] <;> rfl
        rcases h2 s[k] (List.getElem_mem hks) with z | z
        · rw [ht, z, List.append_assoc, ← hrep]
          exact hr
        · have h3 := hr.step (show k < n by omega)
          have hl : (s.take k).length = k := by rw [List.length_take]; omega
          have h0 : tv (s.take k ++ List.replicate (n - k) 0) (k : Int) = 0 := by
            rw [tv_nat, List.getD_eq_getElem?_getD, List.getElem?_append_right (by omega), hl, Nat.sub_self, hrep] <;> rfl
          have e : sw (nb []) (s.take k ++ List.replicate (n - k) 0) k = s.take (k + 1) ++ List.replicate (n - (k + 1)) 0 := by
            unfold sw
            rw [chn_nil, if_pos h0, ht, z, hrep]
            have a1 : (s.take k ++ ([0] ++ List.replicate (n - (k + 1)) 0)).take k = s.take k := by
              rw [List.take_append_of_le_length (by omega), List.take_of_length_le (by omega)]
            have a2 : (s.take k ++ ([0] ++ List.replicate (n - (k + 1)) 0)).drop (k + 1) = List.replicate (n - (k + 1)) 0 := by
              rw [List.drop_append, hl, List.drop_of_length_le (by omega), List.nil_append, show k + 1 - k = 1 by omega] <;> rfl
            rw [a1, a2]
          rw [e] at h3
          exact h3
    have := key n (Nat.le_refl n)
    rw [Nat.sub_self, List.replicate_zero, List.append_nil, List.take_of_length_le (by omega)] at this
    exact this
theorem vec_bfs (n : Nat) : ∃ B, Bfs (nb []) n B ∧ B.length = 2 ^ n ∧ (B.map Ent.st).Perm (vecL n) := by
  obtain ⟨B, hB, _⟩ := bfs_ex (nbr := nb []) (n := n) (B := (vecL n).length) fun L nd hL => len_le_of_sub nd fun s hs => rch_vec.mp (hL s hs)
  have hp : (B.map Ent.st).Perm (vecL n) := (List.perm_ext_iff_of_nodup hB.okk.nd (vec_nd n)).mpr fun s => by rw [hB.all, rch_vec]
  exact ⟨B, hB, by rw [← vec_len, ← hp.length_eq, List.length_map], hp⟩
/-! ### two linked stations -/
def P2 : List (List Int) := [[0, 0], [0, 1], [0, 2], [1, 0], [1, 2], [2, 0], [2, 1]]
theorem mexL_0 : mexL [0] = 1 := mexL_of ⟨by decide, by decide, fun d a b => by omega⟩
theorem mexL_1 : mexL [1] = 2 := mexL_of ⟨by decide, by decide, fun d a b => by
  have : d = 1 := by omega
  subst this
  exact List.mem_singleton.mpr rfl⟩
theorem mexL_2 : mexL [2] = 1 := mexL_of ⟨by decide, by decide, fun d a b => by omega⟩
theorem sw2_0 (a b : Int) : sw (nb [(0, 1)]) [a, b] 0 = [if a = 0 then mexL [b] else 0, b] := rfl
theorem sw2_1 (a b : Int) : sw (nb [(0, 1)]) [a, b] 1 = [a, if b = 0 then mexL [a] else 0] := rfl
theorem rch2 {s : List Int} : Rch (nb [(0, 1)]) 2 s ↔ s ∈ P2 := by
  constructor
  · intro h
    induction h with
    | zero => decide
    | @step t i h hi ih =>
      have : i = 0 ∨ i = 1 := by omega
      simp only [P2, List.mem_cons, List.not_mem_nil, or_false] at ih
      rcases this with rfl | rfl
      · rcases ih with rfl | rfl | rfl | rfl | rfl | rfl | rfl <;> rw [sw2_0] <;> simp [mexL_0, mexL_1, mexL_2, P2]
      · rcases ih with rfl | rfl | rfl | rfl | rfl | rfl | rfl <;> rw [sw2_1] <;> simp [mexL_0, mexL_1, mexL_2, P2]
  · intro h
    have h00 : Rch (nb [(0, 1)]) 2 [0, 0] := .zero
    have h10 : Rch (nb [(0, 1)]) 2 [1, 0] := by have := h00.step (i := 0) (by decide); rw [sw2_0] at this; simpa [mexL_0] using this
    have h01 : Rch (nb [(0, 1)]) 2 [0, 1] := by have := h00.step (i := 1) (by decide); rw [sw2_1] at this; simpa [mexL_0] using this
    have h12 : Rch (nb [(0, 1)]) 2 [1, 2] := by have := h10.step (i := 1) (by decide); rw [sw2_1] at this; simpa [mexL_1] using this
    have h21 : Rch (nb [(0, 1)]) 2 [2, 1] := by have := h01.step (i := 0) (by decide); rw [sw2_0] at this; simpa [mexL_1] using this
    have h02 : Rch (nb [(0, 1)]) 2 [0, 2] := by have := h12.step (i := 0) (by decide); rw [sw2_0] at this; simpa using this
    have h20 : Rch (nb [(0, 1)]) 2 [2, 0] := by have := h21.step (i := 1) (by decide); rw [sw2_1] at this; simpa using this
    simp only [P2, List.mem_cons, List.not_mem_nil, or_false] at h
    rcases h with rfl | rfl | rfl | rfl | rfl | rfl | rfl <;> assumption
theorem two_bfs : ∃ B, Bfs (nb [(0, 1)]) 2 B ∧ B.length = 7 ∧ (B.map Ent.st).Perm P2 := by
  obtain ⟨B, hB, _⟩ := bfs_ex (nbr := nb [(0, 1)]) (n := 2) (B := P2.length) fun L nd hL => len_le_of_sub nd fun s hs => rch2.mp (hL s hs)
  have hp : (B.map Ent.st).Perm P2 := (List.perm_ext_iff_of_nodup hB.okk.nd (by decide)).mpr fun s => by rw [hB.all, rch2]
  exact ⟨B, hB, by rw [show (7 : Nat) = P2.length from rfl, ← hp.length_eq, List.length_map], hp⟩
end NX

namespace NX
open PySem PySem.Spec PyProof.Rows L2
/-! ### how many states there are at least; stations without links -/
theorem bfs_any (n : Nat) (ks : List Pr) : ∃ B, Bfs (nb ks) n B := by
  obtain ⟨B, hB, _⟩ := bfs_ex (nbr := nb ks) (n := n) (B := prodL ((List.range n).map fun (j : Nat) => (nb ks (j : Int)).length + 1)) fun L nd hL =>
    rch_count (cs := (List.range n).map fun (j : Nat) => (nb ks (j : Int)).length + 1) (by rw [List.length_map, List.length_range]) (fun j hj => by
      rw [List.getD_eq_getElem?_getD, List.getElem?_map, List.getElem?_range hj]
      exact Nat.le_refl _) L nd hL
  exact ⟨B, hB⟩
theorem tv_z (n j : Nat) : tv (List.replicate n 0) (j : Int) = 0 := by
  rw [tv_nat, List.getD_eq_getElem?_getD, List.getElem?_replicate]
  split <;> rfl
theorem sw_zero {nbr : Nbr} {n i : Nat} (hi : i < n) (j : Nat) : (j = i → 1 ≤ tv (sw nbr (List.replicate n 0) i) (j : Int)) ∧ (j ≠ i → tv (sw nbr (List.replicate n 0) i) (j : Int) = 0) := by
  rw [sw_tv (by rw [List.length_replicate]; exact hi) j]
  constructor
  · intro e
    rw [if_pos e]
    unfold chn
    rw [tv_z, if_pos rfl]
    exact (mexL_le _).1
  · intro e
    rw [if_neg e, tv_z]
theorem bfs_more {n : Nat} {nbr : Nbr} {B : List Ent} (h : Bfs nbr n B) : n + 1 ≤ B.length := by
  have nd : (List.replicate n (0 : Int) :: (List.range n).map fun i => sw nbr (List.replicate n 0) i).Nodup := by
    refine List.nodup_cons.mpr ⟨fun m => ?_, ?_⟩
    · obtain ⟨i, hi, e⟩ := List.mem_map.mp m
      have := (sw_zero (nbr := nbr) (List.mem_range.mp hi) i).1 rfl
      rw [e, tv_z] at this
      omega
    · refine List.pairwise_map.mpr (List.Pairwise.imp_of_mem ?_ List.nodup_range)
      intro a b ha hb ne e
      have h1 := (sw_zero (nbr := nbr) (List.mem_range.mp ha) a).1 rfl
      have h2 := (sw_zero (nbr := nbr) (List.mem_range.mp hb) a).2 ne
      rw [e] at h1
      omega
  have := len_le_of_sub (m := B.map Ent.st) nd fun s hs => (h.all s).mpr (by
    rcases List.mem_cons.mp hs with rfl | hs
    · exact .zero
    · obtain ⟨i, hi, rfl⟩ := List.mem_map.mp hs
      exact Rch.zero.step (List.mem_range.mp hi))
  rw [List.length_cons, List.length_map, List.length_range, List.length_map] at this
  exact this
/-- an entry for each station switched on alone, at level 1 -/
theorem bfs_one {n : Nat} {nbr : Nbr} {B : List Ent} (h : Bfs nbr n B) {i : Nat} (hi : i < n) : ∃ f ∈ B, f.st = sw nbr (List.replicate n 0) i ∧ f.l ≤ 1 := by
  have h0 : 0 < (bfsE nbr n 0).length := by simp [bfsE]
  have pre := h.pre h0 (Nat.le_refl n)
  have he : ∃ e, (bfsE nbr n 0)[0]? = some e ∧ e.st = List.replicate n 0 ∧ e.l = 0 := by
    have hk := List.getElem?_eq_getElem h0
    have ok := bfs_okk nbr n 0
    refine ⟨_, hk, ?_, ?_⟩
    · exact ok.l0 hk (Nat.le_zero.mp (ok.lk 0 hk))
    · exact Nat.le_zero.mp (ok.lk 0 hk)
  obtain ⟨e, he, es, el⟩ := he
  have hm := closed_row (nbr := nbr) he (j := n) hi
  obtain ⟨f, hf, ef⟩ := List.mem_map.mp hm
  refine ⟨f, pre.subset hf, by rw [ef, es], ?_⟩
  have lv := (bfs_lv nbr n 0).row (nbr := nbr) n
  have := lv.top e (pre_get (rowE_pre nbr 0 _ (Nat.zero_le n)) he) f hf
  omega
theorem few9 {B : List Ent} (h : Bfs (nb []) 9 B) {e : Ent} {r : List Ent} {is : List Nat} (q : selE B 3 1 = e :: r) (p : Pth B e is) : is = [3] := by
  obtain ⟨f, hf, ef, fl⟩ := bfs_one h (i := 3) (by decide)
  have hv : tv f.st ((3 : Nat) : Int) = 1 := by
    rw [ef, sw_tv (by decide) 3, if_pos rfl, chn_nil, tv_z, if_pos rfl]
  have hfs : f ∈ selE B 3 1 := List.mem_filter.mpr ⟨hf, decide_eq_true hv⟩
  have hl := selE_min h q f hfs
  obtain ⟨heB, hev⟩ := selE_in (q ▸ List.mem_cons_self : e ∈ selE B 3 1)
  obtain ⟨k, hk⟩ := List.mem_iff_getElem?.mp heB
  obtain ⟨f1, f2, f3⟩ := p.facts h.okk hk
  have ne : e.l ≠ 0 := fun z => by
    rw [h.okk.l0 hk z, tv_z] at hev
    exact absurd hev (by decide)
  match is, f1, f2, f3 with
  | [], f1, _, _ => exact absurd f1.symm ne
  | [i], _, f2, f3 =>
    have hi := f2 i List.mem_cons_self
    have f3 : sw (nb []) (List.replicate 9 0) i = e.st := f3
    by_cases c : 3 = i
    · rw [← c]
    · have := (sw_zero (nbr := nb []) hi 3).2 c
      rw [f3, hev] at this
      exact absurd this (by decide)
  | _ :: _ :: _, f1, _, _ =>
    simp only [List.length_cons] at f1
    omega
theorem sel9 {B : List Ent} (h : Bfs (nb []) 9 B) : selE B 3 1 ≠ [] := fun z => by
  obtain ⟨f, hf, ef, _⟩ := bfs_one h (i := 3) (by decide)
  have hv : tv f.st ((3 : Nat) : Int) = 1 := by
    rw [ef, sw_tv (by decide) 3, if_pos rfl, chn_nil, tv_z, if_pos rfl]
  have : f ∈ selE B 3 1 := List.mem_filter.mpr ⟨hf, decide_eq_true hv⟩
  rw [z] at this
  exact nomatch this
end NX

namespace NX
open PySem PySem.Spec PyProof.Rows L2
open Evl (Ex ex_l ex_t fresh_back)
open LamX (CodeO TabB)
abbrev s__law_outcomes : Stmt := top 43
theorem sc__law_outcomes : FnScope ["_law_network", "_law_station", "_law_channel", "_law_found"] ["_law_network", "_law_station", "_law_channel"] (defScope s__law_outcomes) := ⟨rfl, rfl, rfl, by decide +kernel, rfl, by decide +kernel, by decide +kernel⟩
def qO (c : Addr) : Str := (envOfC "_law_outcomes" (defScope s__law_outcomes) 0 0 (.ref c)).qual ++ "<lambda>"
def spOuts (K : PySem.W.Frag) (C : Addr) (T : List (Addr × Str)) : Sp := fun vs H Q _ => ∃ (a : Addr) (v u : V) (n : Nat) (ks : List Pr) (w t : Str) (G : Hp) (f : Addr → Array Value) (A : List (Addr × HO)), vs = [.ref a, v, u] ∧ Own G (A ++ tl T f) H ∧ (∀ q ∈ A, ∃ ys, q.2 = HO.lst ys) ∧ TabsG G T f ∧ NetAt C (noT G) a n ks ∧ CaseQ K (noT G) n v u w t ∧
  ∀ H' G' f' p xs, Ex (noT G) (noT G') → Own G' ((p, .lst xs) :: (A ++ tl T f')) H' → TabsG G' T f' → OutsOk G' xs w t → Q (.ref p) H'
theorem out_ch {K : PySem.W.Frag} {C0 CS : Addr} {Cs : Nat → Addr} {Q : VK} {d : Addr} {H : Hp} {v : V} {t : Str} (KS : Kind8 K C0 Cs CS 1) (hs : ShV K H v t) (hd : H d = some (.xd [("channel", v)])) (k : Ret (.tup [.str "channel", .str t]) H Q) : EOut K C0 Cs Q (.ref CS) (some d) H :=
  ⟨CS, d, 1, v, .str t, rfl, rfl, KS, hd, .inl ⟨.inr (.inl rfl), t, hs, rfl⟩, k⟩
theorem out_many {K : PySem.W.Frag} {C0 CS : Addr} {Cs : Nat → Addr} {Q : VK} {d : Addr} {H : Hp} {v : V} (KS : Kind8 K C0 Cs CS 2) (hd : H d = some (.xd [("most", v)])) (k : Ret (.tup [.str "many", v]) H Q) : EOut K C0 Cs Q (.ref CS) (some d) H :=
  ⟨CS, d, 2, v, v, rfl, rfl, KS, hd, .inr ⟨.inl rfl, rfl⟩, k⟩
section
variable {P : Program} {w : World} {K : PySem.W.Frag} {mg : Str → Option Value} {base : Heap} {C CS CC CT CN C0 c Pt : Addr} {Cs : Nat → Addr} {TS : List (Addr × Str)}
theorem ok_outs {f : Addr} {fd : FuncData} (F : FunC K "_law_outcomes" "_law_outcomes" s__law_outcomes f fd c) (T : Txt mg) (NC : NetC K C) (TB : TabB base mg c Pt) (hmT : (Pt, qO c) ∈ TS) (hnT : (TS.map Prod.fst).Nodup) (KS : Kind8 K C0 Cs CS 0) (KC : Kind8 K C0 Cs CC 1) (KT : Kind8 K C0 Cs CT 2) (KN : Kind8 K C0 Cs CN 3)
    (L__law_outcome : LamDefG P w K mg base "_law_outcome" "_law_ask" (OutT K C0 Cs)) (k_fewest_3_mostx : CalK P w K mg base 6 "fewest" ["network", "station", "channel", "most"] 3 ["most"] (fun vs zs => vs ++ zs) (spFewS C CS CC CT))
    (c_check_neverx : Cal P w K mg base 6 "check_never" ["network", "station", "channel", "states"] [] (spNevX C CS CC CN)) (c_schedule_lowx : Cal P w K mg base 7 "schedule_low" ["network", "station", "channel"] [] (spLow C CS CC)) :
    FnOkG P w K mg base 12 f fd ["_law_network", "_law_station", "_law_channel"] (spOuts K C TS) := by
  have huT := tab_u hnT hmT
  refine okGC F sc__law_outcomes (fun vs H Q E h => ?_) (fun A outer s H vs Q E hG0 hr h => ?_)
  · obtain ⟨a, v, u, n, ks, w, t, G, ft, A, rfl, _⟩ := h
    rfl
  · obtain ⟨a, v, u, n, ks, w, t, G, ft, A0, rfl, S0, hA, tg, N, hq, k⟩ := h
    have hu65 : ∀ X : Cx, X.A.units = (A.deeper (envOfC "_law_outcomes" (defScope s__law_outcomes) s.heap.objs.size f (.ref c))).units → X.A.units + 65 < cLine := fun X e => by rw [e]; have := hr.un; omega
    have hG : (A.deeper (envOfC "_law_outcomes" (defScope s__law_outcomes) s.heap.objs.size f (.ref c))).guards = some [] := hG0
    refine ⟨_, (pss_cons (ps_set (i := 3) sc__law_outcomes.nd rfl (Or.inl rfl) (pe_lst (pa_cons (pe_lamG (k := 8) L__law_outcome hG TB hmT huT (hr.mono (by first | decide | omega)) (fun A outer s H E f c' hr => (pe_calK k_fewest_3_mostx (hr.mono (by first | decide | omega)) (passE (takes_of rfl rfl rfl rfl) fun _ _ _ _ z => z) (pa_cons (pv 0) (pa_cons (pv 1) (pa_cons (pv 2) pa_nil))) (pk_cons pe_int pk_nil))) (LamX.lamS_by (sc := defScope s__law_outcomes) (by decide +kernel))) pa_nil)))
      (pss_cons (ps_expr (pe_bm PySem.F.plainAttrs_list PySem.F.slot_list_append PySem.F.type_list_append mt_append (pv 3) (pa_cons (pe_lamG (k := 8) L__law_outcome hG TB hmT huT (hr.mono (by first | decide | omega)) (fun A outer s H E f c' hr => (pe_cal c_check_neverx (hr.mono (by first | decide | omega)) (passE (takes_of rfl rfl rfl rfl) fun _ _ _ _ z => z) (pa_cons (pv 0) (pa_cons (pv 1) (pa_cons (pv 2) (pa_cons pe_non pa_nil)))))) (LamX.lamS_by (sc := defScope s__law_outcomes) (by decide +kernel))) pa_nil)))
      (pss_cons (ps_expr (pe_bm PySem.F.plainAttrs_list PySem.F.slot_list_append PySem.F.type_list_append mt_append (pv 3) (pa_cons (pe_lamG (k := 8) L__law_outcome hG TB hmT huT (hr.mono (by first | decide | omega)) (fun A outer s H E f c' hr => (pe_cal c_schedule_lowx (hr.mono (by first | decide | omega)) (passE (takes_of rfl rfl rfl rfl) fun _ _ _ _ z => z) (pa_cons (pv 0) (pa_cons (pv 1) (pa_cons (pv 2) pa_nil))))) (LamX.lamS_by (sc := defScope s__law_outcomes) (by decide +kernel))) pa_nil)))
      (pss_one (ps_ret (pv 3)))))), ?_⟩
    walk_at "go"
    rcases hq with ov | ⟨hst, ov⟩ | ⟨hst, rfl⟩
    · refine n_lamN (L := A0) S0 tg hA fun G1 H1 f1 e1 S1 tg1 => ?_
      have c1 : Ex (noT G) G1 := ex_step (ex_noT G) e1
      have x1 : Ex (noT G) H1 := c1.trans S1.ex
      intro E1 Q1 hE1 hQ1
      walk_at "go"
      have o1 := ov.mono x1
      refine ⟨rfl, rfl, a, n, ks, v, u, 0, rfl, N.mono x1, .inl ⟨o1.odd, fun d H2 e2 hd => hE1 _ _ _ (out_st KS (o1.mono e2).sh hd (n_retG (S1.grow e2) fun p3 G3 H3 _ e3 _ hp3 S3 => ?_))⟩⟩
      walk_at "go"
      have c3 := c1.trans e3
      have tg3 := tg1.mono e3
      have w3 : WT G3 p3 "station" t := hp3
      refine n_lst S3 (by show 1 ≤ 10000000; decide) fun pl Hl _ Sl => ?_
      walk_at "go"
      refine ⟨tyL Sl.l0, ?_⟩
      walk_at "go"
      refine n_lamN (L := ((pl, .lst [.ref p3]) :: A0)) Sl tg3 (lstA hA) fun G4 H4 f4 e4 S4 tg4 => ?_
      have c4 : Ex (noT G) G4 := ex_step c3 e4
      have x4 : Ex (noT G) H4 := c4.trans S4.ex
      have w3_4 := w3.lam e4
      intro E4 Q4 hE4 hQ4
      walk_at "go"
      have o4 := ov.mono x4
      refine ⟨a, n, ks, v, u, .non, rfl, N.mono x4, .inl ⟨o4.odd, fun d H5 e5 hd => hE4 _ _ _ (out_st KS (o4.mono e5).sh hd (n_retG (S4.grow e5) fun p6 G6 H6 _ e6 _ hp6 S6 => ?_))⟩⟩
      walk_at "go"
      have c6 := c4.trans e6
      have tg6 := tg4.mono e6
      have w3_4m := w3_4.mono e6
      have w6 : WT G6 p6 "station" t := hp6
      refine n_app S6 (by show 1 ≤ 1000000; decide) fun Ha1 Sa1 => ?_
      walk_at "go"
      refine ⟨tyL Sa1.l0, ?_⟩
      walk_at "go"
      refine n_lamN (L := ((pl, .lst [.ref p3, .ref p6]) :: A0)) Sa1 tg6 (lstA hA) fun G7 H7 f7 e7 S7 tg7 => ?_
      have c7 : Ex (noT G) G7 := ex_step c6 e7
      have x7 : Ex (noT G) H7 := c7.trans S7.ex
      have w3_4m_7 := w3_4m.lam e7
      have w6_7 := w6.lam e7
      intro E7 Q7 hE7 hQ7
      walk_at "go"
      have o7 := ov.mono x7
      refine ⟨a, n, ks, v, u, rfl, N.mono x7, .inl ⟨o7.odd, fun d H8 e8 hd => hE7 _ _ _ (out_st KS (o7.mono e8).sh hd (n_retG (S7.grow e8) fun p9 G9 H9 _ e9 _ hp9 S9 => ?_))⟩⟩
      walk_at "go"
      have c9 := c7.trans e9
      have tg9 := tg7.mono e9
      have w3_4m_7m := w3_4m_7.mono e9
      have w6_7m := w6_7.mono e9
      have w9 : WT G9 p9 "station" t := hp9
      refine n_app S9 (by show 2 ≤ 1000000; decide) fun Ha2 Sa2 => ?_
      walk_at "go"
      exact k _ _ _ _ _ (ex_nn c9) Sa2 tg9 ⟨_, _, _, .inl ⟨by decide, rfl, w3_4m_7m, w6_7m, w9⟩⟩
    · obtain ⟨i0, rfl, h0, h1⟩ := id hst
      obtain ⟨i, rfl⟩ : ∃ i : Nat, i0 = (i : Int) := ⟨i0.toNat, by omega⟩
      have hi : i < n := by omega
      refine n_lamN (L := A0) S0 tg hA fun G1 H1 f1 e1 S1 tg1 => ?_
      have c1 : Ex (noT G) G1 := ex_step (ex_noT G) e1
      have x1 : Ex (noT G) H1 := c1.trans S1.ex
      intro E1 Q1 hE1 hQ1
      walk_at "go"
      have o1 := ov.mono x1
      refine ⟨rfl, rfl, a, n, ks, (.int (i : Int)), u, 0, rfl, N.mono x1, .inr (.inl ⟨hst, o1.odd, fun d H2 e2 hd => hE1 _ _ _ (out_ch KC (o1.mono e2).sh hd (n_retG (S1.grow e2) fun p3 G3 H3 _ e3 _ hp3 S3 => ?_))⟩)⟩
      walk_at "go"
      have c3 := c1.trans e3
      have tg3 := tg1.mono e3
      have w3 : WT G3 p3 "channel" t := hp3
      refine n_lst S3 (by show 1 ≤ 10000000; decide) fun pl Hl _ Sl => ?_
      walk_at "go"
      refine ⟨tyL Sl.l0, ?_⟩
      walk_at "go"
      refine n_lamN (L := ((pl, .lst [.ref p3]) :: A0)) Sl tg3 (lstA hA) fun G4 H4 f4 e4 S4 tg4 => ?_
      have c4 : Ex (noT G) G4 := ex_step c3 e4
      have x4 : Ex (noT G) H4 := c4.trans S4.ex
      have w3_4 := w3.lam e4
      intro E4 Q4 hE4 hQ4
      walk_at "go"
      have o4 := ov.mono x4
      refine ⟨a, n, ks, (.int (i : Int)), u, .non, rfl, N.mono x4, .inr (.inl ⟨hst, o4.odd, fun d H5 e5 hd => hE4 _ _ _ (out_ch KC (o4.mono e5).sh hd (n_retG (S4.grow e5) fun p6 G6 H6 _ e6 _ hp6 S6 => ?_))⟩)⟩
      walk_at "go"
      have c6 := c4.trans e6
      have tg6 := tg4.mono e6
      have w3_4m := w3_4.mono e6
      have w6 : WT G6 p6 "channel" t := hp6
      refine n_app S6 (by show 1 ≤ 1000000; decide) fun Ha1 Sa1 => ?_
      walk_at "go"
      refine ⟨tyL Sa1.l0, ?_⟩
      walk_at "go"
      refine n_lamN (L := ((pl, .lst [.ref p3, .ref p6]) :: A0)) Sa1 tg6 (lstA hA) fun G7 H7 f7 e7 S7 tg7 => ?_
      have c7 : Ex (noT G) G7 := ex_step c6 e7
      have x7 : Ex (noT G) H7 := c7.trans S7.ex
      have w3_4m_7 := w3_4m.lam e7
      have w6_7 := w6.lam e7
      intro E7 Q7 hE7 hQ7
      walk_at "go"
      have o7 := ov.mono x7
      refine ⟨a, n, ks, (.int (i : Int)), u, rfl, N.mono x7, .inr ⟨i, rfl, hi, fun t2 ht2 => .inl ⟨?_, fun d H8 e8 hd => hE7 _ _ _ (out_ch KC (o7.mono e8).sh hd (n_retG (S7.grow e8) fun p9 G9 H9 _ e9 _ hp9 S9 => ?_))⟩⟩⟩
      · obtain ⟨ty, b1, b2⟩ := o7.odd
        exact ⟨ty, b1, fun h => let ⟨z, hz, hz1⟩ := b2 h; ⟨z, hz, fun c => by omega⟩⟩
      walk_at "go"
      have c9 := c7.trans e9
      have tg9 := tg7.mono e9
      have w3_4m_7m := w3_4m_7.mono e9
      have w6_7m := w6_7.mono e9
      have w9 : WT G9 p9 "channel" t := hp9
      refine n_app S9 (by show 2 ≤ 1000000; decide) fun Ha2 Sa2 => ?_
      walk_at "go"
      exact k _ _ _ _ _ (ex_nn c9) Sa2 tg9 ⟨_, _, _, .inl ⟨by decide, rfl, w3_4m_7m, w6_7m, w9⟩⟩
    · obtain ⟨i0, rfl, h0, h1⟩ := id hst
      obtain ⟨i, rfl⟩ : ∃ i : Nat, i0 = (i : Int) := ⟨i0.toNat, by omega⟩
      have hi : i < n := by omega
      obtain ⟨B, hB⟩ := bfs_any n ks
      have hBl := bfs_more hB
      refine n_lamN (L := A0) S0 tg hA fun G1 H1 f1 e1 S1 tg1 => ?_
      have c1 : Ex (noT G) G1 := ex_step (ex_noT G) e1
      have x1 : Ex (noT G) H1 := c1.trans S1.ex
      intro E1 Q1 hE1 hQ1
      walk_at "go"
      refine ⟨rfl, rfl, a, n, ks, (.int (i : Int)), (.int 1), 0, rfl, N.mono x1, .inr (.inr ⟨i, 1, B, rfl, hi, rfl, by decide, hB, .inr (by decide), fun _ => fun d H2 e2 hd => hE1 _ _ _ (out_many KT hd (n_retG (S1.grow e2) fun p3 G3 H3 _ e3 _ hp3 S3 => ?_)), fun h => absurd h (by omega)⟩)⟩
      walk_at "go"
      have c3 := c1.trans e3
      have tg3 := tg1.mono e3
      have w3 : WI G3 p3 "many" 0 := hp3
      refine n_lst S3 (by show 1 ≤ 10000000; decide) fun pl Hl _ Sl => ?_
      walk_at "go"
      refine ⟨tyL Sl.l0, ?_⟩
      walk_at "go"
      refine n_lamN (L := ((pl, .lst [.ref p3]) :: A0)) Sl tg3 (lstA hA) fun G4 H4 f4 e4 S4 tg4 => ?_
      have c4 : Ex (noT G) G4 := ex_step c3 e4
      have x4 : Ex (noT G) H4 := c4.trans S4.ex
      have w3_4 := w3.lam e4
      intro E4 Q4 hE4 hQ4
      walk_at "go"
      refine ⟨a, n, ks, (.int (i : Int)), (.int 1), .non, rfl, N.mono x4, .inr (.inr ⟨⟨_, rfl, by omega, by omega⟩, ⟨1, rfl, by decide⟩, ⟨"NoneType", .non, by decide⟩, fun d H5 e5 hd => hE4 _ _ _ (out_ix KN (.inl rfl) hd (n_retG (S4.grow e5) fun p6 G6 H6 _ e6 _ hp6 S6 => ?_))⟩)⟩
      walk_at "go"
      have c6 := c4.trans e6
      have tg6 := tg4.mono e6
      have w3_4m := w3_4.mono e6
      have w6 : WI G6 p6 "closed" (-1) := hp6
      refine n_app S6 (by show 1 ≤ 1000000; decide) fun Ha1 Sa1 => ?_
      walk_at "go"
      refine ⟨tyL Sa1.l0, ?_⟩
      walk_at "go"
      refine n_lamN (L := ((pl, .lst [.ref p3, .ref p6]) :: A0)) Sa1 tg6 (lstA hA) fun G7 H7 f7 e7 S7 tg7 => ?_
      have c7 : Ex (noT G) G7 := ex_step c6 e7
      have x7 : Ex (noT G) H7 := c7.trans S7.ex
      have w3_4m_7 := w3_4m.lam e7
      have w6_7 := w6.lam e7
      intro E7 Q7 hE7 hQ7
      walk_at "go"
      refine ⟨a, n, ks, (.int (i : Int)), (.int 1), rfl, N.mono x7, .inr ⟨i, rfl, hi, fun t2 ht2 => .inr ⟨1, rfl, ⟨by decide, by have := (ht2.2 i hi).1; omega⟩, n_retG S7 fun p9 G9 H9 _ e9 _ hp9 S9 => hQ7 _ _ ?_⟩⟩⟩
      walk_at "go"
      have c9 := c7.trans e9
      have tg9 := tg7.mono e9
      have w3_4m_7m := w3_4m_7.mono e9
      have w6_7m := w6_7.mono e9
      refine n_app S9 (by show 2 ≤ 1000000; decide) fun Ha2 Sa2 => ?_
      walk_at "go"
      exact k _ _ _ _ _ (ex_nn c9) Sa2 tg9 ⟨_, _, p9, .inr ⟨rfl, rfl, w3_4m_7m, w6_7m⟩⟩
end
end NX

namespace NX
open PySem PySem.Spec PyProof.Rows L2
open Evl (Ex ex_l ex_t fresh_back)
/-- a well of draws -/
def wl (a b c : Int) : HO := .lst [.int a, .int b, .int c]
theorem n_setLi {H : Hp} {W : Addr} {xs : List V} {i : Int} {j : Nat} {v : V} {Q : Hp → Prop} (h : H W = some (.lst xs)) (hi : ixN xs.length i = some j) (k : Q (upd H W (.lst (xs.set j v)))) : rSetL (.ref W) (.int i) v H Q := ⟨W, xs, i, j, rfl, rfl, h, hi, k⟩
theorem mod_rng {a m : Int} (h : 0 < m) : 0 ≤ a % m ∧ a % m < m := ⟨Int.emod_nonneg a (by omega), Int.emod_lt_of_pos a h⟩
theorem Own.weak {G G' H : Hp} {L : List (Addr × HO)} (e : Ex G G') (S : Own G' L H) : Own G L H := ⟨e.trans S.ex, fun p hp => ⟨fresh_back e (S.at_ p hp).1, (S.at_ p hp).2⟩, S.nd, S.nt⟩
/-- xs.pop(i) -/
theorem n_popAt {G H : Hp} {L : List (Addr × HO)} {p : Addr} {xs : List V} {i : Int} {Q : VK} (S : Own G ((p, .lst xs) :: L) H) (h0 : 0 ≤ i) (h1 : i < (xs.length : Int)) (hz : xs.length ≤ 1000000)
    (k : ∀ y H1, xs[i.toNat]? = some y → Own G ((p, .lst (xs.eraseIdx i.toNat)) :: L) H1 → Q y H1) : rPopAt (.ref p) [.int i] H Q := by
  have hl : i.toNat < xs.length := by omega
  have hy : xs[i.toNat]? = some xs[i.toNat] := List.getElem?_eq_getElem hl
  refine ⟨p, xs, i, i.toNat, _, rfl, rfl, S.get0, by omega, by omega, ?_, hy, k _ _ hy S.put0⟩
  unfold seqIndex?
  have h3 : ¬ i < 0 := by omega
  simp [h3, h1]
  try omega
/-- a list whose items are data: for == and != -/
def DataOk (K : PySem.W.Frag) (G : Hp) (xs : List V) : Prop := ∀ H, Ex G H → ∀ ys : List V, (∀ y ∈ ys, y ∈ xs) → ∃ ds, DpAll K H ys ds ∧ SeqAt.shaped (.list ds) = true ∧ ds.length = ys.length
theorem ints_of_sub {ns : List Int} : ∀ {ys : List V}, (∀ y ∈ ys, y ∈ ns.map V.int) → ∃ ms : List Int, ys = ms.map V.int
  | [], _ => ⟨[], rfl⟩
  | y :: ys, h => by
    obtain ⟨ms, rfl⟩ := ints_of_sub (ys := ys) fun y hy => h y (List.mem_cons_of_mem _ hy)
    obtain ⟨m, _, rfl⟩ := List.mem_map.mp (h y List.mem_cons_self)
    exact ⟨m :: ms, rfl⟩
theorem data_ints (K : PySem.W.Frag) (G : Hp) (ns : List Int) : DataOk K G (ns.map V.int) := fun H _ ys h => by
  obtain ⟨ms, rfl⟩ := ints_of_sub h
  exact ⟨_, dp_ints ms, shaped_ints ms, by simp⟩
theorem data_lks {K : PySem.W.Frag} {G : Hp} {xs : List V} {ps : List Pr} (h : Lks G xs ps) : DataOk K G xs := fun H e ys hy => by
  have z : Lks G ys (ys.map (kOf G)) := lks_of fun x hx => (lks_k h).2 x (hy x hx)
  exact ⟨_, dp_lks (z.mono e), shaped_lks _, by simp⟩
theorem eqv_nil (ds : List PyData) : PyData.eqv (.list ds) (.list []) = decide (ds = []) := by
  cases ds with
  | nil => simp [PyData.eqv, PyData.eqvAll]
  | cons d ds => simp [PyData.eqv, PyData.eqvAll]
theorem n_neNil {K : PySem.W.Frag} {G H : Hp} {p q : Addr} {xs ys : List V} {Q : VK} (d : DataOk K G xs) (e : Ex G H) (sub : ∀ y ∈ ys, y ∈ xs) (h1 : SqL K H p ys) (h2 : SqL K H q []) (k : Q (.bl (!decide (ys = []))) H) : rNeD K (.ref p) (.ref q) H Q := by
  obtain ⟨ds, h3, h4, h5⟩ := d H e ys sub
  refine ⟨_, _, .lst h1 h3, .lst h2 .nil, h4, shaped_ints [], ?_⟩
  rw [eqv_nil]
  have z : decide (ds = []) = decide (ys = []) := by
    rw [Bool.eq_iff_iff, decide_eq_true_eq, decide_eq_true_eq, ← List.length_eq_zero_iff, ← List.length_eq_zero_iff, h5]
  rw [z]
  exact k
theorem erase_perm {α : Type} : ∀ {l : List α} {i : Nat} (h : i < l.length), (l[i] :: l.eraseIdx i).Perm l
  | [], _, h => absurd h (Nat.not_lt_zero _)
  | a :: l, 0, _ => List.Perm.refl _
  | a :: l, i + 1, h => by
    have ih := erase_perm (l := l) (i := i) (by simpa using h)
    exact (List.Perm.swap a _ _).trans (ih.cons a)
theorem DataOk.mono {K : PySem.W.Frag} {G H : Hp} {xs : List V} (h : DataOk K G xs) (e : Ex G H) : DataOk K H xs := fun H' e' => h H' (e.trans e')
def spMixed (K : PySem.W.Frag) : Sp := fun vs H Q _ => ∃ (W p : Addr) (a b c : Int) (xs : List V), vs = [.ref W, .ref p] ∧ H W = some (wl a b c) ∧ SqL K (cut H [(W, wl a b c)]) p xs ∧ DataOk K (cut H [(W, wl a b c)]) xs ∧ xs.length ≤ 100000 ∧
  ∀ ys q H' a' b' c', ys.Perm xs → H q = none → Own (cut H [(W, wl a b c)]) [(W, wl a' b' c'), (q, .lst ys)] H' → Q (.ref q) H'
theorem n_mixed {K : PySem.W.Frag} {H G : Hp} {L : List (Addr × HO)} {W p : Addr} {a b c : Int} {xs : List V} {Q : VK} {E : XK} (S : Own G ((W, wl a b c) :: L) H) (hp : SqL K G p xs) (hd : DataOk K G xs) (hz : xs.length ≤ 100000)
    (k : ∀ ys q H1 a' b' c', ys.Perm xs → H q = none → Own G ((W, wl a' b' c') :: (q, .lst ys) :: L) H1 → Q (.ref q) H1) : spMixed K [.ref W, .ref p] H Q E :=
  ⟨W, p, a, b, c, xs, rfl, S.get0, ex_l S.keep hp, hd.mono S.keep, hz, fun ys q H' a' b' c' hy hq T => k ys q H' a' b' c' hy hq (S.back T)⟩
end NX

namespace NX
open PySem PySem.Spec PyProof.Rows L2
open Evl (Ex ex_l ex_t fresh_back)
abbrev s__law_well : Stmt := top 38
theorem sc__law_well : FnScope ["_law_cell", "_law_turn"] ["_law_cell", "_law_turn"] (defScope s__law_well) := ⟨rfl, rfl, rfl, by decide +kernel, rfl, by decide +kernel, by decide +kernel⟩
abbrev s__law_take : Stmt := top 39
theorem sc__law_take : FnScope ["_law_well_here", "_law_bound", "_law_drawn", "_law_value"] ["_law_well_here", "_law_bound"] (defScope s__law_take) := ⟨rfl, rfl, rfl, by decide +kernel, rfl, by decide +kernel, by decide +kernel⟩
abbrev s__law_mixed : Stmt := top 40
theorem sc__law_mixed : FnScope ["_law_well_here", "_law_some", "_law_left", "_law_found"] ["_law_well_here", "_law_some"] (defScope s__law_mixed) := ⟨rfl, rfl, rfl, by decide +kernel, rfl, by decide +kernel, by decide +kernel⟩
/-- a draw below n: some number, the well in some other state -/
def spTake : Sp := fun vs H Q _ => ∃ (W : Addr) (a b c n : Int), vs = [.ref W, .int n] ∧ H W = some (wl a b c) ∧ 0 < n ∧ n < 1073741824 ∧ ∀ r a' b' c', 0 ≤ r → r < n → Q (.int r) (upd H W (wl a' b' c'))
def spWell : Sp := fun vs H Q _ => ∃ (x t : Int), vs = [.int x, .int t] ∧ ∀ a b c, Ret (wl a b c) H Q
theorem n_take {H G : Hp} {L : List (Addr × HO)} {W : Addr} {a b c n : Int} {Q : VK} {E : XK} (S : Own G ((W, wl a b c) :: L) H) (h : 0 < n ∧ n < 1073741824) (k : ∀ r a' b' c' H1, 0 ≤ r → r < n → Own G ((W, wl a' b' c') :: L) H1 → Q (.int r) H1) : spTake [.ref W, .int n] H Q E :=
  ⟨W, a, b, c, n, rfl, S.get0, h.1, h.2, fun r a' b' c' h1 h2 => k r a' b' c' _ h1 h2 S.put0⟩
section
variable {P : Program} {w : World} {K : PySem.W.Frag} {mg : Str → Option Value} {base : Heap}
theorem ok_well {f : Addr} {fd : FuncData} (F : Fun K "_law_well" "_law_well" s__law_well f fd) (T : Txt mg) : FnOk P w K mg base CX0 1 f fd ["_law_cell", "_law_turn"] spWell := by
  refine F.ok sc__law_well (fun vs H Q E h => ?_) (fun cdv A outer s H vs Q E hr h => ?_)
  · obtain ⟨x, t, rfl, _⟩ := h
    rfl
  · obtain ⟨x, t, rfl, k⟩ := h
    refine ⟨_, (pss_one (ps_ret (pe_lst (pa_cons (pe_op op_mul (pv 0) (pe_callTy call_intN (by rfl) T.n_int (by decide +kernel) (pa_cons (pe_cmpR op_ge (pv 0) (pe_op op_pow pe_int pe_int) (nomark _)) pa_nil))) (pa_cons (pe_op op_add (pe_op op_mod (pv 0) pe_int) (pe_op op_mul pe_int (pv 1))) (pa_cons pe_int pa_nil)))))), ?_⟩
    walk_at "go"
    refine g_I ⟨by decide, by decide, by decide⟩ ?_
    walk_at "go"
    refine g_I (.inr (by split <;> decide)) ?_
    walk_at "go"
    refine g_I (by decide) ?_
    walk_at "go"
    refine g_I (.inl ⟨by decide, by decide⟩) ?_
    walk_at "go"
    refine n_lst (Own.start H) (by show 3 ≤ 10000000; decide) fun W H5 hW S5 => ?_
    exact k _ _ _ W H5 hW S5.ex S5.get0
theorem ok_take {f : Addr} {fd : FuncData} (F : Fun K "_law_take" "_law_take" s__law_take f fd) : FnOk P w K mg base CX0 1 f fd ["_law_well_here", "_law_bound"] spTake := by
  refine F.ok sc__law_take (fun vs H Q E h => ?_) (fun cdv A outer s H vs Q E hr h => ?_)
  · obtain ⟨W, a, b, c, n, rfl, _⟩ := h
    rfl
  · obtain ⟨W, a, b, c, n, rfl, hW, h1, h2, k⟩ := h
    refine ⟨_, (pss_cons (ps_if (pt_cmpR op_gt (pe_ix ix_list (pv 0) pe_int (fun _ _ => rfl)) pe_int (nomark _)) (pss_cons (ps_set (i := 2) sc__law_take.nd rfl (Or.inl rfl) (pe_op op_mod (pe_ix ix_list (pv 0) pe_int (fun _ _ => rfl)) (pv 1)))
      (pss_cons (ps_asg (pe_op op_fdiv (pe_ix ix_list (pv 0) pe_int (fun _ _ => rfl)) (pv 1)) (pg_sub (pv 0) pe_int set_list))
      (pss_one (ps_ret (pv 2))))) pss_nil)
      (pss_cons (ps_asg (pe_op op_add (pe_ix ix_list (pv 0) pe_int (fun _ _ => rfl)) pe_int) (pg_sub (pv 0) pe_int set_list))
      (pss_cons (ps_set (i := 3) sc__law_take.nd rfl (Or.inl rfl) (pe_op op_mod (pe_op op_mul (pe_op op_add (pe_op op_add (pe_ix ix_list (pv 0) pe_int (fun _ _ => rfl)) (pe_op op_mul pe_int (pe_ix ix_list (pv 0) pe_int (fun _ _ => rfl)))) pe_int) pe_int) pe_int))
      (pss_cons (ps_set (i := 3) sc__law_take.nd rfl (Or.inl rfl) (pe_op op_mod (pe_op op_mul (pv 3) (pe_op op_add (pe_op op_fdiv (pv 3) pe_int) pe_int)) pe_int))
      (pss_one (ps_ret (pe_op op_mod (pe_op op_fdiv (pe_op op_mod (pe_op op_mul (pv 3) (pe_op op_add (pe_op op_fdiv (pv 3) pe_int) pe_int)) pe_int) pe_int) (pv 1)))))))), ?_⟩
    have hS : SqL K H W [.int a, .int b, .int c] := SqL.of hW
    walk_at "go"
    refine g_ixL (i := 0) hS rfl ?_
    walk_at "go"
    refine if_2 (fun e => ?_) (fun e => ?_)
    · walk_at "go"
      refine g_ixL (i := 0) hS rfl ?_
      walk_at "go"
      refine g_I h1 ?_
      walk_at "go"
      refine g_ixL (i := 0) hS rfl ?_
      walk_at "go"
      refine g_I ⟨h1, h2⟩ ?_
      walk_at "go"
      refine n_setLi (i := 0) hW rfl ?_
      walk_at "go"
      exact k _ _ _ _ (mod_rng h1).1 (mod_rng h1).2
    · walk_at "go"
      refine g_ixL (i := 2) hS rfl ?_
      walk_at "go"
      refine n_setLi (i := 2) hW rfl ?_
      have hS2 : SqL K (upd H W (.lst [.int a, .int b, .int (c + 1)])) W [.int a, .int b, .int (c + 1)] := SqL.of upd_same
      walk_at "go"
      refine g_ixL (i := 1) hS2 rfl ?_
      walk_at "go"
      refine g_ixL (i := 2) hS2 rfl ?_
      walk_at "go"
      refine g_I (.inl ⟨by decide, by decide⟩) ?_
      walk_at "go"
      refine g_I (.inr ⟨by decide, by decide⟩) ?_
      walk_at "go"
      refine g_I (by decide) ?_
      walk_at "go"
      have z1 := mod_rng (a := (b + 67867967 * (c + 1) + 17) * 48271) (m := 2147483563) (by decide)
      generalize (b + 67867967 * (c + 1) + 17) * 48271 % 2147483563 = x at z1 ⊢
      refine g_I ⟨by decide, by decide⟩ ?_
      walk_at "go"
      refine g_I (.inl ⟨by omega, by omega⟩) ?_
      walk_at "go"
      refine g_I (by decide) ?_
      walk_at "go"
      have z2 := mod_rng (a := x * (x / 1033 + 69697)) (m := 2147483587) (by decide)
      generalize x * (x / 1033 + 69697) % 2147483587 = y at z2 ⊢
      refine g_I ⟨by decide, by decide⟩ ?_
      walk_at "go"
      refine g_I (.inl ⟨by omega, by omega⟩) ?_
      walk_at "go"
      refine g_I (by decide) ?_
      walk_at "go"
      refine g_I ⟨by decide, by decide⟩ ?_
      walk_at "go"
      refine g_I h1 ?_
      exact k _ _ _ _ (mod_rng h1).1 (mod_rng h1).2
theorem ok_mixed {f : Addr} {fd : FuncData} (F : Fun K "_law_mixed" "_law_mixed" s__law_mixed f fd) (T : Txt mg) (c__law_take : Cal P w K mg base 1 "_law_take" ["_law_well_here", "_law_bound"] [] spTake) : FnOk P w K mg base CX0 2 f fd ["_law_well_here", "_law_some"] (spMixed K) := by
  refine F.ok sc__law_mixed (fun vs H Q E h => ?_) (fun cdv A outer s H vs Q E hr h => ?_)
  · obtain ⟨W, p, a, b, c, xs, rfl, _⟩ := h
    rfl
  · obtain ⟨W, p, a, b, c, xs, rfl, hW, hp, hd, hz, k⟩ := h
    have hu65 : ∀ X : Cx, X.A = A.deeper (envOfC "_law_mixed" (defScope s__law_mixed) s.heap.objs.size f cdv) → X.A.units + 65 < cLine := fun X e => by rw [e]; have := hr.un; omega
    have S0 := Own.give (o := wl a b c) hW
    have hG : ∀ x u, x ≠ W → H x = some u → cut H [(W, wl a b c)] x = some u := fun x u ne e => by rw [cut_out (by simpa using ne)]; exact e
    generalize cut H [(W, wl a b c)] = G at hp hd S0 k hG
    refine ⟨_, (pss_cons (ps_set (i := 2) sc__law_mixed.nd rfl (Or.inl rfl) (pe_callTy call_listN (by rfl) T.n_list (by decide +kernel) (pa_cons (pv 1) pa_nil)))
      (pss_cons (ps_set (i := 3) sc__law_mixed.nd rfl (Or.inl rfl) (pe_lst pa_nil))
      (pss_cons (ps_while PassesOwn.never (pt_cmpR (op_neD (Nat.lt_of_succ_lt (hu65 _ rfl))) (pv 2) (pe_lst pa_nil) (nomark _)) (pss_one (ps_expr (pe_bm PySem.F.plainAttrs_list PySem.F.slot_list_append PySem.F.type_list_append mt_append (pv 3) (pa_cons (pe_bm PySem.F.plainAttrs_list PySem.F.slot_list_pop PySem.F.type_list_pop mt_popAt (pv 2) (pa_cons (pe_cal c__law_take (hr.mono (by first | decide | omega)) passN (pa_cons (pv 0) (pa_cons (pe_callB call_lenN (by rfl) T.n_len (by decide +kernel) (pa_cons (pv 2) pa_nil)) pa_nil))) pa_nil)) pa_nil)))))
      (pss_one (ps_ret (pv 3)))))), ?_⟩
    walk_at "go"
    refine n_list S0 (S0.sl hp) fun l H1 hl S1 => ?_
    walk_at "go"
    refine n_lst S1 (by decide) fun q H2 hq S2 => ?_
    walk_at "go"
    have hq0 : H q = none := by
      cases hh : H q with
      | none => rfl
      | some u =>
        by_cases e : q = W
        · rw [e, S1.get1] at hq; cases hq
        · have z := S1.ex _ _ (hG q u e hh)
          rw [hq] at z
          exact z.symm
    refine s_while (fun m σ' H' => ∃ (fs ls : List V) (a' b' c' : Int), σ' = [some (.ref W), some (.ref p), some (.ref l), some (.ref q)] ∧ m = ls.length ∧ (fs ++ ls).Perm xs ∧ Own G [(q, .lst fs), (l, .lst ls), (W, wl a' b' c')] H') _ ⟨[], xs, a, b, c, rfl, rfl, List.Perm.refl _, S2⟩ ?_
    rintro m σ' H' ⟨fs, ls, a', b', c', rfl, rfl, hperm, S⟩
    have hlen : fs.length + ls.length = xs.length := by rw [← List.length_append]; exact hperm.length_eq
    have hsub : ∀ y ∈ ls, y ∈ xs := fun y hy => hperm.mem_iff.mp (List.mem_append_right _ hy)
    walk_at "go"
    refine n_lst S (by decide) fun r H3 hr3 S3 => ?_
    walk_at "go"
    refine n_neNil hd S3.ex hsub (SqL.of S3.get2) S3.l0 ?_
    walk_at "go"
    have S4 := S3.forget
    refine if_2 (fun e => ?_) (fun e => ?_)
    · have hne : ls ≠ [] := fun z => by rw [dtrue z] at e; cases e
      have hpos : 0 < ls.length := List.length_pos_iff.mpr hne
      refine s_turn ?_
      walk_at "go"
      refine ⟨tyL S4.l0, ?_⟩
      walk_at "go"
      refine ⟨tyL S4.l1, ?_⟩
      walk_at "go"
      refine n_len S4.l1 ?_
      walk_at "go"
      refine n_take S4.rot ⟨by omega, by omega⟩ fun i a2 b2 c2 H5 h0 h1 S5 => ?_
      walk_at "go"
      refine n_popAt S5.unrot.swap h0 h1 (by omega) fun y H6 hy S6 => ?_
      walk_at "go"
      refine n_app S6.swap (by omega) fun H7 S7 => ?_
      refine ⟨(ls.eraseIdx i.toNat).length, ?_, fs ++ [y], ls.eraseIdx i.toNat, a2, b2, c2, rfl, rfl, ?_, S7⟩
      · rw [List.length_eraseIdx_of_lt (by omega)]
        omega
      · obtain ⟨hi, ey⟩ := List.getElem?_eq_some_iff.mp hy
        have pe := erase_perm (l := ls) hi
        rw [ey] at pe
        rw [List.append_assoc]
        exact (pe.append_left fs).trans hperm
    · have hnil : ls = [] := Classical.byContradiction fun z => by rw [dfalse z] at e; cases e
      subst hnil
      walk_at "go"
      rw [List.append_nil] at hperm
      exact k fs q _ a' b' c' hperm hq0 ((S4.swap.forget).swap)
end
end NX

namespace NX
open PySem PySem.Spec PyProof.Rows L2
open Evl (Ex ex_l ex_t fresh_back)
/-! ### _law_links -/
/-- behind a call that may change the object at p, where what stands still has grown -/
theorem Own.backG {G G' H H' : Hp} {L L' : List (Addr × HO)} {p : Addr} {o o' : HO} (S : Own G ((p, o) :: L) H) (e : Ex (cut H [(p, o)]) G') (T : Own G' ((p, o') :: L') H') :
    Own (cut G' L) ((p, o') :: L' ++ L) H' ∧ Ex G (cut G' L) ∧ ∀ a u, noTup u = false → G' a = some u → cut G' L a = some u := by
  have hL : ∀ x ∈ L, G' x.1 = some x.2 := fun x hx => e _ _ (by
    have ne : x.1 ≠ p := fun z => S.nin (z ▸ List.mem_map_of_mem hx)
    rw [cut_out (by simpa using ne)]
    exact (S.at_ x (List.mem_cons_of_mem _ hx)).2)
  refine ⟨⟨fun a u h => ?_, fun x hx => ?_, ?_, fun x hx => (List.mem_append.mp hx).elim (T.nt x) (S.forget.nt x)⟩, fun a u h => ?_, fun a u t h => ?_⟩
  · by_cases m : a ∈ L.map Prod.fst
    · rw [cut_in m] at h; cases h
    · rw [cut_out m] at h; exact T.ex _ _ h
  · rcases List.mem_append.mp hx with hx | hx
    · refine ⟨?_, (T.at_ x hx).2⟩
      have z := (T.at_ x hx).1
      by_cases m : x.1 ∈ L.map Prod.fst
      · exact cut_in m
      · rw [cut_out m]; exact z
    · exact ⟨cut_in (List.mem_map_of_mem hx), T.ex _ _ (hL x hx)⟩
  · rw [List.map_append, List.nodup_append]
    refine ⟨T.nd, S.forget.nd, fun a ha b hb z => ?_⟩
    subst z
    obtain ⟨x, hx, ex⟩ := List.mem_map.mp ha
    obtain ⟨y, hy, ey⟩ := List.mem_map.mp hb
    have z := (T.at_ x hx).1
    rw [ex, ← ey, hL y hy] at z
    cases z
  · have ne : a ≠ p := ne_of_none h S.no0
    have m : a ∉ L.map Prod.fst := fun m => by
      obtain ⟨y, hy, ey⟩ := List.mem_map.mp m
      have z := (S.forget.at_ y hy).1
      rw [ey, h] at z
      cases z
    rw [cut_out m]
    exact e _ _ (by rw [cut_out (by simpa using ne)]; exact S.ex _ _ h)
  · have m : a ∉ L.map Prod.fst := fun m => by
      obtain ⟨y, hy, ey⟩ := List.mem_map.mp m
      have z := hL y hy
      rw [ey, h] at z
      have := S.forget.nt y hy
      rw [← Option.some.inj z, t] at this
      cases this
    rw [cut_out m]
    exact h
/-- l.extend(b) -/
theorem n_ext {G H : Hp} {L : List (Addr × HO)} {l b : Addr} {xs zs : List V} {Q : VK} (S : Own G ((l, .lst xs) :: L) H) (hb : H b = some (.lst zs)) (hz : xs.length + zs.length ≤ 1000000) (k : ∀ H1, Own G ((l, .lst (xs ++ zs)) :: L) H1 → Q .non H1) : rExtend (.ref l) [.ref b] H Q :=
  ⟨l, b, xs, zs, rfl, rfl, S.get0, hb, small (by omega), k _ S.put0⟩
/-- links by places: below first -/
def RawL (m : Int) (ips : List Pr) : Prop := ips.Nodup ∧ ∀ q ∈ ips, 0 ≤ q.1 ∧ q.1 < q.2 ∧ q.2 < m
theorem raw_okl {n : Nat} {ips : List Pr} (h : RawL (n : Int) ips) : Okl n ips := h.2
theorem okl_len {n : Nat} {ls : List Pr} (ok : Okl n ls) (nd : ls.Nodup) (hn : n ≤ 60) : ls.length ≤ 10000 := by
  rw [← sortP_len]
  exact ks_len ok.sort (sortP_up _) ((sortP_perm ls).nodup_iff.mpr nd) hn
theorem raw_len {m : Int} {ips : List Pr} (h : RawL m ips) (hm : m ≤ 60) : ips.length ≤ 10000 := okl_len (n := 60) (fun q hq => by have := h.2 q hq; omega) h.1 (Nat.le_refl _)
theorem raw_add {m : Int} {ips : List Pr} {cs : List Int} (h : RawL m ips) (nd : cs.Nodup) (hc : ∀ c ∈ cs, 0 ≤ c ∧ c < m) : RawL (m + 1) (ips ++ cs.map fun c => (c, m)) := by
  refine ⟨List.nodup_append.mpr ⟨h.1, nd_map nd fun x _ y _ e => congrArg Prod.fst e, fun a ha b hb e => ?_⟩, fun q hq => ?_⟩
  · obtain ⟨c, _, rfl⟩ := List.mem_map.mp hb
    have := (h.2 a ha).2.2
    rw [e] at this
    simp only at this
    omega
  · rcases List.mem_append.mp hq with hq | hq
    · have := h.2 q hq
      omega
    · obtain ⟨c, hc', rfl⟩ := List.mem_map.mp hq
      have := hc c hc'
      simp only
      omega
theorem mm_swap (a b : Int) : mmP a b = mmP b a := by unfold mmP; exact Prod.ext (Int.min_comm _ _) (Int.max_comm _ _)
def swP (ns : List Int) (q : Pr) : Pr := (tv ns q.2, tv ns q.1)
theorem names_of {n : Nat} {ms ns : List Int} (hp : ns.Perm ms) (hm : ms = rgI 0 (n : Int)) : IsNames n ns := by
  subst hm
  have hl : (rgI 0 (n : Int)).length = n := by unfold rgI; rw [List.length_map, List.length_range]; omega
  have hnd : (rgI 0 (n : Int)).Nodup := by
    unfold rgI
    exact nd_map List.nodup_range fun x _ y _ e => by omega
  refine ⟨hp.length_eq.trans hl, hp.nodup_iff.mpr hnd, fun x hx => ?_⟩
  have := mem_rgI (hp.mem_iff.mp hx)
  omega
theorem ints_perm {ys : List V} {ms : List Int} (h : ys.Perm (ms.map V.int)) : ∃ ns : List Int, ys = ns.map V.int ∧ ns.Perm ms := by
  obtain ⟨ns, rfl⟩ := ints_of_sub (ns := ms) fun y hy => h.mem_iff.mp hy
  refine ⟨ns, rfl, ?_⟩
  have e := h.map (fun v : V => match v with | .int i => i | _ => 0)
  rw [List.map_map, List.map_map] at e
  have f : ((fun v : V => match v with | .int i => i | _ => 0) ∘ V.int) = (id : Int → Int) := rfl
  rw [f, List.map_id, List.map_id] at e
  exact e
theorem lks_perm {G : Hp} {xs ys : List V} {ps : List Pr} (hl : Lks G xs ps) (h : ys.Perm xs) : ∃ qs, Lks G ys qs ∧ qs.Perm ps := by
  obtain ⟨h1, h2⟩ := lks_k hl
  refine ⟨ys.map (kOf G), lks_of fun x hx => h2 x (h.mem_iff.mp hx), ?_⟩
  rw [← h1]
  exact h.map _
end NX

namespace NX
open PySem PySem.Spec PyProof.Rows L2
open Evl (Ex ex_l ex_t fresh_back)
abbrev s__law_links : Stmt := top 41
theorem sc__law_links : FnScope ["_law_well_here", "_law_size", "_law_names", "_law_way", "_law_pairs", "_law_at", "_law_chosen", "_law_below", "_law_pair"] ["_law_well_here", "_law_size"] (defScope s__law_links) := ⟨rfl, rfl, rfl, by decide +kernel, rfl, by decide +kernel, by decide +kernel⟩
/-- links of n stations -/
def spLinksT : Sp := fun vs H Q _ => ∃ (W : Addr) (a b c : Int) (n : Nat), vs = [.ref W, .int (n : Int)] ∧ H W = some (wl a b c) ∧ 1 ≤ n ∧ n ≤ 60 ∧
  ∀ xs ps q H' G' a' b' c', Ex (cut H [(W, wl a b c)]) G' → Own G' [(W, wl a' b' c'), (q, .lst xs)] H' → Lks G' xs ps → Okl n ps → ps.Nodup → Q (.ref q) H'
theorem n_linksT {G H : Hp} {L : List (Addr × HO)} {W : Addr} {a b c : Int} {n : Nat} {Q : VK} {E : XK} (S : Own G ((W, wl a b c) :: L) H) (h1 : 1 ≤ n) (h2 : n ≤ 60)
    (k : ∀ xs ps q G1 H1 a' b' c', Ex G G1 → Own G1 ((W, wl a' b' c') :: (q, .lst xs) :: L) H1 → Lks G1 xs ps → Okl n ps → ps.Nodup → Q (.ref q) H1) : spLinksT [.ref W, .int (n : Int)] H Q E :=
  ⟨W, a, b, c, n, rfl, S.get0, h1, h2, fun xs ps q H' G' a' b' c' e T hl ok nd => by
    obtain ⟨S1, e1, e2⟩ := S.backG e T
    exact k xs ps q _ H' a' b' c' e1 S1 (Paired.mapP hl fun _ _ ⟨t, x, y⟩ => ⟨t, x, e2 _ _ rfl y⟩) ok nd⟩
section
variable {P : Program} {w : World} {K : PySem.W.Frag} {mg : Str → Option Value} {base : Heap}
theorem ok_linksT {f : Addr} {fd : FuncData} (F : Fun K "_law_links" "_law_links" s__law_links f fd) (T : Txt mg) (c__law_take : Cal P w K mg base 1 "_law_take" ["_law_well_here", "_law_bound"] [] spTake)
    (c__law_mixed : Cal P w K mg base 2 "_law_mixed" ["_law_well_here", "_law_some"] [] (spMixed K)) : FnOk P w K mg base CX0 3 f fd ["_law_well_here", "_law_size"] spLinksT := by
  refine F.ok sc__law_links (fun vs H Q E h => ?_) (fun cdv A outer s H vs Q E hr h => ?_)
  · obtain ⟨W, a, b, c, n, rfl, _⟩ := h
    rfl
  · obtain ⟨W, a, b, c, n, rfl, hW, hn1, hn60, k⟩ := h
    have S0 := Own.give (o := wl a b c) hW
    generalize cut H [(W, wl a b c)] = G at S0 k
    refine ⟨_, (pss_cons (ps_set (i := 2) sc__law_links.nd rfl (Or.inr rfl) (pe_cal c__law_mixed (hr.mono (by first | decide | omega)) passN (pa_cons (pv 0) (pa_cons (pe_listRg rfl (by rfl) T.n_list (prg_1 (by rfl) T.n_range (pv 1))) pa_nil))))
      (pss_cons (ps_set (i := 3) sc__law_links.nd rfl (Or.inr rfl) (pe_cal c__law_take (hr.mono (by first | decide | omega)) passN (pa_cons (pv 0) (pa_cons pe_int pa_nil))))
      (pss_cons (ps_set (i := 4) sc__law_links.nd rfl (Or.inl rfl) (pe_lst pa_nil))
      (pss_cons (ps_for PassesOwn.never rfl (pi_range2 (by rfl) T.n_range (pa_cons pe_int (pa_cons (pv 1) pa_nil))) (pg_name (i := 5) sc__law_links.nd rfl (Or.inr rfl)) (pss_cons (ps_set (i := 6) sc__law_links.nd rfl (Or.inl rfl) (pe_lst (pa_cons (pe_cal c__law_take (hr.mono (by first | decide | omega)) passN (pa_cons (pv 0) (pa_cons (pv 5) pa_nil))) pa_nil)))
      (pss_cons (ps_if (pt_cmpR op_lt (pv 3) pe_int (nomark _)) (pss_one (ps_setLc (i := 6) (own := [("_law_below", 7)]) (by rfl) sc__law_links.nd rfl rfl (sw_true rfl rfl rfl (by decide +kernel)) (pi_range1 (by rfl) T.n_range (pa_cons (pv 5) pa_nil)) (blkOk_by (own := [("_law_below", 7)]) (N := ["_law_well_here", "_law_size", "_law_names", "_law_way", "_law_pairs", "_law_at", "_law_chosen", "_law_below", "_law_pair"]) (sc := defScope s__law_links) (by decide +kernel)) (fun _ _ _ _ _ => (pg_name (i := 7) sc__law_links.nd rfl (Or.inl rfl))) (fun _ _ _ _ _ => (pts_one (pt_cmpR op_eq (pe_cal c__law_take (hr.mono (by first | decide | omega)) passN (pa_cons (pv 0) (pa_cons (pe_ix (ix_listK (K := K)) (pe_lst (pa_cons pe_int (pa_cons pe_int pa_nil))) (pv 3) (fun _ _ => rfl)) pa_nil))) pe_int (nomark _)))) (fun _ _ _ _ _ => (pv 7)))) (pss_one (ps_if (pt_cmpR op_eq (pv 3) pe_int (nomark _)) (pss_one (ps_set (i := 6) sc__law_links.nd rfl (Or.inl rfl) (pe_op op_catL (pe_lst (pa_cons (pe_op op_sub (pv 5) pe_int) pa_nil)) (pe_op op_rep (pe_lst (pa_cons pe_int pa_nil)) (pe_callTy call_intN (by rfl) T.n_int (by decide +kernel) (pa_cons (pe_and (pe_cmpR op_eq (pv 5) (pe_op op_sub (pv 1) pe_int) (nomark _)) (pe_one (pe_cmpR op_gt (pv 1) pe_int (nomark _)))) pa_nil)))))) (pss_one (ps_if (pt_cmpR op_eq (pv 3) pe_int (nomark _)) (pss_one (ps_set (i := 6) sc__law_links.nd rfl (Or.inl rfl) (pe_callB (cr_sortedSet rfl) (by rfl) T.n_sorted (by decide +kernel) (pa_cons (pe_callTy (cr_setL (K := K) rfl) (by rfl) T.n_set (by decide +kernel) (pa_cons (pe_op op_catL (pv 6) (pe_lst (pa_cons (pe_cal c__law_take (hr.mono (by first | decide | omega)) passN (pa_cons (pv 0) (pa_cons (pv 5) pa_nil))) pa_nil))) pa_nil)) pa_nil)))) (pss_one (ps_if (pt_cmpR op_eq (pv 3) pe_int (nomark _)) (pss_one (ps_set (i := 6) sc__law_links.nd rfl (Or.inl rfl) (pe_listRg rfl (by rfl) T.n_list (prg_1 (by rfl) T.n_range (pv 5))))) pss_nil)))))))
      (pss_one (ps_expr (pe_bm PySem.F.plainAttrs_list PySem.F.slot_list_extend PySem.F.type_list_extend mt_extend (pv 4) (pa_cons (pe_lc (own := [("_law_below", 7)]) (by rfl) sc__law_links.nd (pi_list (pv 6)) (blkOk_by (own := [("_law_below", 7)]) (N := ["_law_well_here", "_law_size", "_law_names", "_law_way", "_law_pairs", "_law_at", "_law_chosen", "_law_below", "_law_pair"]) (sc := defScope s__law_links) (by decide +kernel)) (fun _ _ _ _ _ => (pg_name (i := 7) sc__law_links.nd rfl (Or.inl rfl))) (fun _ _ _ _ _ => pts_nil) (fun _ _ _ _ _ => (pe_tup (pa_cons (pe_ix (ix_listK (K := K)) (pv 2) (pv 5) (fun _ _ => rfl)) (pa_cons (pe_ix (ix_listK (K := K)) (pv 2) (pv 7) (fun _ _ => rfl)) pa_nil))))) pa_nil)))))))
      (pss_one (ps_ret (pe_cal c__law_mixed (hr.mono (by first | decide | omega)) passN (pa_cons (pv 0) (pa_cons (pe_lc (own := [("_law_pair", 8)]) (by rfl) sc__law_links.nd (pi_list (pv 4)) (blkOk_by (own := [("_law_pair", 8)]) (N := ["_law_well_here", "_law_size", "_law_names", "_law_way", "_law_pairs", "_law_at", "_law_chosen", "_law_below", "_law_pair"]) (sc := defScope s__law_links) (by decide +kernel)) (fun _ _ _ _ _ => (pg_name (i := 8) sc__law_links.nd rfl (Or.inl rfl))) (fun _ _ _ _ _ => pts_nil) (fun _ _ _ _ _ => (pe_tup (pa_cons (pe_callB (cr_minT (K := K) rfl) (by rfl) T.n_min (by decide +kernel) (pa_cons (pv 8) pa_nil)) (pa_cons (pe_callB (cr_maxT (K := K) rfl) (by rfl) T.n_max (by decide +kernel) (pa_cons (pv 8) pa_nil)) pa_nil))))) pa_nil))))))))), ?_⟩
    walk_at "go"
    refine n_rgG S0 (by omega) fun rp G1 H1 _ e1 _ hrp S1 => ?_
    rw [rgV_eq] at hrp
    walk_at "go"
    refine n_mixed S1 (SqL.of hrp) (data_ints K _ _) (by rw [List.length_map]; unfold rgI; rw [List.length_map, List.length_range]; omega) fun nys nq H2 a2 b2 c2 hnp _ S2 => ?_
    obtain ⟨ns, rfl, hperm⟩ := ints_perm hnp
    have hns := names_of (n := n) hperm rfl
    obtain ⟨S3, e3, hnq⟩ := S2.swap.freeze
    generalize upd G1 nq (.lst (ns.map V.int)) = G3 at S3 e3 hnq
    walk_at "go"
    refine n_take S3 ⟨by decide, by decide⟩ fun wy a4 b4 c4 H4 hw0 hw6 S4 => ?_
    walk_at "go"
    refine n_lst S4 (by decide) fun pq H5 hpq S5 => ?_
    walk_at "go"
    refine w_rng2 (fun i σ' H' => (∃ x1 x2 x3 x4, σ' = [some (.ref W), some (.int (n : Int)), some (.ref nq), some (.int wy), some (.ref pq), x1, x2, x3, x4]) ∧ ∃ (G' : Hp) (a' b' c' : Int) (xs : List V) (ips : List Pr),
      Ex G3 G' ∧ Own G' [(W, wl a' b' c'), (pq, .lst xs)] H' ∧ Lks G' xs (ips.map (swP ns)) ∧ RawL (1 + (i : Int)) ips ∧ 1 + (i : Int) ≤ (n : Int)) ⟨by decide, by decide, by omega, by omega⟩
      ⟨⟨_, _, _, _, rfl⟩, G3, a4, b4, c4, [], [], Ex.refl _, S5.swap, .nil, ⟨List.nodup_nil, fun q hq => nomatch hq⟩, by omega⟩ ?_ ?_
    · rintro i σ' H' hi ⟨⟨x1, x2, x3, x4, rfl⟩, G', a', b', c', xs, ips, eG, S, hl, hraw, _⟩
      have hlen : xs.length ≤ 10000 := by
        rw [pr_len hl, List.length_map]
        exact raw_len hraw (by omega)
      walk_at "go"
      refine n_take S ⟨by omega, by omega⟩ fun r5 a5 b5 c5 H6 h50 h51 S6 => ?_
      walk_at "go"
      refine n_lst S6 (by show 1 ≤ 10000000; decide) fun cq H7 hcq S7 => ?_
      refine s_name ?_
      refine s_seq ?_
      refine s_join (fun σ2 H2 => (∃ (cq : Addr) (x3 x4 : Option V) (G2 : Hp) (a b c : Int) (cs : List Int), σ2 = [some (.ref W), some (.int (n : Int)), some (.ref nq), some (.int wy), some (.ref pq), some (.int (1 + (i : Int))), some (.ref cq), x3, x4] ∧ Ex G' G2 ∧ Own G2 [(W, wl a b c), (pq, .lst xs)] H2 ∧
        G2 cq = some (.lst (cs.map V.int)) ∧ cs.Nodup ∧ ∀ x ∈ cs, 0 ≤ x ∧ x < 1 + (i : Int))) ?_ (fun n' hn' => ?_)
      · rintro σ2 H2 ⟨cq, x3, x4, G2, a, b, c, cs, rfl, e2, S, hcq, hnd, hcs⟩
        have hcl : cs.length ≤ 10000 := by
          have z := raw_add (m := 1 + (i : Int)) (ips := []) ⟨List.nodup_nil, fun q hq => nomatch hq⟩ hnd hcs
          have z2 := raw_len z (by omega)
          rw [List.length_append, List.length_map, List.length_nil] at z2
          omega
        walk_at "go"
        refine ⟨tyL (SqL.of S.get1), ?_⟩
        walk_at "go"
        refine v_list (xs := cs.map V.int) (fun j acc G4 L4 => L4 = [(W, wl a b c), (pq, .lst xs)] ∧ Lks G4 acc ((cs.take j).map fun x => (tv ns (1 + (i : Int)), tv ns x))) S (SqL.of hcq) (by rw [List.length_map]; omega) ⟨rfl, .nil⟩ ?_ ?_
        · rintro D j x acc G4 L4 H4 hx hj e4 hl4 ⟨rfl, ha⟩ S4
          obtain ⟨y, hy, rfl⟩ := get_map hx
          have hyr := hcs y (List.mem_of_getElem? hy)
          have hnq4 := S4.ex _ _ (e4 _ _ (e2 _ _ (eG _ _ hnq)))
          walk_at "go"
          refine ⟨rfl, ?_⟩
          walk_at "go"
          refine g_ixL (SqL.of hnq4) (at_tv (by omega) (by rw [hns.1]; omega)) ?_
          walk_at "go"
          refine g_ixL (SqL.of hnq4) (at_tv (by omega) (by rw [hns.1]; omega)) ?_
          walk_at "go"
          refine n_tup S4 (by show 2 ≤ 10000000; decide) fun t G6 H6 _ e6 _ ht S6 => ?_
          refine c_yes S6 (e4.trans e6) hl4 hj ⟨rfl, ?_⟩
          rw [take_snoc hy, List.map_append]
          exact pr_snoc (ha.mono e6) ⟨t, rfl, ht⟩
        · rintro D acc G4 L4 H4 e4 hl4 ⟨rfl, ha⟩ S4
          rw [List.length_map] at hl4
          rw [List.length_map, List.take_length] at ha
          walk_at "go"
          refine n_ext S4.rot S4.get0 (by omega) fun H5 S5 => ?_
          refine ⟨⟨_, _, _, _, rfl⟩, G4, a, b, c, xs ++ acc, ips ++ cs.map (fun x => (x, 1 + (i : Int))), eG.trans (e2.trans e4), (S5.swap.forget).swap, ?_, ?_, by omega⟩
          · rw [List.map_append, List.map_map]
            exact pr_app (hl.mono (e2.trans e4)) ha
          · have z := raw_add hraw hnd hcs
            have e : (1 : Int) + ((i + 1 : Nat) : Int) = 1 + (i : Int) + 1 := by omega
            rw [e]
            exact z
      · have one : ∀ v : Int, [v].Nodup := fun v => by simp
        walk_at "go"
        refine if_2 (fun e => ?_) (fun e => ?_)
        · have e := of_decide_eq_true e
          walk_at "go"
          refine v_rng1 (j := 1 + (i : Int)) (fun j acc G4 L4 => ∃ (a b c : Int) (cs : List Int), L4 = [(W, wl a b c), (pq, .lst xs)] ∧ acc = cs.map V.int ∧ cs.Nodup ∧ ∀ x ∈ cs, 0 ≤ x ∧ x < (j : Int)) S7.forget (by omega) ⟨a5, b5, c5, [], rfl, rfl, List.nodup_nil, fun x hx => nomatch hx⟩ ?_ ?_
          · rintro D j acc G4 L4 H4 hj hj' e4 hl4 ⟨a, b, c, cs, rfl, rfl, hnd, hcs⟩ S4
            walk_at "go"
            refine ⟨rfl, ?_⟩
            walk_at "go"
            refine n_lstG S4 (by show 2 ≤ 10000000; decide) fun lq G6 H6 _ e6 _ hlq S6 => ?_
            obtain ⟨v, hv, hv1⟩ : ∃ v : Int, atI [V.int 3, V.int 2] wy = some (.int v) ∧ (v = 3 ∨ v = 2) := by
              have : wy = 0 ∨ wy = 1 := by omega
              rcases this with rfl | rfl
              · exact ⟨3, rfl, .inl rfl⟩
              · exact ⟨2, rfl, .inr rfl⟩
            walk_at "go"
            refine g_ixL (SqL.of (S6.ex _ _ hlq)) hv ?_
            walk_at "go"
            refine n_take S6.swap ⟨by omega, by omega⟩ fun r8 a8 b8 c8 H8 _ _ S8 => ?_
            walk_at "go"
            refine if_2 (fun _ => ?_) (fun _ => ?_)
            · walk_at "go"
              refine c_yes S8.swap (e4.trans e6) hl4 hj' ⟨a8, b8, c8, cs ++ [(j : Int)], rfl, by rw [List.map_append] <;> rfl, List.nodup_append.mpr ⟨hnd, one _, fun x hx y hy z => ?_⟩, fun x hx => ?_⟩
              · have := hcs x hx
                have hy : y = (j : Int) := by simpa using hy
                omega
              · rcases List.mem_append.mp hx with hx | hx
                · have := hcs x hx
                  omega
                · have hx : x = (j : Int) := by simpa using hx
                  omega
            · exact c_no S8.swap (e4.trans e6) hl4 ⟨a8, b8, c8, cs, rfl, rfl, hnd, fun x hx => by have := hcs x hx; omega⟩
          · rintro D acc G4 L4 H4 e4 hl4 ⟨a, b, c, cs, rfl, rfl, hnd, hcs⟩ S4
            obtain ⟨S6, e6, h6⟩ := S4.freeze
            walk_at "go"
            exact hn' _ _ ⟨D, _, _, _, a, b, c, cs, rfl, e4.trans e6, S6, h6, hnd, fun x hx => by have := hcs x hx; omega⟩
        · have e := of_decide_eq_false e
          walk_at "go"
          refine if_2 (fun e2 => ?_) (fun e2 => ?_)
          · walk_at "go"
            refine n_lst S7.forget (by show 1 ≤ 10000000; decide) fun q1 H8 _ S8 => ?_
            walk_at "go"
            refine n_lst S8 (by show 1 ≤ 10000000; decide) fun q2 H9 _ S9 => ?_
            walk_at "go"
            refine if_2 (fun e3 => ?_) (fun e3 => ?_)
            · have e3 := of_decide_eq_true e3
              walk_at "go"
              refine n_rep S9 (by split <;> omega) (by split <;> omega) fun q3 G10 H10 _ e10 _ hq3 S10 => ?_
              refine n_catG S10.forget (S10.l0) (SqL.of (S10.ex _ _ hq3)) (by simp; split <;> decide) fun q4 G11 H11 _ e11 _ hq4 S11 => ?_
              walk_at "go"
              by_cases c2 : (2 : Int) < (n : Int)
              · refine hn' _ _ ⟨q4, _, _, G11, a5, b5, c5, [1 + (i : Int) - 1, 0], rfl, e10.trans e11, S11, ?_, ?_, ?_⟩
                · rw [hq4]
                  simp [c2]
                · simp
                  omega
                · intro x hx
                  simp only [List.mem_cons, List.not_mem_nil, or_false] at hx
                  omega
              · refine hn' _ _ ⟨q4, _, _, G11, a5, b5, c5, [1 + (i : Int) - 1], rfl, e10.trans e11, S11, ?_, one _, ?_⟩
                · rw [hq4]
                  simp [c2]
                · intro x hx
                  simp only [List.mem_cons, List.not_mem_nil, or_false] at hx
                  omega
            · walk_at "go"
              refine n_rep S9 (by decide) (by decide) fun q3 G10 H10 _ e10 _ hq3 S10 => ?_
              refine n_catG S10.forget (S10.l0) (SqL.of (S10.ex _ _ hq3)) (by simp) fun q4 G11 H11 _ e11 _ hq4 S11 => ?_
              walk_at "go"
              refine hn' _ _ ⟨q4, _, _, G11, a5, b5, c5, [1 + (i : Int) - 1], rfl, e10.trans e11, S11, ?_, one _, ?_⟩
              · rw [hq4]
                simp
              · intro x hx
                simp only [List.mem_cons, List.not_mem_nil, or_false] at hx
                omega
          · walk_at "go"
            refine if_2 (fun e3 => ?_) (fun e3 => ?_)
            · walk_at "go"
              refine n_take S7.swap ⟨by omega, by omega⟩ fun r8 a8 b8 c8 H8 h80 h81 S8 => ?_
              walk_at "go"
              refine n_lst S8 (by show 1 ≤ 10000000; decide) fun q1 H9 _ S9 => ?_
              refine n_cat S9 (SqL.of S9.get2) (S9.l0) (by show 1 + 1 ≤ 10000000; decide) fun q2 H10 _ S10 => ?_
              walk_at "go"
              refine n_setL (ns := [r5, r8]) S10 S10.l0 (by show 2 < 60; decide) fun q3 c H11 _ hc S11 => ?_
              walk_at "go"
              refine n_sortSet S11 (by have : ([r5, r8] : List Int).length = 2 := rfl; omega) fun ms q4 G12 H12 hms hmem _ e12 _ hq4 S12 => ?_
              walk_at "go"
              refine hn' _ _ ⟨q4, _, _, G12, a8, b8, c8, ms, rfl, e12, ?_, hq4, hms.imp fun {x y} (h : x < y) => by omega, fun x hx => ?_⟩
              · exact S12.forget.forget.swap.forget
              · have := (hmem x).mp hx
                simp only [List.mem_cons, List.not_mem_nil, or_false] at this
                omega
            · walk_at "go"
              refine if_2 (fun e4 => ?_) (fun e4 => ?_)
              · walk_at "go"
                refine n_rgG S7.forget (by omega) fun q1 G8 H8 _ e8 _ hq1 S8 => ?_
                rw [rgV_eq] at hq1
                walk_at "go"
                refine hn' _ _ ⟨q1, _, _, G8, a5, b5, c5, rgI 0 (1 + (i : Int)), rfl, e8, S8, hq1, ?_, fun x hx => mem_rgI hx⟩
                unfold rgI
                exact nd_map List.nodup_range fun x _ y _ e => by omega
              · obtain ⟨S8, e8, h8⟩ := S7.freeze
                walk_at "go"
                refine hn' _ _ ⟨cq, _, _, _, a5, b5, c5, [r5], rfl, e8, S8, h8, one _, fun x hx => ?_⟩
                simp only [List.mem_cons, List.not_mem_nil, or_false] at hx
                omega
    · rintro σ' H' ⟨⟨x1, x2, x3, x4, rfl⟩, G', a', b', c', xs, ips, eG, S, hl, hraw, _⟩
      have hraw' : RawL (n : Int) ips := by
        have e : 1 + (((n : Int) - 1).toNat : Int) = (n : Int) := by omega
        rw [e] at hraw
        exact hraw
      have ok := raw_okl hraw'
      have hlen := okl_len ok hraw'.1 hn60
      obtain ⟨S6, e6, h6⟩ := S.swap.freeze
      generalize upd G' pq (.lst xs) = G6 at S6 e6 h6
      have hl6 := hl.mono e6
      walk_at "go"
      refine v_list (xs := xs) (fun j acc G7 L7 => L7 = [(W, wl a' b' c')] ∧ Lks G7 acc ((renL ns ips).take j)) S6 (SqL.of h6) (by rw [pr_len hl, List.length_map]; omega) ⟨rfl, .nil⟩ ?_ ?_
      · rintro D j x acc G7 L7 H7 hx hj e7 hl7 ⟨rfl, ha⟩ S7
        obtain ⟨q, hq, t, rfl, ht⟩ := pr_get hl6 hx
        obtain ⟨q0, hq0, rfl⟩ := get_map hq
        have ht' := S7.ex _ _ (e7 _ _ ht)
        walk_at "go"
        refine ⟨rfl, ?_⟩
        walk_at "go"
        refine n_minT2 ht' ?_
        walk_at "go"
        refine n_maxT2 ht' ?_
        walk_at "go"
        refine n_tup S7 (by show 2 ≤ 10000000; decide) fun t2 G8 H8 _ e8 _ ht2 S8 => ?_
        refine c_yes S8 (e7.trans e8) hl7 hj ⟨rfl, ?_⟩
        have eq : (renL ns ips)[j]? = some (mmP (tv ns q0.1) (tv ns q0.2)) := by unfold renL; rw [List.getElem?_map, hq0] <;> rfl
        rw [take_snoc eq]
        refine pr_snoc (ha.mono e8) ⟨t2, rfl, ?_⟩
        rw [mm_swap]
        exact ht2
      · rintro D acc G7 L7 H7 e7 hl7 ⟨rfl, ha⟩ S7
        have el : xs.length = (renL ns ips).length := by rw [pr_len hl, List.length_map, ren_len]
        rw [el, List.take_length] at ha
        obtain ⟨S8, e8, h8⟩ := S7.freeze
        have ha8 := ha.mono e8
        generalize upd G7 D (.lst acc) = G8 at S8 e8 h8 ha8
        walk_at "go"
        refine n_mixed S8 (SqL.of h8) (data_lks ha8) (by rw [pr_len ha, ren_len]; omega) fun ys q H9 a9 b9 c9 hpm _ S9 => ?_
        obtain ⟨qs, hqs, hperm2⟩ := lks_perm ha8 hpm
        exact k ys qs q H9 G8 a9 b9 c9 ((e1.trans e3).trans ((eG.trans e6).trans (e7.trans e8))) S9 hqs (fun z hz => ren_ok hns ok z (hperm2.mem_iff.mp hz)) (hperm2.nodup_iff.mpr (ren_nd hns ok hraw'.1))
end
end NX

namespace NX
open PySem PySem.Spec PyProof.Rows L2
open Evl (Ex ex_l ex_t fresh_back)
abbrev s_reachable : Stmt := top 21
theorem sc_reachable : FnScope ["network", "most"] ["network", "most"] (defScope s_reachable) := ⟨rfl, rfl, rfl, by decide +kernel, rfl, by decide +kernel, by decide +kernel⟩
def spReach (C CT : Addr) : Sp := fun vs H Q E => ∃ (a : Addr) (n : Nat) (ks : List Pr) (most : Int) (B : List Ent), vs = [.ref a, .int most] ∧ NetAt C H a n ks ∧ Bfs (nb ks) n B ∧ (B.length ≤ 1000000 ∨ most ≤ 1000000) ∧ ((B.length : Int) ≤ most → ∀ p ys L' H', H p = none → Ex H H' → H' p = some (.lst ys) → Sts (nw H H') ys L' → L'.Perm (B.map Ent.st) → Asc L' → Q (.ref p) H') ∧
  (most < (B.length : Int) → Thr E CT "most" (.int most) H)
section
variable {P : Program} {w : World} {K : PySem.W.Frag} {mg : Str → Option Value} {base : Heap} {C CT : Addr}
theorem ok_reach {f : Addr} {fd : FuncData} (F : FunD K "reachable" "reachable" (defArgs s_reachable) (defBody s_reachable) (defScope s_reachable) [] [("most", .int 1000)] f fd) (T : Txt mg)
    (c_first_steps : Cal P w K mg base 5 "first_steps" ["network", "most"] [] (spFirst C CT)) : FnOk P w K mg base (L2.CX P w) 6 f fd ["network", "most"] (spReach C CT) := by
  refine F.ok sc_reachable (fun vs H Q E h => ?_) (fun cdv A outer s H vs Q E hr h => ?_)
  · obtain ⟨a, n, ks, most, B, rfl, _⟩ := h
    rfl
  · obtain ⟨a, n, ks, most, B, rfl, N, hB, hz, k, kE⟩ := h
    refine ⟨_, (pss_one (ps_ret (pe_callB (cr_sortedD rfl) (by rfl) T.n_sorted (by decide +kernel) (pa_cons (pe_cal c_first_steps (hr.mono (by first | decide | omega)) (passE (takes_of rfl rfl rfl rfl) fun _ _ _ _ z => z) (pa_cons (pv 0) (pa_cons (pv 1) pa_nil))) pa_nil)))), ?_⟩
    walk_at "go"
    refine ⟨a, n, ks, most, B, rfl, N, hB, hz, fun hm p kvs H1 hp e1 hd hv => ?_, fun hm => kE hm⟩
    walk_at "go"
    have hne : ∀ ns ∈ B.map Ent.st, ns ≠ [] := fun ns hn => by
      obtain ⟨e, he, rfl⟩ := List.mem_map.mp hn
      have h1 := (hB.okk.rch e he).len
      have h2 := N.sz.1
      intro z
      rw [z] at h1
      simp at h1
      omega
    refine ⟨p, kvs, B.map Ent.st, rfl, .inl hd, hv.keys, hne, fun ys L' q hy hp' ha hq => ?_⟩
    walk_at "go"
    have hq0 : H q = none := fresh_back e1 hq
    have e2 : Ex H1 (upd H1 q (.lst ys)) := Ex.new hq
    refine k hm q ys L' _ hq0 (e1.trans e2) upd_same ?_ hp' ha
    refine sts_tup (hy.mono e2) (e1.trans e2)
end
end NX

namespace NX
open PySem PySem.Spec PyProof.Rows L2
open Evl (Ex ex_l ex_t fresh_back)
abbrev s_greatest_reached : Stmt := top 25
theorem sc_greatest_reached : FnScope ["network", "most", "states", "station", "state"] ["network", "most"] (defScope s_greatest_reached) := ⟨rfl, rfl, rfl, by decide +kernel, rfl, by decide +kernel, by decide +kernel⟩
/-- g: the greatest channels in the states of B -/
def MaxB (B : List Ent) (n : Nat) (g : List Int) : Prop := g.length = n ∧ ∀ j : Nat, j < n → (∃ e ∈ B, tv e.st (j : Int) = tv g (j : Int)) ∧ ∀ e ∈ B, tv e.st (j : Int) ≤ tv g (j : Int)
theorem MaxB.uniq {B : List Ent} {n : Nat} {g h : List Int} (a : MaxB B n g) (b : MaxB B n h) : g = h := by
  refine tv_ext (a.1.trans b.1.symm) fun j hj => ?_
  rw [a.1] at hj
  obtain ⟨⟨e, he, x⟩, y⟩ := a.2 j hj
  obtain ⟨⟨f, hf, z⟩, u⟩ := b.2 j hj
  have := y f hf
  have := u e he
  omega
def spGR (C CT : Addr) : Sp := fun vs H Q E => ∃ (a : Addr) (n : Nat) (ks : List Pr) (most : Int) (B : List Ent), vs = [.ref a, .int most] ∧ NetAt C H a n ks ∧ Bfs (nb ks) n B ∧ (B.length ≤ 1000000 ∨ most ≤ 1000000) ∧ ((B.length : Int) ≤ most → ∀ g, MaxB B n g → Ret (.tup (g.map V.int)) H Q) ∧ (most < (B.length : Int) → Thr E CT "most" (.int most) H)
theorem n_max1 {K : PySem.W.Frag} {H : Hp} {p : Addr} {ns : List Int} {Q : VK} (h : SqL K H p (ns.map V.int)) (h0 : 0 < ns.length) (k : ∀ m, m ∈ ns → (∀ y, y ∈ ns → y ≤ m) → Q (.int m) H) : rMax K [.ref p] H Q := ⟨p, ns, rfl, h, h0, k⟩
section
variable {P : Program} {w : World} {K : PySem.W.Frag} {mg : Str → Option Value} {base : Heap} {C CT : Addr}
theorem ok_gr {f : Addr} {fd : FuncData} (F : FunD K "greatest_reached" "greatest_reached" (defArgs s_greatest_reached) (defBody s_greatest_reached) (defScope s_greatest_reached) [] [("most", .int 1000)] f fd) (T : Txt mg) (NC : NetC K C) (M_len : Mth P w K mg base 1 C "__len__" ["self"] (spLen C))
    (c_first_steps : Cal P w K mg base 5 "first_steps" ["network", "most"] [] (spFirst C CT)) : FnOk P w K mg base (L2.CX P w) 6 f fd ["network", "most"] (spGR C CT) := by
  refine F.ok sc_greatest_reached (fun vs H Q E h => ?_) (fun cdv A outer s H vs Q E hr h => ?_)
  · obtain ⟨a, n, ks, most, B, rfl, _⟩ := h
    rfl
  · obtain ⟨a, n, ks, most, B, rfl, N, hB, hz, k, kE⟩ := h
    refine ⟨_, (pss_cons (ps_set (i := 2) sc_greatest_reached.nd rfl (Or.inr rfl) (pe_callTy (call_list_dT rfl) (by rfl) T.n_list (by decide +kernel) (pa_cons (pe_cal c_first_steps (hr.mono (by first | decide | omega)) (passE (takes_of rfl rfl rfl rfl) fun _ _ _ _ z => z) (pa_cons (pv 0) (pa_cons (pv 1) pa_nil))) pa_nil)))
      (pss_one (ps_ret (pe_callTy call_tupN (by rfl) T.n_tuple (by decide +kernel) (pa_cons (pe_lc (own := [("station", 3)]) (by rfl) sc_greatest_reached.nd (pi_range1 (by rfl) T.n_range (pa_cons (pe_callB (call_lenNet NC M_len (hr.mono (by first | decide | omega))) (by rfl) T.n_len (by decide +kernel) (pa_cons (pv 0) pa_nil)) pa_nil)) (blkOk_by (own := [("station", 3)]) (N := ["network", "most", "states", "station", "state"]) (sc := defScope s_greatest_reached) (by decide +kernel)) (fun _ _ _ _ _ => (pg_name (i := 3) sc_greatest_reached.nd rfl (Or.inr rfl))) (fun _ _ _ _ _ => pts_nil) (fun _ _ _ _ _ => (pe_callB (cr_maxK (K := K) rfl) (by rfl) T.n_max (by decide +kernel) (pa_cons (pe_lc (own := [("state", 4)]) (by rfl) sc_greatest_reached.nd (pi_listK (K := K) (pv 2)) (blkOk_by (own := [("state", 4)]) (by first | decide +kernel | kernel_rfl)) (fun _ _ _ _ _ => (pg_name (i := 4) sc_greatest_reached.nd rfl (Or.inl rfl))) (fun _ _ _ _ _ => pts_nil) (fun _ _ _ _ _ => (pe_ix (ix_tupK (K := K)) (pv 4) (pv 3) (fun _ _ => rfl)))) pa_nil)))) pa_nil))))), ?_⟩
    walk_at "go"
    refine ⟨a, n, ks, most, B, rfl, N, hB, hz, fun hm p kvs H1 hp e1 hd hv => ?_, fun hm => kE hm⟩
    have hn := N.sz
    walk_at "go"
    refine ⟨p, kvs, rfl, .inl hd, fun q bs hq ik => ?_⟩
    have e2 : Ex H1 (upd H1 q (.lst (bs.map V.ref))) := Ex.new hq
    have eG : Ex H (upd H1 q (.lst (bs.map V.ref))) := e1.trans e2
    have hx : Sts (upd H1 q (.lst (bs.map V.ref))) (bs.map V.ref) (B.map Ent.st) := by
      have hk := hv.keys
      clear hv k kE hd
      unfold IsKeys at ik
      refine Sts.mono e2 ?_
      clear e2 eG
      generalize B.map Ent.st = L at hk
      induction ik generalizing L with
      | nil =>
        cases L with
        | nil => exact .nil
        | cons _ _ => cases hk
      | @cons pp b ps bs h t ih =>
        cases L with
        | nil => cases hk
        | cons ns L =>
          simp only [List.map_cons, List.cons.injEq] at hk
          refine .cons ⟨b, rfl, ?_⟩ (ih L hk.2)
          rw [h, hk.1, keyN_kV]
    have hql : (upd H1 q (.lst (bs.map V.ref))) q = some (.lst (bs.map V.ref)) := upd_same
    generalize bs.map V.ref = xs at eG hx hql
    generalize upd H1 q (.lst xs) = H2 at eG hx hql
    have hl : xs.length = B.length := by rw [hx.len, List.length_map]
    have hB1 : 0 < B.length := List.length_pos_iff.mpr hB.okk.ne
    have hB6 : B.length ≤ 1000000 := by omega
    walk_at "go"
    refine n_lenNet (N.mono eG) ?_
    walk_at "go"
    refine v_rng1 (j := (n : Int)) (fun j acc G' L' => L' = [] ∧ ∃ c : List Int, c.length = j ∧ acc = c.map V.int ∧ ∀ m : Nat, m < j → (∃ e ∈ B, tv e.st (m : Int) = tv c (m : Int)) ∧ ∀ e ∈ B, tv e.st (m : Int) ≤ tv c (m : Int)) (Own.start H2) (by omega) ⟨rfl, [], rfl, rfl, fun m hm => absurd hm (Nat.not_lt_zero m)⟩ ?_ ?_
    · rintro D j acc G' L' H3 hj hj' e3 hl3 ⟨rfl, c, hc, rfl, hcm⟩ S3
      walk_at "go"
      refine ⟨rfl, ?_⟩
      walk_at "go"
      refine v_list (xs := xs) (fun i acc' G4 L4 => L4 = [(D, .lst (c.map V.int))] ∧ acc' = ((B.take i).map fun e => tv e.st (j : Int)).map V.int) S3 (SqL.of (e3 _ _ hql)) (by omega) ⟨rfl, rfl⟩ ?_ ?_
      · rintro D2 i x acc' G4 L4 H4 hx4 hi e4 hl4 ⟨rfl, rfl⟩ S4
        obtain ⟨t, ns, hns, rfl, ht⟩ := hx.get hx4
        obtain ⟨e, he, rfl⟩ : ∃ e, B[i]? = some e ∧ ns = e.st := by
          rw [List.getElem?_map] at hns
          cases q : B[i]? with
          | none => rw [q] at hns; cases hns
          | some e => rw [q] at hns; cases hns; exact ⟨e, rfl, rfl⟩
        have hel := (hB.okk.rch e (List.mem_of_getElem? he)).len
        walk_at "go"
        refine ⟨rfl, ?_⟩
        walk_at "go"
        refine g_ixT (SqT.of (S4.ex _ _ (e4 _ _ (e3 _ _ ht)))) (at_tv (by omega) (by omega)) ?_
        refine c_yes S4 e4 hl4 hi ⟨rfl, ?_⟩
        rw [take_snoc he, List.map_append, List.map_append] <;> rfl
      · rintro p5 acc5 G5 L5 H5 e5 _ ⟨rfl, rfl⟩ S5
        rw [hl, List.take_length] at S5
        refine n_max1 (SqL.of S5.get0) (by rw [List.length_map]; exact hB1) fun m hm1 hm2 => ?_
        have S5 := S5.forget
        refine c_yes S5 (e3.trans e5) hl3 hj' ⟨rfl, c ++ [m], by rw [List.length_append, hc] <;> rfl, by rw [List.map_append] <;> rfl, fun mm hmm => ?_⟩
        by_cases q : mm < j
        · rw [tv_app1 (by omega) (by omega)]
          exact hcm mm q
        · have : mm = j := by omega
          subst this
          rw [show ((mm : Nat) : Int) = (c.length : Int) by omega, tv_app2, show (c.length : Int) = (mm : Int) by omega]
          obtain ⟨e, he, r⟩ := List.mem_map.mp hm1
          exact ⟨⟨e, he, r⟩, fun e he => hm2 _ (List.mem_map.mpr ⟨e, he, rfl⟩)⟩
    · rintro p5 acc5 G5 L5 H5 e5 _ ⟨rfl, c, hc, rfl, hcm⟩ S5
      rw [Int.toNat_natCast] at hc hcm
      refine n_tupL S5 (SqL.of S5.get0) fun p6 G6 H6 hp6 e6 e6' hp6' S6 => ?_
      exact k hm c ⟨hc, hcm⟩ p6 H6 (fresh_back (eG.trans (e5.trans S5.ex)) hp6) (eG.trans (e5.trans (e6.trans S6.ex))) (S6.ex _ _ hp6')
end
end NX

namespace NX
open PySem PySem.Spec PyProof.Rows L2
open Evl (Ex ex_l ex_t fresh_back)
open LamX (CodeO TabB)
abbrev s__law_right : Stmt := top 44
theorem sc__law_right : FnScope ["_law_well_here", "_law_size", "_law_network", "_law_good", "_law_turn", "_law_odd", "_law_bad", "_law_limit", "_law_found"] ["_law_well_here"] (defScope s__law_right) := ⟨rfl, rfl, rfl, by decide +kernel, rfl, by decide +kernel, by decide +kernel⟩
def qR (c : Addr) : Str := (envOfC "_law_right" (defScope s__law_right) 0 0 (.ref c)).qual ++ "<lambda>"
def spRight (TS : List (Addr × Str)) : Sp := fun vs H Q _ => ∃ (W : Addr) (x y z : Int) (G : Hp) (f : Addr → Array Value), vs = [.ref W] ∧ Own G ((W, wl x y z) :: tl TS f) H ∧ TabsG G TS f ∧ ∀ H' G' f', Ex (noT G) (noT G') → Own G' (tl TS f') H' → TabsG G' TS f' → Q (.bl true) H'
theorem n_outs {K : PySem.W.Frag} {C : Addr} {T : List (Addr × Str)} {G H : Hp} {A : List (Addr × HO)} {f : Addr → Array Value} {a : Addr} {v u : V} {n : Nat} {ks : List Pr} {w t : Str} {Q : VK} {E : XK} (S : Own G (A ++ tl T f) H) (hA : ∀ q ∈ A, ∃ ys, q.2 = HO.lst ys) (tg : TabsG G T f) (N : NetAt C (noT G) a n ks) (hq : CaseQ K (noT G) n v u w t)
    (k : ∀ H' G' f' p xs, Ex (noT G) (noT G') → Own G' ((p, .lst xs) :: (A ++ tl T f')) H' → TabsG G' T f' → OutsOk G' xs w t → Q (.ref p) H') : spOuts K C T [.ref a, v, u] H Q E := ⟨a, v, u, n, ks, w, t, G, f, A, rfl, S, hA, tg, N, hq, k⟩
theorem OutsOk.three {G : Hp} {xs : List V} {w t : Str} (h : OutsOk G xs w t) (ne : w ≠ "ok") : ∃ p1 p2 p3, xs = [.ref p1, .ref p2, .ref p3] ∧ WT G p1 w t ∧ WT G p2 w t ∧ WT G p3 w t := by
  obtain ⟨p1, p2, p3, ⟨_, h⟩ | ⟨e, _⟩⟩ := h
  · exact ⟨p1, p2, p3, h⟩
  · exact absurd e ne
theorem OutsOk.good {G : Hp} {xs : List V} {t : Str} (h : OutsOk G xs "ok" t) : ∃ p1 p2, xs = [.ref p1, .ref p2, .non] ∧ WI G p1 "many" 0 ∧ WI G p2 "closed" (-1) := by
  obtain ⟨p1, p2, p3, ⟨ne, _⟩ | ⟨_, h⟩⟩ := h
  · exact absurd rfl ne
  · exact ⟨p1, p2, h⟩
section
variable {P : Program} {w : World} {K : PySem.W.Frag} {mg : Str → Option Value} {base : Heap} {C CS CC CT C0 c Pt : Addr} {Cs : Nat → Addr} {TS : List (Addr × Str)}
theorem ok_right {f : Addr} {fd : FuncData} (F : FunC K "_law_right" "_law_right" s__law_right f fd c) (T : Txt mg) (NC : NetC K C) (TB : TabB base mg c Pt) (hmT : (Pt, qR c) ∈ TS) (hnT : (TS.map Prod.fst).Nodup) (KT : Kind8 K C0 Cs CT 2)
    (L__law_outcome : LamDefG P w K mg base "_law_outcome" "_law_ask" (OutT K C0 Cs)) (c_Network : Cnw P w K mg base 3 "Network" C ["self", "stations", "links"] (spInit C)) (c__law_take : Cal P w K mg base 1 "_law_take" ["_law_well_here", "_law_bound"] [] spTake) (c__law_links : Cal P w K mg base 3 "_law_links" ["_law_well_here", "_law_size"] [] spLinksT)
    (c__law_outcomes : CalG P w K mg base 12 "_law_outcomes" ["_law_network", "_law_station", "_law_channel"] (spOuts K C TS)) (k_reachable_1_mostx : CalK P w K mg base 6 "reachable" ["network", "most"] 1 ["most"] (fun vs zs => vs ++ zs) (spReach C CT)) (k_greatest_reached_1_mostx : CalK P w K mg base 6 "greatest_reached" ["network", "most"] 1 ["most"] (fun vs zs => vs ++ zs) (spGR C CT))
    (k_fewest_3_mostx : CalK P w K mg base 6 "fewest" ["network", "station", "channel", "most"] 3 ["most"] (fun vs zs => vs ++ zs) (spFewS C CS CC CT)) : FnOkG P w K mg base 13 f fd ["_law_well_here"] (spRight TS) := by
  have huT := tab_u hnT hmT
  refine okGC F sc__law_right (fun vs H Q E h => ?_) (fun A outer s H vs Q E hG0 hr h => ?_)
  · obtain ⟨W, x, y, z, G, ft, rfl, _⟩ := h
    rfl
  · obtain ⟨W, x, y, z, G, ft, rfl, S0, tg, k⟩ := h
    have hu65 : ∀ X : Cx, X.A.units = (A.deeper (envOfC "_law_right" (defScope s__law_right) s.heap.objs.size f (.ref c))).units → X.A.units + 65 < cLine := fun X e => by rw [e]; have := hr.un; omega
    have hG : (A.deeper (envOfC "_law_right" (defScope s__law_right) s.heap.objs.size f (.ref c))).guards = some [] := hG0
    refine ⟨_, (pss_cons (ps_set (i := 1) sc__law_right.nd rfl (Or.inl rfl) (pe_op op_add pe_int (pe_cal c__law_take (hr.mono (by first | decide | omega)) passN (pa_cons (pv 0) (pa_cons pe_int pa_nil)))))
      (pss_cons (ps_set (i := 2) sc__law_right.nd rfl (Or.inr rfl) (pe_new c_Network (hr.mono (by first | decide | omega)) passN (pa_cons (pv 1) (pa_cons (pe_cal c__law_links (hr.mono (by first | decide | omega)) passN (pa_cons (pv 0) (pa_cons (pv 1) pa_nil))) pa_nil))))
      (pss_cons (ps_set (i := 3) sc__law_right.nd rfl (Or.inr rfl) (pe_cal c__law_take (hr.mono (by first | decide | omega)) passN (pa_cons (pv 0) (pa_cons (pv 1) pa_nil))))
      (pss_cons (ps_for PassesOwn.never rfl (pi_range1 (by rfl) T.n_range (pa_cons pe_int pa_nil)) (pg_name (i := 4) sc__law_right.nd rfl (Or.inl rfl)) (pss_cons (ps_set (i := 5) sc__law_right.nd rfl (Or.inl rfl) (pe_ix ix_list (pe_lst (pa_cons (pv 1) (pa_cons (pe_un un_neg pe_int) (pa_cons pe_non (pa_cons pe_bl (pa_cons pe_str (pa_cons (pe_lst (pa_cons pe_int pa_nil)) (pa_cons pe_dnewT (pa_cons (pe_op op_pow pe_int pe_int) pa_nil))))))))) (pe_cal c__law_take (hr.mono (by first | decide | omega)) passN (pa_cons (pv 0) (pa_cons pe_int pa_nil))) (fun _ _ => rfl)))
      (pss_cons (ps_set (i := 6) sc__law_right.nd rfl (Or.inl rfl) (pe_ix ix_list (pe_lst (pa_cons pe_int (pa_cons (pe_un un_neg pe_int) (pa_cons pe_non (pa_cons pe_bl (pa_cons pe_str (pa_cons (pe_lst (pa_cons pe_int pa_nil)) (pa_cons pe_dnewT (pa_cons (pe_un un_neg (pe_op op_pow pe_int pe_int)) pa_nil))))))))) (pe_cal c__law_take (hr.mono (by first | decide | omega)) passN (pa_cons (pv 0) (pa_cons pe_int pa_nil))) (fun _ _ => rfl)))
      (pss_cons (ps_if (pt_cmpR (op_neD (Nat.lt_of_succ_lt (hu65 _ rfl))) (pe_calG c__law_outcomes hG (hr.mono (by first | decide | omega)) pass0 (pa_cons (pv 2) (pa_cons (pv 5) (pa_cons (pv 6) pa_nil)))) (pe_op op_rep (pe_lst (pa_cons (pe_tup (pa_cons pe_str (pa_cons (pe_callB (cr_reprV (K := K) hG (hu65 _ rfl)) (by rfl) T.n_repr (by decide +kernel) (pa_cons (pv 5) pa_nil)) pa_nil))) pa_nil)) pe_int) (nomark _)) (pss_one (ps_ret pe_bl)) pss_nil)
      (pss_cons (ps_if (pt_cmpR (op_neD (Nat.lt_of_succ_lt (hu65 _ rfl))) (pe_calG c__law_outcomes hG (hr.mono (by first | decide | omega)) pass0 (pa_cons (pv 2) (pa_cons (pv 5) (pa_cons pe_int pa_nil)))) (pe_op op_rep (pe_lst (pa_cons (pe_tup (pa_cons pe_str (pa_cons (pe_callB (cr_reprV (K := K) hG (hu65 _ rfl)) (by rfl) T.n_repr (by decide +kernel) (pa_cons (pv 5) pa_nil)) pa_nil))) pa_nil)) pe_int) (nomark _)) (pss_one (ps_ret pe_bl)) pss_nil)
      (pss_one (ps_if (pt_cmpR (op_neD (Nat.lt_of_succ_lt (hu65 _ rfl))) (pe_calG c__law_outcomes hG (hr.mono (by first | decide | omega)) pass0 (pa_cons (pv 2) (pa_cons (pv 3) (pa_cons (pv 6) pa_nil)))) (pe_op op_rep (pe_lst (pa_cons (pe_tup (pa_cons pe_str (pa_cons (pe_callB (cr_reprV (K := K) hG (hu65 _ rfl)) (by rfl) T.n_repr (by decide +kernel) (pa_cons (pv 6) pa_nil)) pa_nil))) pa_nil)) pe_int) (nomark _)) (pss_one (ps_ret pe_bl)) pss_nil)))))))
      (pss_cons (ps_if (pt_cmpR (op_neD (Nat.lt_of_succ_lt (hu65 _ rfl))) (pe_calG c__law_outcomes hG (hr.mono (by first | decide | omega)) pass0 (pa_cons (pv 2) (pa_cons (pv 3) (pa_cons pe_int pa_nil)))) (pe_lst (pa_cons (pe_tup (pa_cons pe_str (pa_cons pe_int pa_nil))) (pa_cons (pe_tup (pa_cons pe_str (pa_cons (pe_un un_neg pe_int) pa_nil))) (pa_cons pe_non pa_nil)))) (nomark _)) (pss_one (ps_ret pe_bl)) pss_nil)
      (pss_cons (ps_set (i := 7) sc__law_right.nd rfl (Or.inr rfl) (pe_cal c__law_take (hr.mono (by first | decide | omega)) passN (pa_cons (pv 0) (pa_cons (pe_op op_add (pv 1) pe_int) pa_nil))))
      (pss_cons (ps_set (i := 8) sc__law_right.nd rfl (Or.inl rfl) (pe_lst (pa_cons (pe_lamG (k := 8) L__law_outcome hG TB hmT huT (hr.mono (by first | decide | omega)) (fun A outer s H E f c' hr => (pe_calK k_reachable_1_mostx (hr.mono (by first | decide | omega)) (passE (takes_of rfl rfl rfl rfl) fun _ _ _ _ z => z) (pa_cons (pv 2) pa_nil) (pk_cons (pv 7) pk_nil))) (LamX.lamS_by (sc := defScope s__law_right) (by decide +kernel))) pa_nil)))
      (pss_cons (ps_expr (pe_bm PySem.F.plainAttrs_list PySem.F.slot_list_append PySem.F.type_list_append mt_append (pv 8) (pa_cons (pe_lamG (k := 8) L__law_outcome hG TB hmT huT (hr.mono (by first | decide | omega)) (fun A outer s H E f c' hr => (pe_calK k_greatest_reached_1_mostx (hr.mono (by first | decide | omega)) (passE (takes_of rfl rfl rfl rfl) fun _ _ _ _ z => z) (pa_cons (pv 2) pa_nil) (pk_cons (pv 7) pk_nil))) (LamX.lamS_by (sc := defScope s__law_right) (by decide +kernel))) pa_nil)))
      (pss_cons (ps_expr (pe_bm PySem.F.plainAttrs_list PySem.F.slot_list_append PySem.F.type_list_append mt_append (pv 8) (pa_cons (pe_lamG (k := 8) L__law_outcome hG TB hmT huT (hr.mono (by first | decide | omega)) (fun A outer s H E f c' hr => (pe_calK k_fewest_3_mostx (hr.mono (by first | decide | omega)) (passE (takes_of rfl rfl rfl rfl) fun _ _ _ _ z => z) (pa_cons (pv 2) (pa_cons (pv 3) (pa_cons pe_int pa_nil))) (pk_cons (pv 7) pk_nil))) (LamX.lamS_by (sc := defScope s__law_right) (by decide +kernel))) pa_nil)))
      (pss_one (ps_ret (pe_cmpR (op_eqD (Nat.lt_of_succ_lt (hu65 _ rfl))) (pv 8) (pe_op op_rep (pe_lst (pa_cons (pe_tup (pa_cons pe_str (pa_cons (pv 7) pa_nil))) pa_nil)) pe_int) (nomark _))))))))))))), ?_⟩
    walk_at "go"
    refine n_take S0 ⟨by decide, by decide⟩ fun r1 a1 b1 d1 H1 g1 l1 S1 => ?_
    obtain ⟨n, hn⟩ : ∃ n : Nat, 1 + r1 = (n : Int) := ⟨(1 + r1).toNat, by omega⟩
    walk_at "go"
    rw [hn]
    refine n_linksT S1 (by omega) (by omega) fun xs ls lq G2 H2 a2 b2 d2 e2 S2 hl2 ok nd => ?_
    have hz := okl_len ok nd (show n ≤ 60 by omega)
    obtain ⟨S3, e3, hlq⟩ := S2.swap.freeze
    have hl3 := hl2.mono e3
    generalize upd G2 lq (.lst xs) = G3 at S3 e3 hlq hl3
    walk_at "go"
    refine n_net (n := n) S3 (S3.ex _ _ hlq) (hl3.mono S3.ex) ok nd ⟨by omega, by omega⟩ hz fun a G4 H4 _ e4 _ S4 N4 => ?_
    have eG4 : Ex G G4 := e2.trans (e3.trans e4)
    walk_at "go"
    refine n_take (n := (n : Int)) S4 ⟨by omega, by omega⟩ fun r5 a5 b5 d5 H5 g5 l5 S5 => ?_
    obtain ⟨go, rfl⟩ : ∃ go : Nat, r5 = (go : Int) := ⟨r5.toNat, by omega⟩
    have hgo : OkSt n (.int (go : Int)) := ⟨_, rfl, g5, l5⟩
    walk_at "go"
    refine w_rng1 (j := 3) (fun i σ' H' => ∃ (G' : Hp) (f' : Addr → Array Value) (a' b' d' : Int) (x1 x2 x3 x4 x5 : Option V), σ' = [some (.ref W), some (.int (n : Int)), some (.ref a), some (.int (go : Int)), x1, x2, x3, x4, x5] ∧ Ex (noT G4) (noT G') ∧ Own G' ((W, wl a' b' d') :: tl TS f') H' ∧ TabsG G' TS f') (by decide)
      ⟨G4, ft, a5, b5, d5, _, _, _, _, _, rfl, Ex.refl _, S5, tg.mono eG4⟩ ?_ ?_
    · rintro i σ' H' hi ⟨G', f', a', b', d', x1, x2, x3, x4, x5, rfl, eG', S, tg'⟩
      walk_at "go"
      refine n_lstG S (by show 1 ≤ 10000000; decide) fun pl Ga Ha _ ea _ hpl Sa => ?_
      walk_at "go"
      refine n_dnewG' Sa fun pd Gb Hb eb hpd Sb => ?_
      walk_at "go"
      refine g_I ⟨by decide, by decide, by decide⟩ ?_
      walk_at "go"
      refine n_lstG Sb (by show 8 ≤ 10000000; decide) fun po Gc Hc _ ec _ hpo Sc => ?_
      walk_at "go"
      refine n_take Sc ⟨by decide, by decide⟩ fun r6 a6 b6 d6 H6 g6 l6 S6 => ?_
      obtain ⟨v, t, hv, ov⟩ := odS_at (K := K) (G := noT Gc) (n := n) (by omega) (noT_of (ec _ _ (eb _ _ hpl)) fun ps z => by cases z) (noT_of (ec _ _ hpd) fun ps z => by cases z) g6 l6
      walk_at "go"
      refine g_ixL (SqL.of (S6.ex _ _ hpo)) hv ?_
      walk_at "go"
      refine n_lstG S6 (by show 1 ≤ 10000000; decide) fun pl2 Gd Hd _ ed _ hpl2 Sd => ?_
      walk_at "go"
      refine n_dnewG' Sd fun pd2 Ge He ee hpd2 Se => ?_
      walk_at "go"
      refine g_I ⟨by decide, by decide, by decide⟩ ?_
      walk_at "go"
      refine n_lstG Se (by show 8 ≤ 10000000; decide) fun po2 Gf Hf _ ef _ hpo2 Sf => ?_
      walk_at "go"
      refine n_take Sf ⟨by decide, by decide⟩ fun r7 aq bq dq H7 g7 l7 S7 => ?_
      obtain ⟨u, tu, hu, ou⟩ := odC_at (K := K) (G := noT Gf) (noT_of (ef _ _ (ee _ _ hpl2)) fun ps z => by cases z) (noT_of (ef _ _ hpd2) fun ps z => by cases z) g7 l7
      walk_at "go"
      refine g_ixL (SqL.of (S7.ex _ _ hpo2)) hu ?_
      walk_at "go"
      have ecf : Ex Gc Gf := ed.trans (ee.trans ef)
      have cf : Ex (noT G4) (noT Gf) := eG'.trans (NX.Ex.noT (ea.trans (eb.trans (ec.trans ecf))))
      have ov := ov.mono (NX.Ex.noT ecf)
      have tgf : TabsG Gf TS f' := tg'.mono (ea.trans (eb.trans (ec.trans ecf)))
      have Nf : NetAt C (noT Gf) a n (sortP ls) := N4.noT.mono cf
      refine n_outs (A := [(W, wl aq bq dq)]) S7 lst1 tgf (Nf.mono (Ex.refl (noT Gf))) (.st (ov.mono (Ex.refl (noT Gf)))) fun H11 G11 f11 p11 xs11 e11 S11 tg11 o11 => ?_
      obtain ⟨q111, q211, q311, rfl, w111, w211, w311⟩ := o11.three (by decide)
      have c11 := ((Ex.refl (noT Gf))).trans e11
      walk_at "go"
      refine n_reprV (ov.mono (c11.trans ((ex_noT _).trans S11.ex))).sh ?_
      walk_at "go"
      refine n_tup S11 (by show 2 ≤ 10000000; decide) fun pa11 Ga11 Ha11 _ ea11 _ hpa11 Sa11 => ?_
      walk_at "go"
      refine n_lstG Sa11 (by show 1 ≤ 10000000; decide) fun pb11 Gb11 Hb11 _ eb11 _ hpb11 Sb11 => ?_
      walk_at "go"
      refine n_repV Sb11 (m := 3) (Sb11.ex _ _ hpb11) (by decide) fun pc11 Gc11 Hc11 ec11 hpc11 Sc11 => ?_
      have eg11 : Ex G11 Gc11 := ea11.trans (eb11.trans ec11)
      refine n_neWT3 (w := "station") (by decide +kernel) ov.ok (SqL.of Sc11.get0) (SqL.of (Sc11.ex _ _ hpc11)) (w111.mono (eg11.trans Sc11.ex)) (w211.mono (eg11.trans Sc11.ex)) (w311.mono (eg11.trans Sc11.ex)) (Sc11.ex _ _ (ec11 _ _ (eb11 _ _ hpa11))) ?_
      walk_at "go"
      have cc11 := c11.trans (NX.Ex.noT eg11)
      have tgg11 := tg11.mono eg11
      refine n_outs (A := [(W, wl aq bq dq)]) Sc11.forget lst1 tgg11 (Nf.mono cc11) (.st (ov.mono cc11)) fun H12 G12 f12 p12 xs12 e12 S12 tg12 o12 => ?_
      obtain ⟨q112, q212, q312, rfl, w112, w212, w312⟩ := o12.three (by decide)
      have c12 := (cc11).trans e12
      walk_at "go"
      refine n_reprV (ov.mono (c12.trans ((ex_noT _).trans S12.ex))).sh ?_
      walk_at "go"
      refine n_tup S12 (by show 2 ≤ 10000000; decide) fun pa12 Ga12 Ha12 _ ea12 _ hpa12 Sa12 => ?_
      walk_at "go"
      refine n_lstG Sa12 (by show 1 ≤ 10000000; decide) fun pb12 Gb12 Hb12 _ eb12 _ hpb12 Sb12 => ?_
      walk_at "go"
      refine n_repV Sb12 (m := 3) (Sb12.ex _ _ hpb12) (by decide) fun pc12 Gc12 Hc12 ec12 hpc12 Sc12 => ?_
      have eg12 : Ex G12 Gc12 := ea12.trans (eb12.trans ec12)
      refine n_neWT3 (w := "station") (by decide +kernel) ov.ok (SqL.of Sc12.get0) (SqL.of (Sc12.ex _ _ hpc12)) (w112.mono (eg12.trans Sc12.ex)) (w212.mono (eg12.trans Sc12.ex)) (w312.mono (eg12.trans Sc12.ex)) (Sc12.ex _ _ (ec12 _ _ (eb12 _ _ hpa12))) ?_
      walk_at "go"
      have cc12 := c12.trans (NX.Ex.noT eg12)
      have tgg12 := tg12.mono eg12
      refine n_outs (A := [(W, wl aq bq dq)]) Sc12.forget lst1 tgg12 (Nf.mono cc12) (.ch hgo (ou.mono cc12)) fun H13 G13 f13 p13 xs13 e13 S13 tg13 o13 => ?_
      obtain ⟨q113, q213, q313, rfl, w113, w213, w313⟩ := o13.three (by decide)
      have c13 := (cc12).trans e13
      walk_at "go"
      refine n_reprV (ou.mono (c13.trans ((ex_noT _).trans S13.ex))).sh ?_
      walk_at "go"
      refine n_tup S13 (by show 2 ≤ 10000000; decide) fun pa13 Ga13 Ha13 _ ea13 _ hpa13 Sa13 => ?_
      walk_at "go"
      refine n_lstG Sa13 (by show 1 ≤ 10000000; decide) fun pb13 Gb13 Hb13 _ eb13 _ hpb13 Sb13 => ?_
      walk_at "go"
      refine n_repV Sb13 (m := 3) (Sb13.ex _ _ hpb13) (by decide) fun pc13 Gc13 Hc13 ec13 hpc13 Sc13 => ?_
      have eg13 : Ex G13 Gc13 := ea13.trans (eb13.trans ec13)
      refine n_neWT3 (w := "channel") (by decide +kernel) ou.ok (SqL.of Sc13.get0) (SqL.of (Sc13.ex _ _ hpc13)) (w113.mono (eg13.trans Sc13.ex)) (w213.mono (eg13.trans Sc13.ex)) (w313.mono (eg13.trans Sc13.ex)) (Sc13.ex _ _ (ec13 _ _ (eb13 _ _ hpa13))) ?_
      walk_at "go"
      have cc13 := c13.trans (NX.Ex.noT eg13)
      have tgg13 := tg13.mono eg13
      exact ⟨Gc13, f13, aq, bq, dq, _, _, _, _, _, rfl, cf.trans cc13, Sc13.forget, tgg13⟩
    · rintro σ' H' ⟨G', f', a', b', d', x1, x2, x3, x4, x5, rfl, eG', S, tg'⟩
      walk_at "go"
      have N' : NetAt C (noT G') a n (sortP ls) := N4.noT.mono eG'
      refine n_outs (A := [(W, wl a' b' d')]) S lst1 tg' N' (.ok hgo rfl) fun H8 G8 f8 p8 xs8 e8 S8 tg8 o8 => ?_
      obtain ⟨q1, q2, rfl, w1, w2⟩ := o8.good
      walk_at "go"
      refine n_tup S8 (by show 2 ≤ 10000000; decide) fun pa Ga Ha _ ea _ hpa Sa => ?_
      walk_at "go"
      refine n_tup Sa (by show 2 ≤ 10000000; decide) fun pb Gb Hb _ eb _ hpb Sb => ?_
      walk_at "go"
      refine n_lstG Sb (by show 3 ≤ 10000000; decide) fun pc Gc Hc _ ec _ hpc Sc => ?_
      have eg := ea.trans (eb.trans ec)
      refine n_neWWN (by decide +kernel) (by decide +kernel) (SqL.of Sc.get0) (SqL.of (Sc.ex _ _ hpc)) (w1.mono (eg.trans Sc.ex)) (w2.mono (eg.trans Sc.ex)) (Sc.ex _ _ (ec _ _ (eb _ _ hpa))) (Sc.ex _ _ (ec _ _ hpb)) ?_
      walk_at "go"
      refine n_take (n := (n : Int) + 1) Sc.forget ⟨by omega, by omega⟩ fun lim a9 b9 d9 H9 g9 l9 S9 => ?_
      have c9 : Ex (noT G') (noT Gc) := e8.trans (NX.Ex.noT eg)
      have Nc := N'.mono c9
      have tgc := tg8.mono eg
      obtain ⟨B, hB⟩ := bfs_any n (sortP ls)
      have hBl := bfs_more hB
      walk_at "go"
      refine n_lamN (L := [(W, wl a9 b9 d9)]) S9 tgc lst1 fun G10 H10 f10 e10 S10 tg10 => ?_
      intro E1 Q1 hE1 _
      walk_at "go"
      refine ⟨rfl, rfl, a, n, sortP ls, lim, B, rfl, Nc.mono (e10.trans S10.ex), hB, .inr (by omega), fun h => absurd h (by omega), fun _ => fun d H11 e11 hd => hE1 _ _ _ (out_many KT hd (n_retG (S10.grow e11) fun p12 G12 H12 _ e12 _ hp12 S12 => ?_))⟩
      walk_at "go"
      have w12 : WI G12 p12 "many" lim := hp12
      refine n_lst S12 (by show 1 ≤ 10000000; decide) fun pl Hl _ Sl => ?_
      walk_at "go"
      refine ⟨tyL Sl.l0, ?_⟩
      walk_at "go"
      have c12 : Ex (noT Gc) G12 := e10.trans e12
      refine n_lamN (L := [(pl, .lst [.ref p12]), (W, wl a9 b9 d9)]) Sl (tg10.mono e12) lst2 fun G13 H13 f13 e13 S13 tg13 => ?_
      intro E2 Q2 hE2 _
      walk_at "go"
      have c13 := ex_step c12 e13
      refine ⟨rfl, rfl, a, n, sortP ls, lim, B, rfl, Nc.mono (c13.trans S13.ex), hB, .inr (by omega), fun h => absurd h (by omega), fun _ => fun d H14 e14 hd => hE2 _ _ _ (out_many KT hd (n_retG (S13.grow e14) fun p15 G15 H15 _ e15 _ hp15 S15 => ?_))⟩
      walk_at "go"
      have w15 : WI G15 p15 "many" lim := hp15
      have w12' := (w12.lam e13).mono e15
      refine n_app S15 (by show 1 ≤ 1000000; decide) fun Ha1 Sa1 => ?_
      walk_at "go"
      refine ⟨tyL Sa1.l0, ?_⟩
      walk_at "go"
      have c15 := c13.trans e15
      refine n_lamN (L := [(pl, .lst [.ref p12, .ref p15]), (W, wl a9 b9 d9)]) Sa1 (tg13.mono e15) lst2 fun G16 H16 f16 e16 S16 tg16 => ?_
      intro E3 Q3 hE3 _
      walk_at "go"
      have c16 := ex_step c15 e16
      refine ⟨rfl, rfl, a, n, sortP ls, .int (go : Int), .int 1, lim, rfl, Nc.mono (c16.trans S16.ex), .inr (.inr ⟨go, 1, B, rfl, by omega, rfl, by decide, hB, .inr (by omega), fun _ => fun d H17 e17 hd => hE3 _ _ _ (out_many KT hd (n_retG (S16.grow e17) fun p18 G18 H18 _ e18 _ hp18 S18 => ?_)), fun h => absurd h (by omega)⟩)⟩
      walk_at "go"
      have w18 : WI G18 p18 "many" lim := hp18
      have w12'' := (w12'.lam e16).mono e18
      have w15'' := (w15.lam e16).mono e18
      refine n_app S18 (by show 2 ≤ 1000000; decide) fun Ha2 Sa2 => ?_
      walk_at "go"
      refine n_tup Sa2 (by show 2 ≤ 10000000; decide) fun p19 G19 H19 _ e19 _ hp19 S19 => ?_
      walk_at "go"
      refine n_lstG S19 (by show 1 ≤ 10000000; decide) fun p20 G20 H20 _ e20 _ hp20 S20 => ?_
      walk_at "go"
      refine n_repV S20 (m := 3) (S20.ex _ _ hp20) (by decide) fun p21 G21 H21 e21 hp21 S21 => ?_
      have e1821 := e19.trans (e20.trans e21)
      refine n_eqWI3 (by decide +kernel) (SqL.of S21.get0) (SqL.of (S21.ex _ _ hp21)) (w12''.mono (e1821.trans S21.ex)) (w15''.mono (e1821.trans S21.ex)) (w18.mono (e1821.trans S21.ex)) (S21.ex _ _ (e21 _ _ (e20 _ _ hp19))) ?_
      walk_at "go"
      have c21 : Ex (noT Gc) G21 := (c16.trans e18).trans e1821
      exact k H21 G21 f16 ((NX.Ex.noT eG4).trans (eG'.trans (c9.trans (ex_nn c21)))) S21.forget.forget ((tg16.mono e18).mono e1821)
end
end NX

namespace NX
open PySem PySem.Spec PyProof.Rows L2
open Evl (Ex ex_l ex_t fresh_back)
open LamX (CodeO TabS Tabs ExtN TabB lamEnv lamCx run_ofS tLam codeO_ne)
/-! ### a lambda with one parameter that has a default and is not read -/
structure LamP (sc scope : Scope) (N : List Str) (x : Str) : Prop where
  kind : scope.kind = .function
  co : scope.isCoroutine = false
  gen : scope.isGenerator = false
  noc : ∀ y ∈ scope.names, y.2 ≠ .cell
  own : ∀ y ∈ scope.names, y.2 = .local → y.1 ∉ N
  free : ∀ y ∈ scope.names, y.2 = .free → sc.names.lookup y.1 = some .cell ∨ sc.names.lookup y.1 = some .free
  par : scope.names.lookup x = some .local
section
variable {X : Cx} {pins : List (Addr × Obj)} {σ : L2.St} {H HZ : Hp} {s s1 : Shared}
theorem LamP.has {scope : Scope} {N : List Str} {x : Str} (L : LamP X.env.scope scope N x) (ok : X.Ok) : ∀ y ∈ scope.names, y.2 = .free → ∃ c, X.env.cells.lookup y.1 = some c := by
  intro y hy e
  rcases L.free y hy e with k | k
  · exact ok.has _ (.inl k)
  · exact ok.has _ (.inr k)
theorem start_lamP {A : Around} {outer : List Env} {E : XK} {scope : Scope} {f c' : Addr} {h1 : Heap} {tk : Nat} {x : Str} {bs : List (Str × Value)} (I : Inv X pins σ H s) (L : LamP X.env.scope scope X.N x) (e0 : Env0 X.prog X.w X.K X.mg X.base A outer s1 HZ) (hd : A.handled = none)
    (un : Un (frs X.stack) [] H HZ s.heap s1.heap) (ns : h1.Ns s1.heap.objs.size fun y => bs.reverse.lookup y) (kp : ∀ b o, s1.heap.get? b = some o → h1.get? b = some o) :
    Inv (lamCx X A outer s1 HZ E scope f c') [] σ HZ { s1 with heap := h1, toks := tk } := by
  have inX : ∀ {y c}, (cloFrom X.env.cells scope.names []).lookup y = some c → X.env.cells.lookup y = some c := by
    intro y c e
    rcases cloFrom_mem (PySem.mem_of_lookup e) with m | ⟨m, e2⟩
    · exact nomatch m
    · obtain ⟨d, hd⟩ := L.has I.ok _ m rfl
      have hd : X.env.cells.lookup y = some d := hd
      have : c = d := by rw [e2, hd] <;> rfl
      rw [this]
      exact hd
  have clo : ∀ {y}, scope.names.lookup y = some .free → ∃ c, (cloFrom X.env.cells scope.names []).lookup y = some c := by
    intro y hl
    have hy : (y, NameKind.free) ∈ scope.names := PySem.mem_of_lookup hl
    exact mem_lookup (cloFrom_has (cells := X.env.cells) (acc := []) hy)
  have stays : ∀ {c : Addr} {v : Option Value}, H c = none → s.heap.IsCell c v → h1.IsCell c v := by
    rintro c v n ⟨o, ho, hd⟩
    obtain ⟨sl, q⟩ := un.any ho n (by simp)
    exact ⟨_, kp _ _ q, hd⟩
  have none_ : ∀ b : Addr, b ∉ (lamCx X A outer s1 HZ E scope f c').ex := fun b z => absurd (show b ∈ ([] : List Addr) from z) (by simp)
  refine ⟨⟨e0.mod, L.kind, rfl, rfl, Nat.le_refl _, fun y z c e1 e2 => I.ok.inj y z c (inX e1) (inX e2), fun y hy => ?_, fun y c z _ => ?_, fun _ => hd, Around.frames_deeper e0.frames, .inr ⟨rfl, rfl⟩, fun b z => absurd z (none_ b), e0.bs, e0.bsz, fun b _ _ => none_ b,
      fun b z => absurd z (none_ b), e0.funs, e0.frf⟩,
    rfl, e0.bare, Un.kept kp, ⟨_, ns, fun i y v e1 e2 e3 => ?_⟩, fun y c e => ?_, e0.hok.fresh (Nat.le_refl _), fun y c e => ?_, fun q hq => absurd (show q ∈ ([] : List (Addr × Obj)) ++ [] from hq) (by simp), e0.hok.kept kp, I.len⟩
  · have hy : scope.names.lookup y = some .cell ∨ scope.names.lookup y = some .free := hy
    rcases hy with hy | hy
    · exact absurd rfl (L.noc _ (PySem.mem_of_lookup hy))
    · exact clo hy
  · exact nomatch (show false = true from z)
  · have e3 : Vis scope y := e3
    have e1 : X.N[i]? = some y := e1
    rcases e3 with k | k | k
    · exact absurd (List.mem_of_getElem? e1) (L.own _ (PySem.mem_of_lookup k) rfl)
    · exact absurd rfl (L.noc _ (PySem.mem_of_lookup k))
    · obtain ⟨m, hn, hl⟩ := I.loc
      have vis : Vis X.env.scope y := (L.free _ (PySem.mem_of_lookup k) rfl).elim (fun k => .inr (.inl k)) (fun k => .inr (.inr k))
      obtain ⟨w', r, q⟩ := hl i y v e1 e2 vis
      obtain ⟨c2, h2⟩ := clo k
      refine ⟨w', r, .inr ⟨.inr k, c2, h2, ?_⟩⟩
      have c1 := inX h2
      rcases q with ⟨k', _⟩ | ⟨_, c3, e', z⟩
      · have k' : X.env.scope.names.lookup y = some .local := k'
        rcases L.free _ (PySem.mem_of_lookup k) rfl with k2 | k2 <;> rw [show X.env.scope.names.lookup y = _ from k2] at k' <;> cases k'
      · rw [c1] at e'
        cases e'
        exact stays (I.freeC y _ c1) z
  · obtain ⟨w', z⟩ := I.cell y c (inX e)
    exact ⟨w', stays (I.freeC y c (inX e)) z⟩
  · obtain ⟨v, o, ho, hd⟩ := I.cell y c (inX e)
    exact un.free c o ho (I.freeC y c (inX e)) (by simp)
end
abbrev lamFn (X : Cx) (params : Arguments) (body : Expr) (scope : Scope) (dV doc pm : Value) (c' : Addr) (ctv : Value) : FuncData := PySem.W.kdv_fn "<lambda>" (X.env.qual ++ "<lambda>") params (.expr body) scope (cloFrom X.env.cells scope.names []) dV doc pm (.ref c') ctv
section
variable {X : Cx} {pins : List (Addr × Obj)} {σ : L2.St} {H : Hp} {s : Shared}
/-- the function's object is made, its defaults known -/
theorem tail_lamP {T : List (Addr × Str)} {c P : Addr} {params : Arguments} {body : Expr} {scope : Scope} {pos : Pos} {dV : Value} {E : Value → Shared → Prop} {Q : Value → Shared → Prop} (I : Inv X pins σ H s) (TB : TabB X.base X.mg c P) (hcode : X.env.code = .ref c)
    (hm : (P, X.env.qual ++ "<lambda>") ∈ T) (hu : ∀ p ∈ T, p.1 = P → p.2 = X.env.qual ++ "<lambda>") (hT : Tabs T H) (hfree : ∀ y ∈ scope.names, y.2 = .free → ∃ c, X.env.cells.lookup y.1 = some c)
    (h : ∀ (f c' : Addr) (pm ctv doc : Value) (H1 : Hp) (s' : Shared), Inv X pins σ H1 s' → ExtN H H1 → Tabs T H1 → s'.heap.get? f = some { cls := .type "function", data := .func (lamFn X params body scope dV doc pm c' ctv) } → H1 f = none → f ∉ frs X.stack → H1 c' = some (CodeO c' (X.env.qual ++ "<lambda>")) →
      (∀ b o, b ≠ P → s.heap.get? b = some o → s'.heap.get? b = some o) → (∀ b, b ≠ P → b < s.heap.objs.size → H b = none → H1 b = none) → Q (.ref f) s') :
    wpAny (model X.prog X.w) X.A (makeTail "<lambda>" (X.env.qual ++ "<lambda>") params (.expr body) scope X.env dV .none none pos pos.line) Q E s := by
  obtain ⟨ps, hP, ht, ha⟩ := hT _ hm
  have bP : s.heap.BuiltinsAt X.mg P := TB.bm.keeps I.bk
  have atP : s.heap.get? P = some { cls := .none, data := .fields ps } := I.hok P _ hP
  have nofr : ∀ f, s.heap.objs.size ≤ f → f ∉ frs X.stack := by
    intro f hf z
    rcases List.mem_cons.mp (I.stkSub _ z) with e | e
    · have h1 := I.lt
      rw [← e] at h1
      exact absurd (Nat.lt_of_lt_of_le h1 hf) (Nat.lt_irrefl _)
    · exact I.nofs hf e
  rcases hc : codeAmong pos ps.toList with _ | cv
  · refine PySem.W.kdv_makeTail (mg := X.mg) (c := c) (P := P) (ps := ps) (closure_ok hfree) I.ok.glob (I.mod.glob.keeps I.bk) hcode (TB.code.keeps I.bk) atP ht hc TB.gP bP fun c' ctv doc h' tk hx hge hlt hrec htb => ?_
    obtain ⟨c2, oc, vs, t, e2, hoc, hd, hv⟩ := hrec
    cases e2
    have nC : H c' = none := I.hok.fresh hge
    have hsz : s.heap.objs.size ≤ h'.objs.size := by omega
    have I1 := LamX.inv_table (t' := tk) (more := #[rawInt pos.line, rawInt pos.col, .ref c']) (h' := h'.push { cls := .type "function", data := .func (lamFn X params body scope dV doc ((X.mg "__name__").getD .none) c' ctv) }) I hP
      (fun b o hb e => Heap.get?_push_of_some _ (hx b o hb e)) (Heap.get?_push_of_some _ htb) hge ⟨oc, vs, t, Heap.get?_push_of_some _ hoc, hd, hv⟩
    have ext : ExtN H (upd (upd H P (.tbl (ps ++ #[rawInt pos.line, rawInt pos.col, .ref c']))) c' (CodeO c' (X.env.qual ++ "<lambda>"))) := by
      intro b o e n
      rw [upd_ne (ne_of_none e nC), upd_ne fun z => n ps (by rw [z, hP] at e; exact (Option.some.inj e).symm)]
      exact e
    have rows : (ps ++ #[rawInt pos.line, rawInt pos.col, .ref c']).toList = ps.toList ++ [rawInt pos.line, rawInt pos.col, .ref c'] := by simp
    refine h h'.objs.size c' _ ctv doc _ _ I1 ext (fun p hp => ?_) (Heap.get?_push_size _ rfl) ?_ (nofr _ hsz) upd_same (fun b o hb e => Heap.get?_push_of_some _ (hx b o hb e)) fun b hb hl hn => ?_
    · by_cases hb : p.1 = P
      · rw [hu p hp hb, hb]
        refine ⟨_, by rw [upd_ne (ne_of_none hP nC), upd_same], by rw [rows]; exact PySem.TriplesOk_snoc _ _ _ _ ht, fun p' cv hcv => ?_⟩
        rw [rows] at hcv
        rcases LamX.among_app _ ht hcv with z | z
        · obtain ⟨c0, e1, e2⟩ := ha p' cv z
          exact ⟨c0, e1, ext _ _ e2 codeO_ne⟩
        · exact ⟨c', z, upd_same⟩
      · obtain ⟨ps', a1, a2, a3⟩ := hT p hp
        refine ⟨ps', by rw [upd_ne (ne_of_none a1 nC), upd_ne hb]; exact a1, a2, fun p' cv hcv => ?_⟩
        obtain ⟨c0, e1, e2⟩ := a3 p' cv hcv
        exact ⟨c0, e1, ext _ _ e2 codeO_ne⟩
    · rw [upd_ne (Nat.ne_of_gt hlt), upd_ne (Nat.ne_of_gt (Nat.lt_of_lt_of_le (Heap.lt_size atP) hsz))]
      exact I.hok.fresh hsz
    · rw [upd_ne (Nat.ne_of_lt (Nat.lt_of_lt_of_le hl hge)), upd_ne hb]
      exact hn
  · obtain ⟨c', e, hco⟩ := ha pos cv hc
    subst e
    refine PySem.W.kdv_makeTailHit (mg := X.mg) (c := c) (P := P) (ps := ps) (closure_ok hfree) I.ok.glob (I.mod.glob.keeps I.bk) hcode (TB.code.keeps I.bk) atP ht hc bP fun ctv doc h' tk hx hsz => ?_
    have I1 : Inv X pins σ H { s with heap := h'.push { cls := .type "function", data := .func (lamFn X params body scope dV doc ((X.mg "__name__").getD .none) c' ctv) }, toks := tk } := I.kept fun b o e => Heap.get?_push_of_some _ (hx b o e)
    exact h h'.objs.size c' _ ctv doc H _ I1 (ExtN.refl H) hT (Heap.get?_push_size _ rfl) (I.hok.fresh hsz) (nofr _ hsz) hco (fun b o _ e => Heap.get?_push_of_some _ (hx b o e)) fun _ _ _ z => z
end
section
variable {X : Cx} {pins : List (Addr × Obj)} {σ : L2.St} {H : Hp} {s : Shared}
theorem act_lamP {Ng : List Str} {x : Str} {sg : Scope} {g f c' T0 : Addr} {cdg pm ctv doc : Value} {params : Arguments} {body : Expr} {scope : Scope} {k : Nat} {a y0 : Str} {u0 : Value} {pn : List (Addr × Obj)} {xe : Value → Shared → Prop} {W : WX} {tb : XK → TE} {p1 p2 : Pos}
    (I : Inv X pins σ H s) (L : LamP X.env.scope scope X.N y0) (hf : s.heap.get? f = some { cls := .type "function", data := .func (lamFn X params body scope (.ref T0) doc pm c' ctv) }) (hfn : H f = none) (hfr : f ∉ frs X.stack)
    (ht : s.heap.get? T0 = some (PySem.W.kdv_tup [u0])) (htn : H T0 = none) (htr : T0 ∉ frs X.stack)
    (hbind : ∀ s2 : Shared, s2.heap.get? T0 = some (PySem.W.kdv_tup [u0]) → BindsTo s2 (lamFn X params body scope (.ref T0) doc pm c' ctv) ⟨[], []⟩ [(y0, u0)])
    (tk : Takes ((inCx X Ng x sg g cdg s H).tr pn xe) W) (hr : Room (k + 1) (X.A.deeper (envOfC x sg s.heap.objs.size g cdg)))
    (hbody : ∀ (E : XK) (A : Around) (outer : List Env) (s : Shared) (H : Hp), Room k (A.deeper (lamEnv X scope s.heap.objs.size f c')) → PE (lamCx X A outer s H E scope f c') body (tb E))
    (hN : Ng[0]? = some a) (hv : Vis sg a) (hd : (a == ("__debug__" : Str)) = false := by decide) (hcd : (a == ("__classdict__" : Str)) = false := by decide) :
    PE ((inCx X Ng x sg g cdg s H).tr pn xe) (.Call (.Name a p1) [] [] p2) (tAct f c' (X.env.qual ++ "<lambda>") W fun E H' Q' => tb E σ H' Q') := by
  refine ⟨fun pinsZ sZ σZ HZ Q IZ ⟨hs, hc, hq⟩ => ?_⟩
  have nm := (pe_var (pos := p1) (i := 0) hN hv hd hcd).run pinsZ sZ σZ HZ (fun v H1 => v = .ref f ∧ H1 = HZ) IZ ⟨.ref f, hs, rfl, rfl⟩
  refine wpAny_Call_Name_kw (thn nm fun u s1 ⟨v, H1, I1, r1, ev, eH⟩ => ?_)
  subst ev
  rw [eH] at I1
  cases (show u = Value.ref f from r1)
  have here := I1.base.keep f _ hf hfn hfr (fun z => nomatch (show f ∈ ([] : List Addr) from z))
  have tup := I1.base.keep T0 _ ht htn htr (fun z => nomatch (show T0 ∈ ([] : List Addr) from z))
  refine PySem.W.callWith_F0 ⟨_, _, _, _, here⟩ ?_
  have un : Un (frs X.stack) [] H HZ s.heap s1.heap := I1.base
  obtain ⟨⟨oc, vs, t, hoc, hdc, hvc⟩, _, _⟩ := I1.hok c' _ hc
  have rc : codeAny (model X.prog X.w) (X.A.deeper (envOfC x sg s.heap.objs.size g cdg)) (.call (.ref f) ⟨[], []⟩)
      (CR (L2.CX X.prog X.w) (envOfC x sg s.heap.objs.size g cdg :: X.stack) X.prog X.w HZ s1 Q fun cls d H' => W cls d σZ H') s1 := by
    refine PySem.W.kla_callFunE hr.depth here rfl L.co L.gen rfl ⟨c', oc, vs, t, rfl, hoc, hdc, hvc⟩ (hbind s1 tup _ _ _ _ ?_)
    refine wpAny_newFunctionEnv L.noc (fun y hy => by rw [List.mem_singleton.mp hy]; exact L.par) (fun h1 ns hsb => ⟨I1.nolimit.fresh _ hsb, ?_⟩) L.kind
    show codeAny _ _ (.expr body (lamEnv X scope s1.heap.objs.size f c')) _ _
    have J := start_lamP (f := f) (c' := c') (tk := s1.toks + [(y0, u0)].length) (E := fun cls d H' => W cls d σZ H') I L I1.env0 hr.hd un ns fun b o e => hsb.extBut b o (Nat.ne_of_lt (Heap.lt_size e)) (Heap.get?_push_of_some _ e)
    refine PySem.W.kla_codeExpr (wpAny_mono ((hbody _ _ _ s1 HZ (hr.deeper _)).run [] _ _ HZ Q J hq) (fun v s' hq => ?_) fun e s' hq => hq)
    obtain ⟨w', H', J', rv, q⟩ := hq
    exact ⟨w', H', J'.os, J'.bare, J'.base, J'.hok, rv, q⟩
  refine wpAny_call (codeAny_mono rc fun r s' hq => ?_)
  cases r with
  | error e => exact passAt tk σZ pinsZ HZ s1 e s' I1 hq
  | ok fl =>
    cases fl with
    | ret u => exact I1.after hq
    | next => exact False.elim hq
    | brk => exact False.elim hq
    | cont => exact False.elim hq
end
theorem pe_lamGP {T : List (Addr × Str)} {TT : (XK → Hp → VK → Prop) → Hp → VK → Prop} {x a y0 : Str} {c P : Addr} {k : Nat} {i0 : Int} {params : Arguments} {e0 : Expr} {body : Expr} {scope : Scope} {t : XK → TE} {p lpos pos : Pos} {X : Cx} (D : LamDefG X.prog X.w X.K X.mg X.base x a TT) (hGd : X.A.guards = some [])
    (TB : TabB X.base X.mg c P) (hmT : (P, X.env.qual ++ "<lambda>") ∈ T) (hu : ∀ p ∈ T, p.1 = P → p.2 = X.env.qual ++ "<lambda>") (hr : Room (k + 2) X.A)
    (hbody : ∀ (A : Around) (outer : List Env) (s : Shared) (H : Hp) (E : XK) (f c' : Addr), Room k (A.deeper (lamEnv X scope s.heap.objs.size f c')) → PE (lamCx X A outer s H E scope f c') body (t E)) (L : LamP X.env.scope scope X.N y0)
    (he : PE X e0 (tC (.int i0))) (hdl : params.defaults = [e0]) (hkd : params.kw_defaults = [])
    (hbind : ∀ (q : Str) (cl : List (Str × Addr)) (T0 : Addr) (doc pm cv ctv u0 : Value) (s2 : Shared), s2.heap.get? T0 = some (PySem.W.kdv_tup [u0]) → BindsTo s2 (PySem.W.kdv_fn "<lambda>" q params (.expr body) scope cl (.ref T0) doc pm cv ctv) ⟨[], []⟩ [(y0, u0)])
    (hcode : X.env.code = .ref c := by rfl) (hg : Gl X x := by rfl)
    (hdb : (x == ("__debug__" : Str)) = false := by decide) (hd : (a == ("__debug__" : Str)) = false := by decide) (hcd : (a == ("__classdict__" : Str)) = false := by decide) :
    PE X (.Call (.Name x p) [.Lambda params body scope lpos] [] pos) (tLam T TT t) := by
  obtain ⟨g, Ng, st, oc, kV, doc, pm, cdv, ct, an, od, osl, hm, hk, lk, hcg, hb, Sg, hNg, hva, hG⟩ := D
  refine ⟨fun pins s σ H Q I ⟨hT, h⟩ => ?_⟩
  refine wpAny_Call_Name_kw (ld_glob I hg hm (PySem.W.callWith_K (h₀ := X.base) I.ok.mod.kin hk ?_ (by rfl) (by rfl)) hdb)
  show wpAny _ _ (spliced ((false, eval (.Lambda params body scope lpos) X.env) :: backTo pos (starEach [] X.env))) _ _ s
  refine Calls.spliced_cons (PySem.W.kdv_lam (by rw [hdl] <;> rfl) hkd ?_)
  rw [hdl]
  refine PySem.W.kdv_all1 (thn (he.run pins s σ H (fun v H1 => v = .int i0 ∧ H1 = H) I ⟨rfl, rfl⟩) fun u0 s0 ⟨v0, H0, I0, r0, ev, eH⟩ => PySem.W.kdv_all0 ?_)
  subst ev eH
  rw [makeFunction_eq]
  simp only [List.zip_nil_right, List.filterMap_nil, List.isEmpty_nil, List.isEmpty_cons, if_true, pure_bind, Bool.false_eq_true, if_false]
  refine wpAny_bind (wpAny_newTextTuple ?_)
  have I2 : Inv X pins σ H0 { s0 with heap := s0.heap.push (PySem.W.kdv_tup [u0]) } := I0.kept fun b o e => Heap.get?_push_of_some _ e
  have tAt : (s0.heap.push (PySem.W.kdv_tup [u0])).get? s0.heap.objs.size = some (PySem.W.kdv_tup [u0]) := Heap.get?_push_size _ rfl
  have tNo : H0 s0.heap.objs.size = none := I0.hok.fresh (Nat.le_refl _)
  have tFr : s0.heap.objs.size ∉ frs X.stack := by
    intro z
    rcases List.mem_cons.mp (I0.stkSub _ z) with e | e
    · have h1 := I0.lt
      rw [← e] at h1
      exact absurd h1 (Nat.lt_irrefl _)
    · exact I0.nofs (Nat.le_refl _) e
  refine tail_lamP I2 TB hcode hmT hu hT (L.has I2.ok) fun f c' pm' ctv doc' H1 s' I1 eN T1 hf hfn hfr hco kept same => ?_
  have tP : s0.heap.objs.size ≠ P := by
    intro e
    obtain ⟨ps, hP, _⟩ := hT _ hmT
    rw [← e, tNo] at hP
    exact nomatch hP
  have tAt' := kept _ _ tP tAt
  have tNo' := same _ tP (by show _ < (s0.heap.push _).objs.size; rw [Heap.size_push]; exact Nat.lt_succ_self _) tNo
  refine Calls.spliced_nil ⟨I1.kIn, ?_⟩
  have rc : codeAny (model X.prog X.w) X.A (.call (.ref g) ⟨[.ref f], []⟩) (CR CX0 X.stack X.prog X.w H1 s' Q E0) s' :=
    run_ofS (N := Ng) (ps := [a]) (us := [.ref f]) (vs := [.ref f]) lk hcg Sg hr I1.env0 (hb s' [.ref f] I1.kIn rfl) (.cons rfl .nil) rfl fun hr' => by
      obtain ⟨t', ht', hq'⟩ := hG X _ rfl rfl rfl rfl rfl hGd (fun env => by have := (hr.deeper env).un; omega) f c' s' H1 Q (fun E H' Q' => t E σ H' Q') (fun W pn xe p1 p2 tk => act_lamP I1 L hf hfn hfr tAt' tNo' tFr (fun s2 z => hbind _ _ _ _ _ _ _ _ s2 z) tk hr' (fun E A outer s H hr2 => hbody A outer s H E f c' hr2) hNg hva hd hcd) hco (h H1 eN T1)
      exact ⟨t', ht'.nox, hq'⟩
  refine wpAny_call (codeAny_mono rc fun r s2 hq => ?_)
  cases r with
  | error e => exact (show False from hq).elim
  | ok fl =>
    cases fl with
    | ret u => exact I1.after hq
    | next => exact False.elim hq
    | brk => exact False.elim hq
    | cont => exact False.elim hq
def lamPB (sc scope : Scope) (N : List Str) (x : Str) : Bool :=
  decide (scope.kind = .function) && !scope.isCoroutine && !scope.isGenerator && decide (scope.names.lookup x = some .local) &&
    scope.names.all fun y => !decide (y.2 = .cell) && (!decide (y.2 = .local) || !N.contains y.1) && (!decide (y.2 = .free) || decide (sc.names.lookup y.1 = some .cell) || decide (sc.names.lookup y.1 = some .free))
theorem lamP_by {sc scope : Scope} {N : List Str} {x : Str} (h : lamPB sc scope N x = true) : LamP sc scope N x := by
  unfold lamPB at h
  simp only [Bool.and_eq_true, Bool.or_eq_true, Bool.not_eq_true', decide_eq_true_eq, decide_eq_false_iff_not, List.all_eq_true] at h
  obtain ⟨⟨⟨⟨h1, h2⟩, h3⟩, hx⟩, h4⟩ := h
  refine ⟨h1, h2, h3, fun y hy => (h4 y hy).1.1, fun y hy e m => ?_, fun y hy e => ?_, hx⟩
  · rcases (h4 y hy).1.2 with z | z
    · exact z e
    · rw [List.contains_iff_mem.mpr m] at z
      exact nomatch z
  · rcases (h4 y hy).2 with (z | z) | z
    · exact absurd e z
    · exact .inl z
    · exact .inr z
end NX

namespace NX
open PySem PySem.Spec PyProof.Rows L2
open Evl (Ex ex_l ex_t fresh_back)
abbrev s_Network___len__ : Stmt := inClass (top 14) 2
theorem sc_Network___len__ : FnScope ["self"] ["self"] (defScope s_Network___len__) := ⟨rfl, rfl, rfl, by decide +kernel, rfl, by decide +kernel, by decide +kernel⟩
abbrev s_Network___eq__ : Stmt := inClass (top 14) 3
theorem sc_Network___eq__ : FnScope ["self", "other"] ["self", "other"] (defScope s_Network___eq__) := ⟨rfl, rfl, rfl, by decide +kernel, rfl, by decide +kernel, by decide +kernel⟩
section
variable {P : Program} {w : World} {K : PySem.W.Frag} {mg : Str → Option Value} {base : Heap}
theorem ok_len {f C : Addr} {fd : FuncData} (F : Fun K "__len__" "Network.__len__" s_Network___len__ f fd) (T : Txt mg) (NC : NetC K C) : FnOk P w K mg base CX0 1 f fd ["self"] (spLen C) := by
  refine F.ok sc_Network___len__ (fun vs H Q E h => ?_) (fun cdv A outer s H vs Q E hr h => ?_)
  · obtain ⟨a, n, ks, rfl, _⟩ := h
    rfl
  · obtain ⟨a, n, ks, rfl, N, k⟩ := h
    obtain ⟨dx, kp, np, xs, nps, o⟩ := N.at_
    refine ⟨_, (pss_one (ps_ret (pe_callB call_lenN (by rfl) T.n_len (by decide +kernel) (pa_cons (pe_fld (pv 0) rfl) pa_nil)))), ?_⟩
    walk_at "go"
    refine n_fld o.ins NC.cl NC.nN (nf_near kp np) ?_
    walk_at "go"
    refine n_len (SqL.of o.near) ?_
    rw [List.length_map, o.len]
    exact k
theorem ok_eq {f C : Addr} {fd : FuncData} (F : Fun K "__eq__" "Network.__eq__" s_Network___eq__ f fd) (T : Txt mg) (NC : NetC K C) (hC : mg "Network" = some (.ref C)) (M_len : Mth P w K mg base 1 C "__len__" ["self"] (spLen C)) :
    FnOk P w K mg base CX0 3 f fd ["self", "other"] (spEqN C) := by
  refine F.ok sc_Network___eq__ (fun vs H Q E h => ?_) (fun cdv A outer s H vs Q E hr h => ?_)
  · obtain ⟨a, b, n, m, ks, ls, rfl, _⟩ := h
    rfl
  · obtain ⟨a, b, n, m, ks, ls, rfl, N1, N2, k⟩ := h
    have hu65 : ∀ X : Cx, X.A = A.deeper (envOfC "Network.__eq__" (defScope s_Network___eq__) s.heap.objs.size f cdv) → X.A.units + 65 < cLine := fun X e => by rw [e]; have := hr.un; omega
    obtain ⟨dx, kp, np, xs, nps, o⟩ := N1.at_
    obtain ⟨dx', kp', np', xs', nps', o'⟩ := N2.at_
    refine ⟨_, (pss_one (ps_ret (pe_and (pe_callB call_isi (by rfl) T.n_isinstance (by decide +kernel) (pa_cons (pv 1) (pa_cons (pe_glob (v := .ref C) (by rfl) hC rfl) pa_nil))) (pe_and (pe_cmpR op_eq (pe_callB (call_lenNet NC M_len (hr.mono (by first | decide | omega))) (by rfl) T.n_len (by decide +kernel) (pa_cons (pv 0) pa_nil)) (pe_callB (call_lenNet NC M_len (hr.mono (by first | decide | omega))) (by rfl) T.n_len (by decide +kernel) (pa_cons (pv 1) pa_nil)) (nomark _)) (pe_one (pe_cmpR (op_eqD (Nat.lt_of_succ_lt (hu65 _ rfl))) (pe_fld (pv 0) rfl) (pe_fld (pv 1) rfl) (nomark _))))))), ?_⟩
    walk_at "go"
    refine ⟨_, _, _, _, _, rfl, .own C, .base (.ins o'.ins NC.cl NC.ha NC.hn NC.ht NC.hm), NC.kit, ?_⟩
    walk_at "go"
    refine n_lenNet N1 ?_
    walk_at "go"
    refine n_lenNet N2 ?_
    walk_at "go"
    refine if_2 (fun e => ?_) (fun e => ?_)
    · have e := of_decide_eq_true e
      walk_at "go"
      refine n_fld o.ins NC.cl NC.nK (nf_kept kp np) ?_
      walk_at "go"
      refine n_fld o'.ins NC.cl NC.nK (nf_kept kp' np') ?_
      refine ⟨_, _, .lst (SqL.of o.kept) (dp_lks o.lks), .lst (SqL.of o'.kept) (dp_lks o'.lks), shaped_lks ks, shaped_lks ls, ?_⟩
      rw [eqv_lks]
      have z := k H (Ex.refl H)
      have e2 : decide (n = m ∧ ks = ls) = decide (ks = ls) := by
        have hnm : n = m := by omega
        rw [Bool.eq_iff_iff]
        simp [hnm]
      rw [e2] at z
      exact z
    · have e := of_decide_eq_false e
      have z := k H (Ex.refl H)
      have e2 : decide (n = m ∧ ks = ls) = false := decide_eq_false fun c => e (by rw [c.1])
      rw [e2] at z
      exact z
end
end NX

namespace NX
open PySem PySem.Spec PyProof.Rows L2
open Evl (Ex ex_l ex_t fresh_back)
open LamX (CodeO TabB)
abbrev s_law : Stmt := top 45
theorem sc_law : FnScope ["_law_script", "_law_turn", "_law_cell", "_law_wide", "_law_found"] ["_law_script"] (defScope s_law) := ⟨rfl, rfl, rfl, by decide +kernel, rfl, by decide +kernel, by decide +kernel⟩
def qL (c : Addr) : Str := (envOfC "law" (defScope s_law) 0 0 (.ref c)).qual ++ "<lambda>"
def spLawT (K : PySem.W.Frag) (TS : List (Addr × Str)) : Sp := fun vs H Q _ => ∃ (a : Addr) (ns : List Int), vs = [.ref a] ∧ SqL K H a (ns.map V.int) ∧ ns.length ≤ 63 ∧ (∀ p ∈ TS, H p.1 = some (.tbl #[])) ∧ ∀ H', Q (.bl true) H'
theorem gr9 {B : List Ent} {g : List Int} (h : Bfs (nb []) 9 B) (hg : MaxB B 9 g) : g = List.replicate 9 1 := by
  refine hg.uniq ⟨List.length_replicate, fun j hj => ⟨?_, fun e he => ?_⟩⟩
  · obtain ⟨f, hf, ef, _⟩ := bfs_one h hj
    refine ⟨f, hf, ?_⟩
    rw [ef, sw_tv (by rw [List.length_replicate]; exact hj) j, if_pos rfl, chn_nil, tv_z, if_pos rfl, tv_rep hj]
  · have hv := (vec_mem.mp (rch_vec.mp (h.okk.rch e he)))
    rw [tv_rep hj]
    rcases hv.2 _ (tv_mem (t := e.st) (j := (j : Int)) (by omega) (by rw [hv.1]; omega)) with z | z <;> omega
theorem n_eqSL {K : PySem.W.Frag} {H : Hp} {a b l m : Addr} {s : Str} {i : Int} {Q : VK} (hs : PyData.strOk s = true) (h1 : H a = some (.tup [.str s, .ref l])) (h2 : H b = some (.tup [.str s, .ref m])) (hl : SqL K H l [.int i]) (hm : SqL K H m [.int i]) (k : Q (.bl true) H) : rEqD K (.ref a) (.ref b) H Q := by
  have z : SeqAt.shaped (.tuple [.str s, .list [.int i]]) = true := by
    unfold SeqAt.shaped
    simp [PyData.canLay0, PyData.canLayAll0, PyData.depth, PyData.depthAll, hs]
  exact ⟨_, _, .tup (SqT.of h1) (.cons (.str s) (.cons (.lst hl (.cons (.int i) .nil)) .nil)), .tup (SqT.of h2) (.cons (.str s) (.cons (.lst hm (.cons (.int i) .nil)) .nil)), z, z, by simpa [PyData.eqv, PyData.eqvAll] using k⟩
section
variable {P : Program} {w : World} {K : PySem.W.Frag} {mg : Str → Option Value} {base : Heap} {C CS CC CT C0 c Pt : Addr} {Cs : Nat → Addr} {TS : List (Addr × Str)}
theorem ok_law {f : Addr} {fd : FuncData} (F : FunC K "law" "law" s_law f fd c) (T : Txt mg) (NC : NetC K C) (TB : TabB base mg c Pt) (hmT : (Pt, qL c) ∈ TS) (hnT : (TS.map Prod.fst).Nodup) (KT : Kind8 K C0 Cs CT 2)
    (L__law_outcome : LamDefG P w K mg base "_law_outcome" "_law_ask" (OutT K C0 Cs)) (c__law_well : Cal P w K mg base 1 "_law_well" ["_law_cell", "_law_turn"] [] spWell) (c__law_right : CalG P w K mg base 13 "_law_right" ["_law_well_here"] (spRight TS))
    (c_Network : Cnw P w K mg base 3 "Network" C ["self", "stations", "links"] (spInit C)) (c_reachable_1x : Cal P w K mg base 6 "reachable" ["network", "most"] [.int 1000] (spReach C CT)) (c_greatest_reached_1x : Cal P w K mg base 6 "greatest_reached" ["network", "most"] [.int 1000] (spGR C CT))
    (c_fewest_3x : Cal P w K mg base 6 "fewest" ["network", "station", "channel", "most"] [.int 1000] (spFewS C CS CC CT)) (c_greatest_reached_1 : Cal P w K mg base 6 "greatest_reached" ["network", "most"] [.int 1000] (spGR C CT))
    (c_fewest_3 : Cal P w K mg base 6 "fewest" ["network", "station", "channel", "most"] [.int 1000] (spFewS C CS CC CT)) : FnOkG P w K mg base 14 f fd ["_law_script"] (spLawT K TS) := by
  have huT := tab_u hnT hmT
  refine okGC F sc_law (fun vs H Q E h => ?_) (fun A outer s H vs Q E hG0 hr h => ?_)
  · obtain ⟨a, ns, rfl, _⟩ := h
    rfl
  · obtain ⟨a, ns, rfl, hS, hn, hT, k⟩ := h
    have hu65 : ∀ X : Cx, X.A.units = (A.deeper (envOfC "law" (defScope s_law) s.heap.objs.size f (.ref c))).units → X.A.units + 65 < cLine := fun X e => by rw [e]; have := hr.un; omega
    have hG : (A.deeper (envOfC "law" (defScope s_law) s.heap.objs.size f (.ref c))).guards = some [] := hG0
    have S0 := own_tabs hT hnT
    have hS0 := ex_l (ex_noT _) (sq_tabs hT hS)
    have tg0 : TabsG (cut H (tl TS fun _ => #[])) TS fun _ => #[] := TabsG.nil _ _
    generalize cut H (tl TS fun _ => #[]) = G0 at S0 hS0 tg0
    refine ⟨_, (pss_cons (ps_for PassesOwn.never rfl (pi_enum (by rfl) T.n_enumerate (pa_cons (pe_slice sl_list (pe_op op_catL (pv 0) (pe_lst (pa_cons pe_int pa_nil))) po_none (po_some pe_int)) pa_nil)) (pg_tup (n := 2) rfl (pgs_cons (pg_name (i := 1) sc_law.nd rfl (Or.inl rfl)) (pgs_cons (pg_name (i := 2) sc_law.nd rfl (Or.inl rfl)) pgs_nil))) (pss_one (ps_if (pt_not (pt_val (pe_calG c__law_right hG (hr.mono (by first | decide | omega)) pass0 (pa_cons (pe_cal c__law_well (hr.mono (by first | decide | omega)) passN (pa_cons (pv 2) (pa_cons (pv 1) pa_nil))) pa_nil)))) (pss_one (ps_ret pe_bl)) pss_nil)))
      (pss_cons (ps_if (pt_cmpR (op_neD (Nat.lt_of_succ_lt (hu65 _ rfl))) (pe_lamG (k := 8) L__law_outcome hG TB hmT huT (hr.mono (by first | decide | omega)) (fun A outer s H E f c' hr => (pe_calD c_reachable_1x (hr.mono (by first | decide | omega)) (passE (takes_of rfl rfl rfl rfl) fun _ _ _ _ z => z) (pa_cons (pe_new c_Network (hr.mono (by first | decide | omega)) passN (pa_cons pe_int (pa_cons (pe_lst pa_nil) pa_nil))) pa_nil))) (LamX.lamS_by (sc := defScope s_law) (by decide +kernel))) (pe_tup (pa_cons pe_str (pa_cons pe_int pa_nil))) (nomark _)) (pss_one (ps_ret pe_bl)) pss_nil)
      (pss_cons (ps_set (i := 3) sc_law.nd rfl (Or.inr rfl) (pe_new c_Network (hr.mono (by first | decide | omega)) passN (pa_cons pe_int (pa_cons (pe_lst pa_nil) pa_nil))))
      (pss_cons (ps_set (i := 4) sc_law.nd rfl (Or.inl rfl) (pe_lst (pa_cons (pe_lamG (k := 8) L__law_outcome hG TB hmT huT (hr.mono (by first | decide | omega)) (fun A outer s H E f c' hr => (pe_calD c_reachable_1x (hr.mono (by first | decide | omega)) (passE (takes_of rfl rfl rfl rfl) fun _ _ _ _ z => z) (pa_cons (pv 3) pa_nil))) (LamX.lamS_by (sc := defScope s_law) (by decide +kernel))) (pa_cons (pe_lamGP (y0 := "_law_of") (k := 8) L__law_outcome hG TB hmT huT (hr.mono (by first | decide | omega)) (fun A outer s H E f c' hr => (pe_calD c_greatest_reached_1x (hr.mono (by first | decide | omega)) (passE (takes_of rfl rfl rfl rfl) fun _ _ _ _ z => z) (pa_cons (pv 3) pa_nil))) (lamP_by (sc := defScope s_law) (N := ["_law_script", "_law_turn", "_law_cell", "_law_wide", "_law_found"]) (by decide +kernel)) pe_int rfl rfl (fun _ _ _ _ _ _ _ _ _ h => BindsTo.of_defaults rfl h rfl rfl rfl)) pa_nil))))
      (pss_cons (ps_expr (pe_bm PySem.F.plainAttrs_list PySem.F.slot_list_append PySem.F.type_list_append mt_append (pv 4) (pa_cons (pe_lamG (k := 8) L__law_outcome hG TB hmT huT (hr.mono (by first | decide | omega)) (fun A outer s H E f c' hr => (pe_calD c_fewest_3x (hr.mono (by first | decide | omega)) (passE (takes_of rfl rfl rfl rfl) fun _ _ _ _ z => z) (pa_cons (pv 3) (pa_cons pe_int (pa_cons pe_int pa_nil))))) (LamX.lamS_by (sc := defScope s_law) (by decide +kernel))) pa_nil)))
      (pss_cons (ps_if (pt_cmpR (op_neD (Nat.lt_of_succ_lt (hu65 _ rfl))) (pv 4) (pe_op op_rep (pe_lst (pa_cons (pe_tup (pa_cons pe_str (pa_cons pe_int pa_nil))) pa_nil)) pe_int) (nomark _)) (pss_one (ps_ret pe_bl)) pss_nil)
      (pss_one (ps_ret (pe_and (pe_cmpR (op_eqD (Nat.lt_of_succ_lt (hu65 _ rfl))) (pe_calD c_greatest_reached_1 (hr.mono (by first | decide | omega)) passN (pa_cons (pe_new c_Network (hr.mono (by first | decide | omega)) passN (pa_cons pe_int (pa_cons (pe_lst pa_nil) pa_nil))) pa_nil)) (pe_op op_rep1 (pe_tup (pa_cons pe_int pa_nil)) pe_int) (nomark _)) (pe_one (pe_cmpR (op_eqD (Nat.lt_of_succ_lt (hu65 _ rfl))) (pe_calD c_fewest_3 (hr.mono (by first | decide | omega)) passN (pa_cons (pe_new c_Network (hr.mono (by first | decide | omega)) passN (pa_cons pe_int (pa_cons (pe_lst pa_nil) pa_nil))) (pa_cons pe_int (pa_cons pe_int pa_nil)))) (pe_tup (pa_cons pe_str (pa_cons (pe_lst (pa_cons pe_int pa_nil)) pa_nil))) (nomark _)))))))))))), ?_⟩
    walk_at "go"
    refine n_lstG S0 (by show 1 ≤ 10000000; decide) fun p G1 H1 _ e1 _ hp S1 => ?_
    walk_at "go"
    refine n_catG S1 (S1.sl (ex_l e1 hS0)) (SqL.of (S1.ex _ _ hp)) (by rw [List.length_map]; simp; omega) fun q2 G2 H2 _ e2 _ hq S2 => ?_
    walk_at "go"
    refine n_sl S2 (SqL.of (S2.ex _ _ hq)) fun t G3 H3 _ e3 _ ht S3 => ?_
    have hc : cutV (ns.map V.int ++ [.int 0]) none (some ((6 : Nat) : Int)) = ((ns ++ [0]).take 6).map V.int := by
      rw [cutV_to, List.map_take, List.map_append] <;> rfl
    have ht : G3 t = some (.lst (((ns ++ [0]).take 6).map V.int)) := ht.trans (by rw [← hc] <;> rfl)
    walk_at "go"
    refine w_enum (fun i σ' H' => (∃ x y z u, σ' = [some (.ref a), x, y, z, u]) ∧ ∃ G' ft, Own G' (tl TS ft) H' ∧ TabsG G' TS ft ∧ G' t = some (.lst (((ns ++ [0]).take 6).map V.int))) (SqL.of (S3.ex _ _ ht)) ⟨⟨_, _, _, _, rfl⟩, G3, _, S3, ((tg0.mono e1).mono e2).mono e3, ht⟩ (fun i σ' H' ⟨_, G', ft, S, _, ht'⟩ => SqL.of (S.ex _ _ ht')) ?_ ?_
    · rintro i x T' σ' H' hx ⟨⟨x0, y0, z0, u0, rfl⟩, G', ft, S, tg, ht'⟩ hT
      obtain ⟨z, _, rfl⟩ := get_map hx
      have S4 := S.grow (Ex.new (o := .tup [.int (i : Int), .int z]) hT)
      refine s_gtup (SqT.of upd_same) rfl ?_
      walk_at "go"
      refine ⟨_, _, rfl, fun a5 b5 c5 => n_retO S4 rfl fun W H5 hW e5 S5 => ?_⟩
      walk_at "go"
      refine ⟨W, _, _, _, G', ft, rfl, S5, tg, fun H6 G6 f6 e6 S6 tg6 => ?_⟩
      walk_at "go"
      exact ⟨⟨_, _, _, _, rfl⟩, G6, f6, S6, tg6, (of_noT (e6 _ _ (noT_of ht' fun qs z => by cases z))).1⟩
    · rintro σ' H' ⟨⟨x, y, z, u, rfl⟩, G', ft, S, tg, ht'⟩
      obtain ⟨B60, hB60, hl60, _⟩ := vec_bfs 60
      obtain ⟨B10, hB10, hl10, _⟩ := vec_bfs 10
      obtain ⟨B9, hB9, hl9, hp9⟩ := vec_bfs 9
      have hl60 : 1000 < B60.length := by rw [hl60]; decide
      have hl10 : 1000 < B10.length := by rw [hl10]; decide
      have hl9 : B9.length ≤ 1000 := by rw [hl9]; decide
      walk_at "go"
      refine n_lamN (L := []) S tg (fun p hp => nomatch hp) fun G5 H5 f5 e5 S5 tg5 => ?_
      intro E1 Q1 hE1 _
      walk_at "go"
      refine n_lst S5 (by decide) fun p6 H6 _ S6 => ?_
      walk_at "go"
      refine n_net (n := 60) (ps := []) S6 S6.get0 .nil (fun q hq => nomatch hq) (by simp) (by decide) (by decide) fun x7 G7 H7 _ e7 _ S7 N7 => ?_
      walk_at "go"
      refine ⟨x7, 60, sortP [], 1000, B60, rfl, N7.mono S7.ex, hB60, .inr (by decide), fun h => absurd h (by omega), fun _ => fun d H8 e8 hd => hE1 _ _ _ (out_many KT hd (n_retG (S7.grow e8) fun p9 G9 H9 _ e9 _ hp9 S9 => ?_))⟩
      walk_at "go"
      refine n_tup S9 (by show 2 ≤ 10000000; decide) fun p10 G10 H10 _ e10 _ hp10 S10 => ?_
      refine n_neWI (w := "many") (i := 1000) (by decide +kernel) (S10.ex _ _ (e10 _ _ hp9)) (S10.ex _ _ hp10) ?_
      walk_at "go"
      refine n_lst S10 (by decide) fun p11 H11 _ S11 => ?_
      walk_at "go"
      refine n_net (n := 10) (ps := []) S11 S11.get0 .nil (fun q hq => nomatch hq) (by simp) (by decide) (by decide) fun xw G12 H12 _ e12 _ S12 N12 => ?_
      have tg12 : TabsG G12 TS f5 := ((tg5.mono e7).mono e9).mono (e10.trans e12)
      walk_at "go"
      refine n_lamN (L := [(p11, .lst []), (p6, .lst [])]) S12 tg12 lst2 fun G13 H13 f13 e13 S13 tg13 => ?_
      intro E2 Q2 hE2 _
      walk_at "go"
      refine ⟨xw, 10, sortP [], 1000, B10, rfl, N12.noT.mono (e13.trans S13.ex), hB10, .inr (by decide), fun h => absurd h (by omega), fun _ => fun d H14 e14 hd => hE2 _ _ _ (out_many KT hd (n_retG (S13.grow e14) fun p15 G15 H15 _ e15 _ hp15 S15 => ?_))⟩
      walk_at "go"
      have w15 : WI G15 p15 "many" 1000 := hp15
      have c15 : Ex (noT G12) G15 := e13.trans e15
      refine n_lamN (L := [(p11, .lst []), (p6, .lst [])]) S15 (tg13.mono e15) lst2 fun G16 H16 f16 e16 S16 tg16 => ?_
      intro E3 Q3 hE3 _
      walk_at "go"
      have c16 := ex_step c15 e16
      refine ⟨xw, 10, sortP [], 1000, B10, rfl, N12.noT.mono (c16.trans S16.ex), hB10, .inr (by decide), fun h => absurd h (by omega), fun _ => fun d H17 e17 hd => hE3 _ _ _ (out_many KT hd (n_retG (S16.grow e17) fun p18 G18 H18 _ e18 _ hp18 S18 => ?_))⟩
      walk_at "go"
      have w18 : WI G18 p18 "many" 1000 := hp18
      have w15' := (w15.lam e16).mono e18
      have c18 := c16.trans e18
      refine n_lst S18 (by show 2 ≤ 10000000; decide) fun pl Hl _ Sl => ?_
      walk_at "go"
      refine ⟨tyL Sl.l0, ?_⟩
      walk_at "go"
      refine n_lamN (L := [(pl, .lst [.ref p15, .ref p18]), (p11, .lst []), (p6, .lst [])]) Sl (tg16.mono e18) (lstA lst2) fun G19 H19 f19 e19 S19 tg19 => ?_
      intro E4 Q4 hE4 _
      walk_at "go"
      have c19 := ex_step c18 e19
      refine ⟨xw, 10, sortP [], .int 3, .int 1, 1000, rfl, N12.noT.mono (c19.trans S19.ex), .inr (.inr ⟨3, 1, B10, rfl, by decide, rfl, by decide, hB10, .inr (by decide), fun _ => fun d H20 e20 hd => hE4 _ _ _ (out_many KT hd (n_retG (S19.grow e20) fun p21 G21 H21 _ e21 _ hp21 S21 => ?_)), fun h => absurd h (by omega)⟩)⟩
      walk_at "go"
      have w21 : WI G21 p21 "many" 1000 := hp21
      have w15'' := (w15'.lam e19).mono e21
      have w18' := (w18.lam e19).mono e21
      refine n_app S21 (by show 2 ≤ 1000000; decide) fun Ha Sa => ?_
      walk_at "go"
      refine n_tup Sa (by show 2 ≤ 10000000; decide) fun p22 G22 H22 _ e22 _ hp22 S22 => ?_
      walk_at "go"
      refine n_lstG S22 (by show 1 ≤ 10000000; decide) fun p23 G23 H23 _ e23 _ hp23 S23 => ?_
      walk_at "go"
      refine n_repV S23 (m := 3) (S23.ex _ _ hp23) (by decide) fun p24 G24 H24 e24 hp24 S24 => ?_
      have e2124 := e22.trans (e23.trans e24)
      refine n_neWI3 (w := "many") (i := 1000) (by decide +kernel) (SqL.of S24.get0) (SqL.of (S24.ex _ _ hp24)) (w15''.mono (e2124.trans S24.ex)) (w18'.mono (e2124.trans S24.ex)) (w21.mono (e2124.trans S24.ex)) (S24.ex _ _ (e24 _ _ (e23 _ _ hp22))) ?_
      walk_at "go"
      refine n_lst S24 (by decide) fun p25 H25 _ S25 => ?_
      walk_at "go"
      refine n_net (n := 9) (ps := []) S25 S25.get0 .nil (fun q hq => nomatch hq) (by simp) (by decide) (by decide) fun x26 G26 H26 _ e26 _ S26 N26 => ?_
      walk_at "go"
      refine ⟨x26, 9, sortP [], 1000, B9, rfl, N26.mono S26.ex, hB9, .inr (by decide), fun _ g hg => n_retG S26 fun p27 G27 H27 _ e27 _ hp27 S27 => ?_, fun h => absurd h (by omega)⟩
      rw [gr9 hB9 hg] at hp27
      walk_at "go"
      refine n_tup S27 (by show 1 ≤ 10000000; decide) fun p28 G28 H28 _ e28 _ hp28 S28 => ?_
      walk_at "go"
      refine n_rep1 (n := 9) S28 hp28 (by decide) (by decide) fun p29 G29 H29 e29 _ hp29 S29 => ?_
      refine n_eqIT (ns := List.replicate 9 1) (ms := List.replicate 9 1) (SqT.of (S29.ex _ _ (e29 _ _ (e28 _ _ hp27)))) (SqT.of (S29.ex _ _ hp29)) ?_
      rw [dtrue rfl]
      refine ⟨true, rfl, ?_⟩
      rw [if_pos rfl]
      walk_at "go"
      refine n_lst S29 (by decide) fun p30 H30 _ S30 => ?_
      walk_at "go"
      refine n_net (n := 9) (ps := []) S30 S30.get0 .nil (fun q hq => nomatch hq) (by simp) (by decide) (by decide) fun x31 G31 H31 _ e31 _ S31 N31 => ?_
      walk_at "go"
      refine ⟨x31, 9, sortP [], .int 3, .int 1, 1000, rfl, N31.mono S31.ex, .inr (.inr ⟨3, 1, B9, rfl, by decide, rfl, by decide, hB9, .inr (by decide), fun h => absurd h (by omega), fun _ p32 q32 wrd xs H32 _ _ _ e32 hp32 hq32 hf => ?_⟩)⟩
      obtain ⟨rfl, rfl⟩ : wrd = "steps" ∧ xs = [.int 3] := by
        rcases hf with ⟨z, _⟩ | ⟨e, r, is, z, hw, hpt, hx⟩
        · exact absurd z (sel9 hB9)
        · refine ⟨hw, ?_⟩
          rw [hx, few9 hB9 z hpt] <;> rfl
      walk_at "go"
      refine n_lst (Own.start H32) (by show 1 ≤ 10000000; decide) fun p33 H33 _ S33 => ?_
      walk_at "go"
      refine n_tup S33 (by show 2 ≤ 10000000; decide) fun p34 G34 H34 _ e34 _ hp34 S34 => ?_
      refine n_eqSL (by decide +kernel) (S34.ex _ _ (e34 _ _ hp32)) (S34.ex _ _ hp34) (SqL.of (S34.ex _ _ (e34 _ _ hq32))) (SqL.of S34.get0) ?_
      exact k _
end
end NX

namespace NX
open PySem PySem.Spec PyProof.Rows L2
section
variable {P : Program} {w : World} {K : PySem.W.Frag} {mg : Str → Option Value} {base : Heap}
theorem mkCal {x : Str} {f : Addr} {fd : FuncData} {k : Nat} {ps : List Str} {sp : Sp} (F : FnOk P w K mg base (L2.CX P w) k f fd ps sp) (g : mg x = some (.ref f)) (kp : PySem.W.keepIn K (.ref f) = true) (b : Binds K fd ps []) : Cal P w K mg base k x ps [] sp := ⟨f, fd, [], F, g, kp, b, .nil⟩
/-- how a plain def binds keywords -/
theorem fun_kbn {x qual : Str} {st : Stmt} {f : Addr} {fd : FuncData} {ps ks : List Str} {n : Nat} {g : List Value → List Value → List Value} {gV : List V → List V → List V} (F : Fun K x qual st f fd)
    (hrel : ∀ {vs : List V} {us : List Value} {zs : List V} {ws : List Value}, Vals vs us → Vals zs ws → Vals (gV vs zs) (g us ws))
    (h : ∀ (kV doc pm : Value) (an : Option Addr) (cdv ct : Value) (us ws : List Value), us.length = n → ws.length = ks.length → bindArgs (PySem.W.fnOf x qual (defArgs st) (defBody st) (defScope st) .none kV doc pm an cdv ct) ⟨us, ks.zip ws⟩ = pure (ps.zip (g us ws))) : KBn K fd ps n ks g gV := by
  obtain ⟨oc, od, kV, doc, pm, an, cdv, ct, osl, rfl, lk, hcd⟩ := F.ex
  exact ⟨fun s us ws _ h1 h2 => .of_eq (h kV doc pm an cdv ct us ws h1 h2), hrel⟩
theorem mkCalK {x : Str} {f : Addr} {fd : FuncData} {k n : Nat} {ps ks : List Str} {g : List Value → List Value → List Value} {gV : List V → List V → List V} {sp : Sp} (F : FnOk P w K mg base (L2.CX P w) k f fd ps sp) (hm : mg x = some (.ref f)) (kp : PySem.W.keepIn K (.ref f) = true) (b : KBn K fd ps n ks g gV) :
    CalK P w K mg base k x ps n ks gV sp := ⟨f, fd, g, F, hm, kp, b⟩
theorem walk {l : PySem.W.OpenLaw} {q : Program} {loose : List Str} {XP : (Str → Option Value) → Heap → Prop} {YP : World → Heap → Prop} {d : DefRec} {K : Params → PySem.W.Frag} {k : Nat} (hn : l.most = some 63) (hdf : d.params.defaults = []) (hr : Room k callerA)
    (hY : ∀ (w : World) (h : Heap), YP w h → (K w.params).In h) {sp : PySem.W.Frag → Sp}
    (F : ∀ (w : World) (mg : Str → Option Value) (fa : Addr) (h : Heap), (K w.params).In h → h.Ns mainGlobals mg → mg d.name = some (.ref fa) →
      ∃ fd : FuncData, (∀ (s : Shared) (u : Value), BindsTo s fd ⟨[u], []⟩ [("_law_script", u)]) ∧ ∀ base : Heap, (K w.params).In base → base.Ns mainGlobals mg → FnOk l.prog w (K w.params) mg base CX0 k fa fd ["_law_script"] (sp (K w.params)))
    (hsp : ∀ (K : PySem.W.Frag) (H : Hp) (a : Addr) (ns : List Int), ns.length ≤ 63 → SqL K H a (ns.map V.int) → sp K [.ref a] H (fun v _ => v = .bl true) fun _ _ _ => False) :
    PySem.W.WalkO q loose XP YP l.row.toRowW d [] (fun f vs => PySem.call f vs) :=
  L2.walk_of (n := 63) (k := k) (x := "_law_script") (CX := fun _ => CX0) (sp := fun w => sp (K w.params)) hn (by decide) hdf hr hY F (fun w _ a ns hl _ hS => hsp (K w.params) _ a ns hl hS) fun _ _ _ _ _ z => z
end
end NX


namespace NX
open PySem PySem.Spec PyProof.Rows L2
open LamX (TabB)
theorem all_mk {l : PySem.W.OpenLaw} {w : World} {K : PySem.W.Frag} {h : Heap} {mg : Str → Option Value} {fa f_is_int f_is_link f_check_state f_all_off f_after f_first_steps f_check_wanted f_check_never f_chain f_greatest_channels f_others f_to_three f_to_four f_beside_two f_to_five f_schedule_low f__law_well f__law_take f__law_mixed f__law_links f__law_outcome f__law_outcomes f__law_right f_law f_fewest D_fewest f_reachable D_reachable f_greatest_reached D_greatest_reached C f_M_init f_M_len f_M_neighbours f_M_check_station C0 C_NoStation f_I_NoStation C_NoChannel f_I_NoChannel C_TooMany f_I_TooMany C_NoClosedSet f_I_NoClosedSet C_NoState f_I_NoState C_NoLink C_NoNames C_NoNetwork cA__law_outcomes Pt__law_outcomes cA__law_right Pt__law_right cA_law Pt_law : Addr} (X : K.In h) (G : h.Ns mainGlobals mg) (hfa : mg "law" = some (.ref fa))
    {od_is_int an_is_int od_is_link an_is_link od_check_state an_check_state od_all_off an_all_off od_after an_after od_first_steps an_first_steps od_check_wanted an_check_wanted od_check_never an_check_never od_chain an_chain od_greatest_channels an_greatest_channels od_others an_others od_to_three an_to_three od_to_four an_to_four od_beside_two an_beside_two od_to_five an_to_five od_schedule_low an_schedule_low od__law_well an__law_well od__law_take an__law_take od__law_mixed an__law_mixed od__law_links an__law_links od__law_outcome an__law_outcome od__law_outcomes an__law_outcomes od__law_right an__law_right od_law an_law od_fewest an_fewest od_reachable an_reachable od_greatest_reached an_greatest_reached od_M_init an_M_init od_M_len an_M_len od_M_neighbours an_M_neighbours od_M_check_station an_M_check_station od_I_NoStation an_I_NoStation od_I_NoChannel an_I_NoChannel od_I_TooMany an_I_TooMany od_I_NoClosedSet an_I_NoClosedSet od_I_NoState an_I_NoState : Option Addr} {sl_is_int sl_is_link sl_check_state sl_all_off sl_after sl_first_steps sl_check_wanted sl_check_never sl_chain sl_greatest_channels sl_others sl_to_three sl_to_four sl_beside_two sl_to_five sl_schedule_low sl__law_well sl__law_take sl__law_mixed sl__law_links sl__law_outcome sl__law_outcomes sl__law_right sl_law sl_fewest sl_reachable sl_greatest_reached sl_M_init sl_M_len sl_M_neighbours sl_M_check_station sl_I_NoStation sl_I_NoChannel sl_I_TooMany sl_I_NoClosedSet sl_I_NoState : Array (Option Value)} {oc_is_int dc_is_int pm_is_int cd_is_int ct_is_int kV_is_int oc_is_link dc_is_link pm_is_link cd_is_link ct_is_link kV_is_link oc_check_state dc_check_state pm_check_state cd_check_state ct_check_state kV_check_state oc_all_off dc_all_off pm_all_off cd_all_off ct_all_off kV_all_off oc_after dc_after pm_after cd_after ct_after kV_after oc_first_steps dc_first_steps pm_first_steps cd_first_steps ct_first_steps kV_first_steps oc_check_wanted dc_check_wanted pm_check_wanted cd_check_wanted ct_check_wanted kV_check_wanted oc_check_never dc_check_never pm_check_never cd_check_never ct_check_never kV_check_never oc_chain dc_chain pm_chain cd_chain ct_chain kV_chain oc_greatest_channels dc_greatest_channels pm_greatest_channels cd_greatest_channels ct_greatest_channels kV_greatest_channels oc_others dc_others pm_others cd_others ct_others kV_others oc_to_three dc_to_three pm_to_three cd_to_three ct_to_three kV_to_three oc_to_four dc_to_four pm_to_four cd_to_four ct_to_four kV_to_four oc_beside_two dc_beside_two pm_beside_two cd_beside_two ct_beside_two kV_beside_two oc_to_five dc_to_five pm_to_five cd_to_five ct_to_five kV_to_five oc_schedule_low dc_schedule_low pm_schedule_low cd_schedule_low ct_schedule_low kV_schedule_low oc__law_well dc__law_well pm__law_well cd__law_well ct__law_well kV__law_well oc__law_take dc__law_take pm__law_take cd__law_take ct__law_take kV__law_take oc__law_mixed dc__law_mixed pm__law_mixed cd__law_mixed ct__law_mixed kV__law_mixed oc__law_links dc__law_links pm__law_links cd__law_links ct__law_links kV__law_links oc__law_outcome dc__law_outcome pm__law_outcome cd__law_outcome ct__law_outcome kV__law_outcome oc__law_outcomes dc__law_outcomes pm__law_outcomes cd__law_outcomes ct__law_outcomes kV__law_outcomes oc__law_right dc__law_right pm__law_right cd__law_right ct__law_right kV__law_right oc_law dc_law pm_law cd_law ct_law kV_law oc_fewest dc_fewest pm_fewest cd_fewest ct_fewest oc_reachable dc_reachable pm_reachable cd_reachable ct_reachable oc_greatest_reached dc_greatest_reached pm_greatest_reached cd_greatest_reached ct_greatest_reached oc_M_init dc_M_init pm_M_init cd_M_init ct_M_init kV_M_init oc_M_len dc_M_len pm_M_len cd_M_len ct_M_len kV_M_len oc_M_neighbours dc_M_neighbours pm_M_neighbours cd_M_neighbours ct_M_neighbours kV_M_neighbours oc_M_check_station dc_M_check_station pm_M_check_station cd_M_check_station ct_M_check_station kV_M_check_station oc_I_NoStation dc_I_NoStation pm_I_NoStation cd_I_NoStation ct_I_NoStation kV_I_NoStation oc_I_NoChannel dc_I_NoChannel pm_I_NoChannel cd_I_NoChannel ct_I_NoChannel kV_I_NoChannel oc_I_TooMany dc_I_TooMany pm_I_TooMany cd_I_TooMany ct_I_TooMany kV_I_TooMany oc_I_NoClosedSet dc_I_NoClosedSet pm_I_NoClosedSet cd_I_NoClosedSet ct_I_NoClosedSet kV_I_NoClosedSet oc_I_NoState dc_I_NoState pm_I_NoState cd_I_NoState ct_I_NoState kV_I_NoState : Value} {t_MAX_STATIONS t_MOST_LOW td_fewest_most td_reachable_most td_greatest_reached_most : Tok} {nm_NoStation q_NoStation : Str} {N_NoStation : Addr} {bs_NoStation sub_NoStation : List Value} {sn_NoStation : List Str} {ab_NoStation : Bool} {col_NoStation : Option Bool} {dd_NoStation : Option Addr} {m0_NoStation m1_NoStation m2_NoStation m3_NoStation m5_NoStation : Option Value} {nm_NoChannel q_NoChannel : Str} {N_NoChannel : Addr} {bs_NoChannel sub_NoChannel : List Value} {sn_NoChannel : List Str} {ab_NoChannel : Bool} {col_NoChannel : Option Bool} {dd_NoChannel : Option Addr} {m0_NoChannel m1_NoChannel m2_NoChannel m3_NoChannel m5_NoChannel : Option Value} {nm_TooMany q_TooMany : Str} {N_TooMany : Addr} {bs_TooMany sub_TooMany : List Value} {sn_TooMany : List Str} {ab_TooMany : Bool} {col_TooMany : Option Bool} {dd_TooMany : Option Addr} {m0_TooMany m1_TooMany m2_TooMany m3_TooMany m5_TooMany : Option Value} {nm_NoClosedSet q_NoClosedSet : Str} {N_NoClosedSet : Addr} {bs_NoClosedSet sub_NoClosedSet : List Value} {sn_NoClosedSet : List Str} {ab_NoClosedSet : Bool} {col_NoClosedSet : Option Bool} {dd_NoClosedSet : Option Addr} {m0_NoClosedSet m1_NoClosedSet m2_NoClosedSet m3_NoClosedSet m5_NoClosedSet : Option Value} {nm_NoState q_NoState : Str} {N_NoState : Addr} {bs_NoState sub_NoState : List Value} {sn_NoState : List Str} {ab_NoState : Bool} {col_NoState : Option Bool} {dd_NoState : Option Addr} {m0_NoState m1_NoState m2_NoState m3_NoState m5_NoState : Option Value}
    (z_ValueError : PySem.W.nsIn K mainGlobals "ValueError" = some none)
    (z_all : PySem.W.nsIn K mainGlobals "all" = some none)
    (z_bool : PySem.W.nsIn K mainGlobals "bool" = some none)
    (z_enumerate : PySem.W.nsIn K mainGlobals "enumerate" = some none)
    (z_int : PySem.W.nsIn K mainGlobals "int" = some none)
    (z_isinstance : PySem.W.nsIn K mainGlobals "isinstance" = some none)
    (z_len : PySem.W.nsIn K mainGlobals "len" = some none)
    (z_list : PySem.W.nsIn K mainGlobals "list" = some none)
    (z_max : PySem.W.nsIn K mainGlobals "max" = some none)
    (z_min : PySem.W.nsIn K mainGlobals "min" = some none)
    (z_range : PySem.W.nsIn K mainGlobals "range" = some none)
    (z_repr : PySem.W.nsIn K mainGlobals "repr" = some none)
    (z_set : PySem.W.nsIn K mainGlobals "set" = some none)
    (z_sorted : PySem.W.nsIn K mainGlobals "sorted" = some none)
    (z_tuple : PySem.W.nsIn K mainGlobals "tuple" = some none)
    (v_MAX_STATIONS : PySem.W.nsIn K mainGlobals "MAX_STATIONS" = some (some (.int 60 t_MAX_STATIONS)))
    (v_MOST_LOW : PySem.W.nsIn K mainGlobals "MOST_LOW" = some (some (.int 5 t_MOST_LOW)))
    (a_is_int : PySem.W.nsIn K mainGlobals "is_int" = some (some (.ref f_is_int)))
    (l_is_int : K.lookup f_is_int = some ⟨oc_is_int, od_is_int, .func (PySem.W.fnOf "is_int" "is_int" (defArgs s_is_int) (defBody s_is_int) (defScope s_is_int) .none kV_is_int dc_is_int pm_is_int an_is_int cd_is_int ct_is_int), sl_is_int⟩)
    (c_is_int : PySem.W.codeIn K cd_is_int "is_int" = true)
    (k_is_int : PySem.W.keepIn K (.ref f_is_int) = true)
    (a_is_link : PySem.W.nsIn K mainGlobals "is_link" = some (some (.ref f_is_link)))
    (l_is_link : K.lookup f_is_link = some ⟨oc_is_link, od_is_link, .func (PySem.W.fnOf "is_link" "is_link" (defArgs s_is_link) (defBody s_is_link) (defScope s_is_link) .none kV_is_link dc_is_link pm_is_link an_is_link cd_is_link ct_is_link), sl_is_link⟩)
    (c_is_link : PySem.W.codeIn K cd_is_link "is_link" = true)
    (k_is_link : PySem.W.keepIn K (.ref f_is_link) = true)
    (a_check_state : PySem.W.nsIn K mainGlobals "check_state" = some (some (.ref f_check_state)))
    (l_check_state : K.lookup f_check_state = some ⟨oc_check_state, od_check_state, .func (PySem.W.fnOf "check_state" "check_state" (defArgs s_check_state) (defBody s_check_state) (defScope s_check_state) .none kV_check_state dc_check_state pm_check_state an_check_state cd_check_state ct_check_state), sl_check_state⟩)
    (c_check_state : PySem.W.codeIn K cd_check_state "check_state" = true)
    (k_check_state : PySem.W.keepIn K (.ref f_check_state) = true)
    (a_all_off : PySem.W.nsIn K mainGlobals "all_off" = some (some (.ref f_all_off)))
    (l_all_off : K.lookup f_all_off = some ⟨oc_all_off, od_all_off, .func (PySem.W.fnOf "all_off" "all_off" (defArgs s_all_off) (defBody s_all_off) (defScope s_all_off) .none kV_all_off dc_all_off pm_all_off an_all_off cd_all_off ct_all_off), sl_all_off⟩)
    (c_all_off : PySem.W.codeIn K cd_all_off "all_off" = true)
    (k_all_off : PySem.W.keepIn K (.ref f_all_off) = true)
    (a_after : PySem.W.nsIn K mainGlobals "after" = some (some (.ref f_after)))
    (l_after : K.lookup f_after = some ⟨oc_after, od_after, .func (PySem.W.fnOf "after" "after" (defArgs s_after) (defBody s_after) (defScope s_after) .none kV_after dc_after pm_after an_after cd_after ct_after), sl_after⟩)
    (c_after : PySem.W.codeIn K cd_after "after" = true)
    (k_after : PySem.W.keepIn K (.ref f_after) = true)
    (a_first_steps : PySem.W.nsIn K mainGlobals "first_steps" = some (some (.ref f_first_steps)))
    (l_first_steps : K.lookup f_first_steps = some ⟨oc_first_steps, od_first_steps, .func (PySem.W.fnOf "first_steps" "first_steps" (defArgs s_first_steps) (defBody s_first_steps) (defScope s_first_steps) .none kV_first_steps dc_first_steps pm_first_steps an_first_steps cd_first_steps ct_first_steps), sl_first_steps⟩)
    (c_first_steps : PySem.W.codeIn K cd_first_steps "first_steps" = true)
    (k_first_steps : PySem.W.keepIn K (.ref f_first_steps) = true)
    (a_check_wanted : PySem.W.nsIn K mainGlobals "check_wanted" = some (some (.ref f_check_wanted)))
    (l_check_wanted : K.lookup f_check_wanted = some ⟨oc_check_wanted, od_check_wanted, .func (PySem.W.fnOf "check_wanted" "check_wanted" (defArgs s_check_wanted) (defBody s_check_wanted) (defScope s_check_wanted) .none kV_check_wanted dc_check_wanted pm_check_wanted an_check_wanted cd_check_wanted ct_check_wanted), sl_check_wanted⟩)
    (c_check_wanted : PySem.W.codeIn K cd_check_wanted "check_wanted" = true)
    (k_check_wanted : PySem.W.keepIn K (.ref f_check_wanted) = true)
    (a_check_never : PySem.W.nsIn K mainGlobals "check_never" = some (some (.ref f_check_never)))
    (l_check_never : K.lookup f_check_never = some ⟨oc_check_never, od_check_never, .func (PySem.W.fnOf "check_never" "check_never" (defArgs s_check_never) (defBody s_check_never) (defScope s_check_never) .none kV_check_never dc_check_never pm_check_never an_check_never cd_check_never ct_check_never), sl_check_never⟩)
    (c_check_never : PySem.W.codeIn K cd_check_never "check_never" = true)
    (k_check_never : PySem.W.keepIn K (.ref f_check_never) = true)
    (a_chain : PySem.W.nsIn K mainGlobals "chain" = some (some (.ref f_chain)))
    (l_chain : K.lookup f_chain = some ⟨oc_chain, od_chain, .func (PySem.W.fnOf "chain" "chain" (defArgs s_chain) (defBody s_chain) (defScope s_chain) .none kV_chain dc_chain pm_chain an_chain cd_chain ct_chain), sl_chain⟩)
    (c_chain : PySem.W.codeIn K cd_chain "chain" = true)
    (k_chain : PySem.W.keepIn K (.ref f_chain) = true)
    (a_greatest_channels : PySem.W.nsIn K mainGlobals "greatest_channels" = some (some (.ref f_greatest_channels)))
    (l_greatest_channels : K.lookup f_greatest_channels = some ⟨oc_greatest_channels, od_greatest_channels, .func (PySem.W.fnOf "greatest_channels" "greatest_channels" (defArgs s_greatest_channels) (defBody s_greatest_channels) (defScope s_greatest_channels) .none kV_greatest_channels dc_greatest_channels pm_greatest_channels an_greatest_channels cd_greatest_channels ct_greatest_channels), sl_greatest_channels⟩)
    (c_greatest_channels : PySem.W.codeIn K cd_greatest_channels "greatest_channels" = true)
    (k_greatest_channels : PySem.W.keepIn K (.ref f_greatest_channels) = true)
    (a_others : PySem.W.nsIn K mainGlobals "others" = some (some (.ref f_others)))
    (l_others : K.lookup f_others = some ⟨oc_others, od_others, .func (PySem.W.fnOf "others" "others" (defArgs s_others) (defBody s_others) (defScope s_others) .none kV_others dc_others pm_others an_others cd_others ct_others), sl_others⟩)
    (c_others : PySem.W.codeIn K cd_others "others" = true)
    (k_others : PySem.W.keepIn K (.ref f_others) = true)
    (a_to_three : PySem.W.nsIn K mainGlobals "to_three" = some (some (.ref f_to_three)))
    (l_to_three : K.lookup f_to_three = some ⟨oc_to_three, od_to_three, .func (PySem.W.fnOf "to_three" "to_three" (defArgs s_to_three) (defBody s_to_three) (defScope s_to_three) .none kV_to_three dc_to_three pm_to_three an_to_three cd_to_three ct_to_three), sl_to_three⟩)
    (c_to_three : PySem.W.codeIn K cd_to_three "to_three" = true)
    (k_to_three : PySem.W.keepIn K (.ref f_to_three) = true)
    (a_to_four : PySem.W.nsIn K mainGlobals "to_four" = some (some (.ref f_to_four)))
    (l_to_four : K.lookup f_to_four = some ⟨oc_to_four, od_to_four, .func (PySem.W.fnOf "to_four" "to_four" (defArgs s_to_four) (defBody s_to_four) (defScope s_to_four) .none kV_to_four dc_to_four pm_to_four an_to_four cd_to_four ct_to_four), sl_to_four⟩)
    (c_to_four : PySem.W.codeIn K cd_to_four "to_four" = true)
    (k_to_four : PySem.W.keepIn K (.ref f_to_four) = true)
    (a_beside_two : PySem.W.nsIn K mainGlobals "beside_two" = some (some (.ref f_beside_two)))
    (l_beside_two : K.lookup f_beside_two = some ⟨oc_beside_two, od_beside_two, .func (PySem.W.fnOf "beside_two" "beside_two" (defArgs s_beside_two) (defBody s_beside_two) (defScope s_beside_two) .none kV_beside_two dc_beside_two pm_beside_two an_beside_two cd_beside_two ct_beside_two), sl_beside_two⟩)
    (c_beside_two : PySem.W.codeIn K cd_beside_two "beside_two" = true)
    (k_beside_two : PySem.W.keepIn K (.ref f_beside_two) = true)
    (a_to_five : PySem.W.nsIn K mainGlobals "to_five" = some (some (.ref f_to_five)))
    (l_to_five : K.lookup f_to_five = some ⟨oc_to_five, od_to_five, .func (PySem.W.fnOf "to_five" "to_five" (defArgs s_to_five) (defBody s_to_five) (defScope s_to_five) .none kV_to_five dc_to_five pm_to_five an_to_five cd_to_five ct_to_five), sl_to_five⟩)
    (c_to_five : PySem.W.codeIn K cd_to_five "to_five" = true)
    (k_to_five : PySem.W.keepIn K (.ref f_to_five) = true)
    (a_schedule_low : PySem.W.nsIn K mainGlobals "schedule_low" = some (some (.ref f_schedule_low)))
    (l_schedule_low : K.lookup f_schedule_low = some ⟨oc_schedule_low, od_schedule_low, .func (PySem.W.fnOf "schedule_low" "schedule_low" (defArgs s_schedule_low) (defBody s_schedule_low) (defScope s_schedule_low) .none kV_schedule_low dc_schedule_low pm_schedule_low an_schedule_low cd_schedule_low ct_schedule_low), sl_schedule_low⟩)
    (c_schedule_low : PySem.W.codeIn K cd_schedule_low "schedule_low" = true)
    (k_schedule_low : PySem.W.keepIn K (.ref f_schedule_low) = true)
    (a__law_well : PySem.W.nsIn K mainGlobals "_law_well" = some (some (.ref f__law_well)))
    (l__law_well : K.lookup f__law_well = some ⟨oc__law_well, od__law_well, .func (PySem.W.fnOf "_law_well" "_law_well" (defArgs s__law_well) (defBody s__law_well) (defScope s__law_well) .none kV__law_well dc__law_well pm__law_well an__law_well cd__law_well ct__law_well), sl__law_well⟩)
    (c__law_well : PySem.W.codeIn K cd__law_well "_law_well" = true)
    (k__law_well : PySem.W.keepIn K (.ref f__law_well) = true)
    (a__law_take : PySem.W.nsIn K mainGlobals "_law_take" = some (some (.ref f__law_take)))
    (l__law_take : K.lookup f__law_take = some ⟨oc__law_take, od__law_take, .func (PySem.W.fnOf "_law_take" "_law_take" (defArgs s__law_take) (defBody s__law_take) (defScope s__law_take) .none kV__law_take dc__law_take pm__law_take an__law_take cd__law_take ct__law_take), sl__law_take⟩)
    (c__law_take : PySem.W.codeIn K cd__law_take "_law_take" = true)
    (k__law_take : PySem.W.keepIn K (.ref f__law_take) = true)
    (a__law_mixed : PySem.W.nsIn K mainGlobals "_law_mixed" = some (some (.ref f__law_mixed)))
    (l__law_mixed : K.lookup f__law_mixed = some ⟨oc__law_mixed, od__law_mixed, .func (PySem.W.fnOf "_law_mixed" "_law_mixed" (defArgs s__law_mixed) (defBody s__law_mixed) (defScope s__law_mixed) .none kV__law_mixed dc__law_mixed pm__law_mixed an__law_mixed cd__law_mixed ct__law_mixed), sl__law_mixed⟩)
    (c__law_mixed : PySem.W.codeIn K cd__law_mixed "_law_mixed" = true)
    (k__law_mixed : PySem.W.keepIn K (.ref f__law_mixed) = true)
    (a__law_links : PySem.W.nsIn K mainGlobals "_law_links" = some (some (.ref f__law_links)))
    (l__law_links : K.lookup f__law_links = some ⟨oc__law_links, od__law_links, .func (PySem.W.fnOf "_law_links" "_law_links" (defArgs s__law_links) (defBody s__law_links) (defScope s__law_links) .none kV__law_links dc__law_links pm__law_links an__law_links cd__law_links ct__law_links), sl__law_links⟩)
    (c__law_links : PySem.W.codeIn K cd__law_links "_law_links" = true)
    (k__law_links : PySem.W.keepIn K (.ref f__law_links) = true)
    (a__law_outcome : PySem.W.nsIn K mainGlobals "_law_outcome" = some (some (.ref f__law_outcome)))
    (l__law_outcome : K.lookup f__law_outcome = some ⟨oc__law_outcome, od__law_outcome, .func (PySem.W.fnOf "_law_outcome" "_law_outcome" (defArgs s__law_outcome) (defBody s__law_outcome) (defScope s__law_outcome) .none kV__law_outcome dc__law_outcome pm__law_outcome an__law_outcome cd__law_outcome ct__law_outcome), sl__law_outcome⟩)
    (c__law_outcome : PySem.W.codeIn K cd__law_outcome "_law_outcome" = true)
    (k__law_outcome : PySem.W.keepIn K (.ref f__law_outcome) = true)
    (a__law_outcomes : PySem.W.nsIn K mainGlobals "_law_outcomes" = some (some (.ref f__law_outcomes)))
    (l__law_outcomes : K.lookup f__law_outcomes = some ⟨oc__law_outcomes, od__law_outcomes, .func (PySem.W.fnOf "_law_outcomes" "_law_outcomes" (defArgs s__law_outcomes) (defBody s__law_outcomes) (defScope s__law_outcomes) .none kV__law_outcomes dc__law_outcomes pm__law_outcomes an__law_outcomes cd__law_outcomes ct__law_outcomes), sl__law_outcomes⟩)
    (c__law_outcomes : PySem.W.codeIn K cd__law_outcomes "_law_outcomes" = true)
    (k__law_outcomes : PySem.W.keepIn K (.ref f__law_outcomes) = true)
    (a__law_right : PySem.W.nsIn K mainGlobals "_law_right" = some (some (.ref f__law_right)))
    (l__law_right : K.lookup f__law_right = some ⟨oc__law_right, od__law_right, .func (PySem.W.fnOf "_law_right" "_law_right" (defArgs s__law_right) (defBody s__law_right) (defScope s__law_right) .none kV__law_right dc__law_right pm__law_right an__law_right cd__law_right ct__law_right), sl__law_right⟩)
    (c__law_right : PySem.W.codeIn K cd__law_right "_law_right" = true)
    (k__law_right : PySem.W.keepIn K (.ref f__law_right) = true)
    (a_law : PySem.W.nsIn K mainGlobals "law" = some (some (.ref f_law)))
    (l_law : K.lookup f_law = some ⟨oc_law, od_law, .func (PySem.W.fnOf "law" "law" (defArgs s_law) (defBody s_law) (defScope s_law) .none kV_law dc_law pm_law an_law cd_law ct_law), sl_law⟩)
    (c_law : PySem.W.codeIn K cd_law "law" = true)
    (k_law : PySem.W.keepIn K (.ref f_law) = true)
    (a_fewest : PySem.W.nsIn K mainGlobals "fewest" = some (some (.ref f_fewest)))
    (l_fewest : K.lookup f_fewest = some ⟨oc_fewest, od_fewest, .func (PySem.W.fnOf "fewest" "fewest" (defArgs s_fewest) (defBody s_fewest) (defScope s_fewest) .none (.ref D_fewest) dc_fewest pm_fewest an_fewest cd_fewest ct_fewest), sl_fewest⟩)
    (c_fewest : PySem.W.codeIn K cd_fewest "fewest" = true)
    (k_fewest : PySem.W.keepIn K (.ref f_fewest) = true)
    (d_fewest_most : PySem.W.nsIn K D_fewest "most" = some (some (.int 1000 td_fewest_most)))
    (a_reachable : PySem.W.nsIn K mainGlobals "reachable" = some (some (.ref f_reachable)))
    (l_reachable : K.lookup f_reachable = some ⟨oc_reachable, od_reachable, .func (PySem.W.fnOf "reachable" "reachable" (defArgs s_reachable) (defBody s_reachable) (defScope s_reachable) .none (.ref D_reachable) dc_reachable pm_reachable an_reachable cd_reachable ct_reachable), sl_reachable⟩)
    (c_reachable : PySem.W.codeIn K cd_reachable "reachable" = true)
    (k_reachable : PySem.W.keepIn K (.ref f_reachable) = true)
    (d_reachable_most : PySem.W.nsIn K D_reachable "most" = some (some (.int 1000 td_reachable_most)))
    (a_greatest_reached : PySem.W.nsIn K mainGlobals "greatest_reached" = some (some (.ref f_greatest_reached)))
    (l_greatest_reached : K.lookup f_greatest_reached = some ⟨oc_greatest_reached, od_greatest_reached, .func (PySem.W.fnOf "greatest_reached" "greatest_reached" (defArgs s_greatest_reached) (defBody s_greatest_reached) (defScope s_greatest_reached) .none (.ref D_greatest_reached) dc_greatest_reached pm_greatest_reached an_greatest_reached cd_greatest_reached ct_greatest_reached), sl_greatest_reached⟩)
    (c_greatest_reached : PySem.W.codeIn K cd_greatest_reached "greatest_reached" = true)
    (k_greatest_reached : PySem.W.keepIn K (.ref f_greatest_reached) = true)
    (d_greatest_reached_most : PySem.W.nsIn K D_greatest_reached "most" = some (some (.int 1000 td_greatest_reached_most)))
    (aC : PySem.W.nsIn K mainGlobals "Network" = some (some (.ref C)))
    (a_M_init : PySem.W.findIn K (.ref C) "__init__" = some (some (.ref f_M_init)))
    (i_M_init : PySem.W.isFn K (.ref f_M_init) = true)
    (l_M_init : K.lookup f_M_init = some ⟨oc_M_init, od_M_init, .func (PySem.W.fnOf "__init__" "Network.__init__" (defArgs s_Network___init__) (defBody s_Network___init__) (defScope s_Network___init__) .none kV_M_init dc_M_init pm_M_init an_M_init cd_M_init ct_M_init), sl_M_init⟩)
    (c_M_init : PySem.W.codeIn K cd_M_init "Network.__init__" = true)
    (k_M_init : PySem.W.keepIn K (.ref f_M_init) = true)
    (a_M_len : PySem.W.findIn K (.ref C) "__len__" = some (some (.ref f_M_len)))
    (i_M_len : PySem.W.isFn K (.ref f_M_len) = true)
    (l_M_len : K.lookup f_M_len = some ⟨oc_M_len, od_M_len, .func (PySem.W.fnOf "__len__" "Network.__len__" (defArgs s_Network___len__) (defBody s_Network___len__) (defScope s_Network___len__) .none kV_M_len dc_M_len pm_M_len an_M_len cd_M_len ct_M_len), sl_M_len⟩)
    (c_M_len : PySem.W.codeIn K cd_M_len "Network.__len__" = true)
    (k_M_len : PySem.W.keepIn K (.ref f_M_len) = true)
    (a_M_neighbours : PySem.W.findIn K (.ref C) "neighbours" = some (some (.ref f_M_neighbours)))
    (i_M_neighbours : PySem.W.isFn K (.ref f_M_neighbours) = true)
    (l_M_neighbours : K.lookup f_M_neighbours = some ⟨oc_M_neighbours, od_M_neighbours, .func (PySem.W.fnOf "neighbours" "Network.neighbours" (defArgs s_Network_neighbours) (defBody s_Network_neighbours) (defScope s_Network_neighbours) .none kV_M_neighbours dc_M_neighbours pm_M_neighbours an_M_neighbours cd_M_neighbours ct_M_neighbours), sl_M_neighbours⟩)
    (c_M_neighbours : PySem.W.codeIn K cd_M_neighbours "Network.neighbours" = true)
    (k_M_neighbours : PySem.W.keepIn K (.ref f_M_neighbours) = true)
    (a_M_check_station : PySem.W.findIn K (.ref C) "check_station" = some (some (.ref f_M_check_station)))
    (i_M_check_station : PySem.W.isFn K (.ref f_M_check_station) = true)
    (l_M_check_station : K.lookup f_M_check_station = some ⟨oc_M_check_station, od_M_check_station, .func (PySem.W.fnOf "check_station" "Network.check_station" (defArgs s_Network_check_station) (defBody s_Network_check_station) (defScope s_Network_check_station) .none kV_M_check_station dc_M_check_station pm_M_check_station an_M_check_station cd_M_check_station ct_M_check_station), sl_M_check_station⟩)
    (c_M_check_station : PySem.W.codeIn K cd_M_check_station "Network.check_station" = true)
    (k_M_check_station : PySem.W.keepIn K (.ref f_M_check_station) = true)
    (pg : PySem.W.plainGet K C Str.empty = true)
    (hd : PySem.W.hasDictIn K C = true)
    (po : PySem.W.plainOver K C = true)
    (sa : PySem.W.findIn K (.ref C) "__setattr__" = some (some (.builtin "object.__setattr__")))
    (mk : PySem.W.makesIn K C = true)
    (kc : PySem.W.keepIn K (.ref C) = true)
    (nK : PySem.W.findIn K (.ref C) "kept" = some none)
    (nN : PySem.W.findIn K (.ref C) "near" = some none)
    (ha : PySem.W.findIn K (.ref C) "__class__" = some (some (.builtin "object.__class__")))
    (hn : PySem.W.specialIn K (.builtin "object.__class__") "__get__" = some (some (.builtin "getset_descriptor.__get__")))
    (ht : PySem.W.takesIn K (.builtin "object.__class__") = some true)
    (hm : PySem.W.mroIn K C (.type "object") = some true)
    (ne : PySem.W.findIn K (.ref C) "__ne__" = some (some (.builtin "object.__ne__")))
    (aB : PySem.W.nsIn K mainGlobals "ChannelError" = some (some (.ref C0)))
    (rdB : PySem.W.readsIn K C0 (.type "type") = true)
    (gaB : PySem.W.specialIn K (.ref C0) "__getattribute__" = some (some (.builtin "type.__getattribute__")))
    (vVB : PySem.W.findCls K (.ref C0) (.type "type") "__init__" = some (.val (.builtin "ValueError.__init__")))
    (aX_NoStation : PySem.W.nsIn K mainGlobals "NoStation" = some (some (.ref C_NoStation)))
    (xL_NoStation : K.lookup C_NoStation = some (excClassObj nm_NoStation q_NoStation C_NoStation N_NoStation bs_NoStation [.ref C0, .type "ValueError", .type "Exception", .type "BaseException", .type "object"] true sn_NoStation sub_NoStation ab_NoStation col_NoStation dd_NoStation m0_NoStation m1_NoStation m2_NoStation m3_NoStation m5_NoStation "ValueError.__new__"))
    (sa_NoStation : PySem.W.findIn K (.ref C_NoStation) "__setattr__" = some (some (.builtin "object.__setattr__")))
    (ga_NoStation : PySem.W.findIn K (.ref C_NoStation) "__getattribute__" = some (some (.builtin "BaseException.__getattribute__")))
    (gg_NoStation : PySem.W.findIn K (.ref C_NoStation) "__getattr__" = some none)
    (nf_NoStation : PySem.W.findIn K (.ref C_NoStation) "station" = some none)
    (aI_NoStation : PySem.W.findIn K (.ref C_NoStation) "__init__" = some (some (.ref f_I_NoStation)))
    (tI_NoStation : PySem.W.typeIn K (.ref f_I_NoStation) = some (.type "function"))
    (l_I_NoStation : K.lookup f_I_NoStation = some ⟨oc_I_NoStation, od_I_NoStation, .func (PySem.W.fnOf "__init__" "NoStation.__init__" (defArgs s_NoStation___init__) (defBody s_NoStation___init__) (defScope s_NoStation___init__) .none kV_I_NoStation dc_I_NoStation pm_I_NoStation an_I_NoStation cd_I_NoStation ct_I_NoStation), sl_I_NoStation⟩)
    (c_I_NoStation : PySem.W.codeIn K cd_I_NoStation "NoStation.__init__" = true)
    (k_I_NoStation : PySem.W.keepIn K (.ref f_I_NoStation) = true)
    (kC_NoStation : PySem.W.keepIn K (.ref C_NoStation) = true)
    (eC_NoStation : PySem.W.subIn K (.ref C_NoStation) (.type "BaseException") = some true)
    (tC_NoStation : PySem.W.typeIn K (.ref C_NoStation) = some (.type "type"))
    (hC_NoStation : PySem.W.hasDictIn K C_NoStation = true)
    (sC_NoStation : PySem.W.subIn K (.ref C_NoStation) (.ref C_NoStation) = some true)
    (aX_NoChannel : PySem.W.nsIn K mainGlobals "NoChannel" = some (some (.ref C_NoChannel)))
    (xL_NoChannel : K.lookup C_NoChannel = some (excClassObj nm_NoChannel q_NoChannel C_NoChannel N_NoChannel bs_NoChannel [.ref C0, .type "ValueError", .type "Exception", .type "BaseException", .type "object"] true sn_NoChannel sub_NoChannel ab_NoChannel col_NoChannel dd_NoChannel m0_NoChannel m1_NoChannel m2_NoChannel m3_NoChannel m5_NoChannel "ValueError.__new__"))
    (sa_NoChannel : PySem.W.findIn K (.ref C_NoChannel) "__setattr__" = some (some (.builtin "object.__setattr__")))
    (ga_NoChannel : PySem.W.findIn K (.ref C_NoChannel) "__getattribute__" = some (some (.builtin "BaseException.__getattribute__")))
    (gg_NoChannel : PySem.W.findIn K (.ref C_NoChannel) "__getattr__" = some none)
    (nf_NoChannel : PySem.W.findIn K (.ref C_NoChannel) "channel" = some none)
    (aI_NoChannel : PySem.W.findIn K (.ref C_NoChannel) "__init__" = some (some (.ref f_I_NoChannel)))
    (tI_NoChannel : PySem.W.typeIn K (.ref f_I_NoChannel) = some (.type "function"))
    (l_I_NoChannel : K.lookup f_I_NoChannel = some ⟨oc_I_NoChannel, od_I_NoChannel, .func (PySem.W.fnOf "__init__" "NoChannel.__init__" (defArgs s_NoChannel___init__) (defBody s_NoChannel___init__) (defScope s_NoChannel___init__) .none kV_I_NoChannel dc_I_NoChannel pm_I_NoChannel an_I_NoChannel cd_I_NoChannel ct_I_NoChannel), sl_I_NoChannel⟩)
    (c_I_NoChannel : PySem.W.codeIn K cd_I_NoChannel "NoChannel.__init__" = true)
    (k_I_NoChannel : PySem.W.keepIn K (.ref f_I_NoChannel) = true)
    (kC_NoChannel : PySem.W.keepIn K (.ref C_NoChannel) = true)
    (eC_NoChannel : PySem.W.subIn K (.ref C_NoChannel) (.type "BaseException") = some true)
    (tC_NoChannel : PySem.W.typeIn K (.ref C_NoChannel) = some (.type "type"))
    (hC_NoChannel : PySem.W.hasDictIn K C_NoChannel = true)
    (sC_NoChannel : PySem.W.subIn K (.ref C_NoChannel) (.ref C_NoChannel) = some true)
    (aX_TooMany : PySem.W.nsIn K mainGlobals "TooMany" = some (some (.ref C_TooMany)))
    (xL_TooMany : K.lookup C_TooMany = some (excClassObj nm_TooMany q_TooMany C_TooMany N_TooMany bs_TooMany [.ref C0, .type "ValueError", .type "Exception", .type "BaseException", .type "object"] true sn_TooMany sub_TooMany ab_TooMany col_TooMany dd_TooMany m0_TooMany m1_TooMany m2_TooMany m3_TooMany m5_TooMany "ValueError.__new__"))
    (sa_TooMany : PySem.W.findIn K (.ref C_TooMany) "__setattr__" = some (some (.builtin "object.__setattr__")))
    (ga_TooMany : PySem.W.findIn K (.ref C_TooMany) "__getattribute__" = some (some (.builtin "BaseException.__getattribute__")))
    (gg_TooMany : PySem.W.findIn K (.ref C_TooMany) "__getattr__" = some none)
    (nf_TooMany : PySem.W.findIn K (.ref C_TooMany) "most" = some none)
    (aI_TooMany : PySem.W.findIn K (.ref C_TooMany) "__init__" = some (some (.ref f_I_TooMany)))
    (tI_TooMany : PySem.W.typeIn K (.ref f_I_TooMany) = some (.type "function"))
    (l_I_TooMany : K.lookup f_I_TooMany = some ⟨oc_I_TooMany, od_I_TooMany, .func (PySem.W.fnOf "__init__" "TooMany.__init__" (defArgs s_TooMany___init__) (defBody s_TooMany___init__) (defScope s_TooMany___init__) .none kV_I_TooMany dc_I_TooMany pm_I_TooMany an_I_TooMany cd_I_TooMany ct_I_TooMany), sl_I_TooMany⟩)
    (c_I_TooMany : PySem.W.codeIn K cd_I_TooMany "TooMany.__init__" = true)
    (k_I_TooMany : PySem.W.keepIn K (.ref f_I_TooMany) = true)
    (kC_TooMany : PySem.W.keepIn K (.ref C_TooMany) = true)
    (eC_TooMany : PySem.W.subIn K (.ref C_TooMany) (.type "BaseException") = some true)
    (tC_TooMany : PySem.W.typeIn K (.ref C_TooMany) = some (.type "type"))
    (hC_TooMany : PySem.W.hasDictIn K C_TooMany = true)
    (sC_TooMany : PySem.W.subIn K (.ref C_TooMany) (.ref C_TooMany) = some true)
    (aX_NoClosedSet : PySem.W.nsIn K mainGlobals "NoClosedSet" = some (some (.ref C_NoClosedSet)))
    (xL_NoClosedSet : K.lookup C_NoClosedSet = some (excClassObj nm_NoClosedSet q_NoClosedSet C_NoClosedSet N_NoClosedSet bs_NoClosedSet [.ref C0, .type "ValueError", .type "Exception", .type "BaseException", .type "object"] true sn_NoClosedSet sub_NoClosedSet ab_NoClosedSet col_NoClosedSet dd_NoClosedSet m0_NoClosedSet m1_NoClosedSet m2_NoClosedSet m3_NoClosedSet m5_NoClosedSet "ValueError.__new__"))
    (sa_NoClosedSet : PySem.W.findIn K (.ref C_NoClosedSet) "__setattr__" = some (some (.builtin "object.__setattr__")))
    (ga_NoClosedSet : PySem.W.findIn K (.ref C_NoClosedSet) "__getattribute__" = some (some (.builtin "BaseException.__getattribute__")))
    (gg_NoClosedSet : PySem.W.findIn K (.ref C_NoClosedSet) "__getattr__" = some none)
    (nf_NoClosedSet : PySem.W.findIn K (.ref C_NoClosedSet) "index" = some none)
    (aI_NoClosedSet : PySem.W.findIn K (.ref C_NoClosedSet) "__init__" = some (some (.ref f_I_NoClosedSet)))
    (tI_NoClosedSet : PySem.W.typeIn K (.ref f_I_NoClosedSet) = some (.type "function"))
    (l_I_NoClosedSet : K.lookup f_I_NoClosedSet = some ⟨oc_I_NoClosedSet, od_I_NoClosedSet, .func (PySem.W.fnOf "__init__" "NoClosedSet.__init__" (defArgs s_NoClosedSet___init__) (defBody s_NoClosedSet___init__) (defScope s_NoClosedSet___init__) .none kV_I_NoClosedSet dc_I_NoClosedSet pm_I_NoClosedSet an_I_NoClosedSet cd_I_NoClosedSet ct_I_NoClosedSet), sl_I_NoClosedSet⟩)
    (c_I_NoClosedSet : PySem.W.codeIn K cd_I_NoClosedSet "NoClosedSet.__init__" = true)
    (k_I_NoClosedSet : PySem.W.keepIn K (.ref f_I_NoClosedSet) = true)
    (kC_NoClosedSet : PySem.W.keepIn K (.ref C_NoClosedSet) = true)
    (eC_NoClosedSet : PySem.W.subIn K (.ref C_NoClosedSet) (.type "BaseException") = some true)
    (tC_NoClosedSet : PySem.W.typeIn K (.ref C_NoClosedSet) = some (.type "type"))
    (hC_NoClosedSet : PySem.W.hasDictIn K C_NoClosedSet = true)
    (sC_NoClosedSet : PySem.W.subIn K (.ref C_NoClosedSet) (.ref C_NoClosedSet) = some true)
    (aX_NoState : PySem.W.nsIn K mainGlobals "NoState" = some (some (.ref C_NoState)))
    (xL_NoState : K.lookup C_NoState = some (excClassObj nm_NoState q_NoState C_NoState N_NoState bs_NoState [.ref C0, .type "ValueError", .type "Exception", .type "BaseException", .type "object"] true sn_NoState sub_NoState ab_NoState col_NoState dd_NoState m0_NoState m1_NoState m2_NoState m3_NoState m5_NoState "ValueError.__new__"))
    (sa_NoState : PySem.W.findIn K (.ref C_NoState) "__setattr__" = some (some (.builtin "object.__setattr__")))
    (ga_NoState : PySem.W.findIn K (.ref C_NoState) "__getattribute__" = some (some (.builtin "BaseException.__getattribute__")))
    (gg_NoState : PySem.W.findIn K (.ref C_NoState) "__getattr__" = some none)
    (nf_NoState : PySem.W.findIn K (.ref C_NoState) "index" = some none)
    (aI_NoState : PySem.W.findIn K (.ref C_NoState) "__init__" = some (some (.ref f_I_NoState)))
    (tI_NoState : PySem.W.typeIn K (.ref f_I_NoState) = some (.type "function"))
    (l_I_NoState : K.lookup f_I_NoState = some ⟨oc_I_NoState, od_I_NoState, .func (PySem.W.fnOf "__init__" "NoState.__init__" (defArgs s_NoState___init__) (defBody s_NoState___init__) (defScope s_NoState___init__) .none kV_I_NoState dc_I_NoState pm_I_NoState an_I_NoState cd_I_NoState ct_I_NoState), sl_I_NoState⟩)
    (c_I_NoState : PySem.W.codeIn K cd_I_NoState "NoState.__init__" = true)
    (k_I_NoState : PySem.W.keepIn K (.ref f_I_NoState) = true)
    (kC_NoState : PySem.W.keepIn K (.ref C_NoState) = true)
    (eC_NoState : PySem.W.subIn K (.ref C_NoState) (.type "BaseException") = some true)
    (tC_NoState : PySem.W.typeIn K (.ref C_NoState) = some (.type "type"))
    (hC_NoState : PySem.W.hasDictIn K C_NoState = true)
    (sC_NoState : PySem.W.subIn K (.ref C_NoState) (.ref C_NoState) = some true)
    (aX_NoLink : PySem.W.nsIn K mainGlobals "NoLink" = some (some (.ref C_NoLink)))
    (aX_NoNames : PySem.W.nsIn K mainGlobals "NoNames" = some (some (.ref C_NoNames)))
    (aX_NoNetwork : PySem.W.nsIn K mainGlobals "NoNetwork" = some (some (.ref C_NoNetwork)))
    (spn : PySem.W.specialIn K (.builtin "object.__class__") "__get__" = some (some (.builtin "getset_descriptor.__get__")))
    (tkn : PySem.W.takesIn K (.builtin "object.__class__") = some true)
    (e0B : PySem.W.subIn K (.ref C0) (.type "BaseException") = some true)
    (h0B : PySem.W.hasDictIn K C0 = true)
    (t0B : PySem.W.typeIn K (.ref C0) = some (.type "type"))
    (cl_NoStation : (PySem.W.clsIn K C_NoStation).isSome = true)
    (hc_NoStation : PySem.W.findIn K (.ref C_NoStation) "__class__" = some (some (.builtin "object.__class__")))
    (mo_NoStation : PySem.W.mroIn K C_NoStation (.type "object") = some true)
    (s0_NoStation : PySem.W.subIn K (.ref C_NoStation) (.ref C0) = some true)
    (kd_NoStation_NoStation : PySem.W.kitOne K (.ref C_NoStation) (.ref C_NoStation) = some true)
    (kd_NoStation_NoChannel : PySem.W.kitOne K (.ref C_NoStation) (.ref C_NoChannel) = some false)
    (kd_NoStation_TooMany : PySem.W.kitOne K (.ref C_NoStation) (.ref C_TooMany) = some false)
    (kd_NoStation_NoClosedSet : PySem.W.kitOne K (.ref C_NoStation) (.ref C_NoClosedSet) = some false)
    (kd_NoStation_NoLink : PySem.W.kitOne K (.ref C_NoStation) (.ref C_NoLink) = some false)
    (kd_NoStation_NoNames : PySem.W.kitOne K (.ref C_NoStation) (.ref C_NoNames) = some false)
    (kd_NoStation_NoNetwork : PySem.W.kitOne K (.ref C_NoStation) (.ref C_NoNetwork) = some false)
    (kd_NoStation_NoState : PySem.W.kitOne K (.ref C_NoStation) (.ref C_NoState) = some false)
    (cl_NoChannel : (PySem.W.clsIn K C_NoChannel).isSome = true)
    (hc_NoChannel : PySem.W.findIn K (.ref C_NoChannel) "__class__" = some (some (.builtin "object.__class__")))
    (mo_NoChannel : PySem.W.mroIn K C_NoChannel (.type "object") = some true)
    (s0_NoChannel : PySem.W.subIn K (.ref C_NoChannel) (.ref C0) = some true)
    (kd_NoChannel_NoStation : PySem.W.kitOne K (.ref C_NoChannel) (.ref C_NoStation) = some false)
    (kd_NoChannel_NoChannel : PySem.W.kitOne K (.ref C_NoChannel) (.ref C_NoChannel) = some true)
    (kd_NoChannel_TooMany : PySem.W.kitOne K (.ref C_NoChannel) (.ref C_TooMany) = some false)
    (kd_NoChannel_NoClosedSet : PySem.W.kitOne K (.ref C_NoChannel) (.ref C_NoClosedSet) = some false)
    (kd_NoChannel_NoLink : PySem.W.kitOne K (.ref C_NoChannel) (.ref C_NoLink) = some false)
    (kd_NoChannel_NoNames : PySem.W.kitOne K (.ref C_NoChannel) (.ref C_NoNames) = some false)
    (kd_NoChannel_NoNetwork : PySem.W.kitOne K (.ref C_NoChannel) (.ref C_NoNetwork) = some false)
    (kd_NoChannel_NoState : PySem.W.kitOne K (.ref C_NoChannel) (.ref C_NoState) = some false)
    (cl_TooMany : (PySem.W.clsIn K C_TooMany).isSome = true)
    (hc_TooMany : PySem.W.findIn K (.ref C_TooMany) "__class__" = some (some (.builtin "object.__class__")))
    (mo_TooMany : PySem.W.mroIn K C_TooMany (.type "object") = some true)
    (s0_TooMany : PySem.W.subIn K (.ref C_TooMany) (.ref C0) = some true)
    (kd_TooMany_NoStation : PySem.W.kitOne K (.ref C_TooMany) (.ref C_NoStation) = some false)
    (kd_TooMany_NoChannel : PySem.W.kitOne K (.ref C_TooMany) (.ref C_NoChannel) = some false)
    (kd_TooMany_TooMany : PySem.W.kitOne K (.ref C_TooMany) (.ref C_TooMany) = some true)
    (kd_TooMany_NoClosedSet : PySem.W.kitOne K (.ref C_TooMany) (.ref C_NoClosedSet) = some false)
    (kd_TooMany_NoLink : PySem.W.kitOne K (.ref C_TooMany) (.ref C_NoLink) = some false)
    (kd_TooMany_NoNames : PySem.W.kitOne K (.ref C_TooMany) (.ref C_NoNames) = some false)
    (kd_TooMany_NoNetwork : PySem.W.kitOne K (.ref C_TooMany) (.ref C_NoNetwork) = some false)
    (kd_TooMany_NoState : PySem.W.kitOne K (.ref C_TooMany) (.ref C_NoState) = some false)
    (cl_NoClosedSet : (PySem.W.clsIn K C_NoClosedSet).isSome = true)
    (hc_NoClosedSet : PySem.W.findIn K (.ref C_NoClosedSet) "__class__" = some (some (.builtin "object.__class__")))
    (mo_NoClosedSet : PySem.W.mroIn K C_NoClosedSet (.type "object") = some true)
    (s0_NoClosedSet : PySem.W.subIn K (.ref C_NoClosedSet) (.ref C0) = some true)
    (kd_NoClosedSet_NoStation : PySem.W.kitOne K (.ref C_NoClosedSet) (.ref C_NoStation) = some false)
    (kd_NoClosedSet_NoChannel : PySem.W.kitOne K (.ref C_NoClosedSet) (.ref C_NoChannel) = some false)
    (kd_NoClosedSet_TooMany : PySem.W.kitOne K (.ref C_NoClosedSet) (.ref C_TooMany) = some false)
    (kd_NoClosedSet_NoClosedSet : PySem.W.kitOne K (.ref C_NoClosedSet) (.ref C_NoClosedSet) = some true)
    (kd_NoClosedSet_NoLink : PySem.W.kitOne K (.ref C_NoClosedSet) (.ref C_NoLink) = some false)
    (kd_NoClosedSet_NoNames : PySem.W.kitOne K (.ref C_NoClosedSet) (.ref C_NoNames) = some false)
    (kd_NoClosedSet_NoNetwork : PySem.W.kitOne K (.ref C_NoClosedSet) (.ref C_NoNetwork) = some false)
    (kd_NoClosedSet_NoState : PySem.W.kitOne K (.ref C_NoClosedSet) (.ref C_NoState) = some false)
    (tb__law_outcomes : PySem.W.tabIn K "_law_outcomes" = some (cA__law_outcomes, Pt__law_outcomes))
    (ch__law_outcomes : PySem.W.codeHdIn K cA__law_outcomes Pt__law_outcomes = true)
    (nP__law_outcomes : K.lookup Pt__law_outcomes = none)
    (ec__law_outcomes : cd__law_outcomes = Value.ref cA__law_outcomes)
    (gP__law_outcomes : h.get? Pt__law_outcomes = some { cls := .none, data := .fields #[] })
    (tb__law_right : PySem.W.tabIn K "_law_right" = some (cA__law_right, Pt__law_right))
    (ch__law_right : PySem.W.codeHdIn K cA__law_right Pt__law_right = true)
    (nP__law_right : K.lookup Pt__law_right = none)
    (ec__law_right : cd__law_right = Value.ref cA__law_right)
    (gP__law_right : h.get? Pt__law_right = some { cls := .none, data := .fields #[] })
    (tb_law : PySem.W.tabIn K "law" = some (cA_law, Pt_law))
    (ch_law : PySem.W.codeHdIn K cA_law Pt_law = true)
    (nP_law : K.lookup Pt_law = none)
    (ec_law : cd_law = Value.ref cA_law)
    (gP_law : h.get? Pt_law = some { cls := .none, data := .fields #[] })
    (kv_NoStation : PySem.W.kitOne K (.ref C_NoStation) (.type "ValueError") = some true)
    (kv_NoChannel : PySem.W.kitOne K (.ref C_NoChannel) (.type "ValueError") = some true)
    (kv_TooMany : PySem.W.kitOne K (.ref C_TooMany) (.type "ValueError") = some true)
    (kv_NoClosedSet : PySem.W.kitOne K (.ref C_NoClosedSet) (.type "ValueError") = some true)
    (ndPt : [Pt__law_outcomes, Pt__law_right, Pt_law].Nodup) : LawTG l w K 14 mg fa h := by
  have e := hfa.symm.trans (PySem.W.mg_of X G a_law)
  cases e
  have T : Txt mg := ⟨PySem.W.mg_none_of X G z_ValueError, PySem.W.mg_none_of X G z_all, PySem.W.mg_none_of X G z_bool, PySem.W.mg_none_of X G z_enumerate, PySem.W.mg_none_of X G z_int, PySem.W.mg_none_of X G z_isinstance, PySem.W.mg_none_of X G z_len, PySem.W.mg_none_of X G z_list, PySem.W.mg_none_of X G z_max, PySem.W.mg_none_of X G z_min, PySem.W.mg_none_of X G z_range, PySem.W.mg_none_of X G z_repr, PySem.W.mg_none_of X G z_set, PySem.W.mg_none_of X G z_sorted, PySem.W.mg_none_of X G z_tuple, ⟨_, PySem.W.mg_of X G v_MAX_STATIONS⟩, ⟨_, PySem.W.mg_of X G v_MOST_LOW⟩⟩
  subst ec__law_outcomes
  subst ec__law_right
  subst ec_law
  have F_is_int := fun_mk (st := s_is_int) l_is_int c_is_int k_is_int
  have g_is_int := PySem.W.mg_of X G a_is_int
  have b_is_int := F_is_int.binds (ps := ["value"]) fun _ _ _ _ _ _ us hl => match us, hl with | [_], _ => rfl
  have F_is_link := fun_mk (st := s_is_link) l_is_link c_is_link k_is_link
  have g_is_link := PySem.W.mg_of X G a_is_link
  have b_is_link := F_is_link.binds (ps := ["value", "stations"]) fun _ _ _ _ _ _ us hl => match us, hl with | [_, _], _ => rfl
  have F_check_state := fun_mk (st := s_check_state) l_check_state c_check_state k_check_state
  have g_check_state := PySem.W.mg_of X G a_check_state
  have b_check_state := F_check_state.binds (ps := ["network", "state"]) fun _ _ _ _ _ _ us hl => match us, hl with | [_, _], _ => rfl
  have F_all_off := fun_mk (st := s_all_off) l_all_off c_all_off k_all_off
  have g_all_off := PySem.W.mg_of X G a_all_off
  have b_all_off := F_all_off.binds (ps := ["network"]) fun _ _ _ _ _ _ us hl => match us, hl with | [_], _ => rfl
  have F_after := fun_mk (st := s_after) l_after c_after k_after
  have g_after := PySem.W.mg_of X G a_after
  have b_after := F_after.binds (ps := ["network", "state", "station"]) fun _ _ _ _ _ _ us hl => match us, hl with | [_, _, _], _ => rfl
  have F_first_steps := fun_mk (st := s_first_steps) l_first_steps c_first_steps k_first_steps
  have g_first_steps := PySem.W.mg_of X G a_first_steps
  have b_first_steps := F_first_steps.binds (ps := ["network", "most"]) fun _ _ _ _ _ _ us hl => match us, hl with | [_, _], _ => rfl
  have F_check_wanted := fun_mk (st := s_check_wanted) l_check_wanted c_check_wanted k_check_wanted
  have g_check_wanted := PySem.W.mg_of X G a_check_wanted
  have b_check_wanted := F_check_wanted.binds (ps := ["network", "station", "channel"]) fun _ _ _ _ _ _ us hl => match us, hl with | [_, _, _], _ => rfl
  have F_check_never := fun_mk (st := s_check_never) l_check_never c_check_never k_check_never
  have g_check_never := PySem.W.mg_of X G a_check_never
  have b_check_never := F_check_never.binds (ps := ["network", "station", "channel", "states"]) fun _ _ _ _ _ _ us hl => match us, hl with | [_, _, _, _], _ => rfl
  have F_chain := fun_mk (st := s_chain) l_chain c_chain k_chain
  have g_chain := PySem.W.mg_of X G a_chain
  have b_chain := F_chain.binds (ps := ["numbers"]) fun _ _ _ _ _ _ us hl => match us, hl with | [_], _ => rfl
  have F_greatest_channels := fun_mk (st := s_greatest_channels) l_greatest_channels c_greatest_channels k_greatest_channels
  have g_greatest_channels := PySem.W.mg_of X G a_greatest_channels
  have b_greatest_channels := F_greatest_channels.binds (ps := ["network"]) fun _ _ _ _ _ _ us hl => match us, hl with | [_], _ => rfl
  have F_others := fun_mk (st := s_others) l_others c_others k_others
  have g_others := PySem.W.mg_of X G a_others
  have b_others := F_others.binds (ps := ["network", "station", "without"]) fun _ _ _ _ _ _ us hl => match us, hl with | [_, _, _], _ => rfl
  have F_to_three := fun_mk (st := s_to_three) l_to_three c_to_three k_to_three
  have g_to_three := PySem.W.mg_of X G a_to_three
  have b_to_three := F_to_three.binds (ps := ["station", "high", "low"]) fun _ _ _ _ _ _ us hl => match us, hl with | [_, _, _], _ => rfl
  have F_to_four := fun_mk (st := s_to_four) l_to_four c_to_four k_to_four
  have g_to_four := PySem.W.mg_of X G a_to_four
  have b_to_four := F_to_four.binds (ps := ["network", "station"]) fun _ _ _ _ _ _ us hl => match us, hl with | [_, _], _ => rfl
  have F_beside_two := fun_mk (st := s_beside_two) l_beside_two c_beside_two k_beside_two
  have g_beside_two := PySem.W.mg_of X G a_beside_two
  have b_beside_two := F_beside_two.binds (ps := ["station", "spare", "goal", "low"]) fun _ _ _ _ _ _ us hl => match us, hl with | [_, _, _, _], _ => rfl
  have F_to_five := fun_mk (st := s_to_five) l_to_five c_to_five k_to_five
  have g_to_five := PySem.W.mg_of X G a_to_five
  have b_to_five := F_to_five.binds (ps := ["network", "station", "table"]) fun _ _ _ _ _ _ us hl => match us, hl with | [_, _, _], _ => rfl
  have F_schedule_low := fun_mk (st := s_schedule_low) l_schedule_low c_schedule_low k_schedule_low
  have g_schedule_low := PySem.W.mg_of X G a_schedule_low
  have b_schedule_low := F_schedule_low.binds (ps := ["network", "station", "channel"]) fun _ _ _ _ _ _ us hl => match us, hl with | [_, _, _], _ => rfl
  have F__law_well := fun_mk (st := s__law_well) l__law_well c__law_well k__law_well
  have g__law_well := PySem.W.mg_of X G a__law_well
  have b__law_well := F__law_well.binds (ps := ["_law_cell", "_law_turn"]) fun _ _ _ _ _ _ us hl => match us, hl with | [_, _], _ => rfl
  have F__law_take := fun_mk (st := s__law_take) l__law_take c__law_take k__law_take
  have g__law_take := PySem.W.mg_of X G a__law_take
  have b__law_take := F__law_take.binds (ps := ["_law_well_here", "_law_bound"]) fun _ _ _ _ _ _ us hl => match us, hl with | [_, _], _ => rfl
  have F__law_mixed := fun_mk (st := s__law_mixed) l__law_mixed c__law_mixed k__law_mixed
  have g__law_mixed := PySem.W.mg_of X G a__law_mixed
  have b__law_mixed := F__law_mixed.binds (ps := ["_law_well_here", "_law_some"]) fun _ _ _ _ _ _ us hl => match us, hl with | [_, _], _ => rfl
  have F__law_links := fun_mk (st := s__law_links) l__law_links c__law_links k__law_links
  have g__law_links := PySem.W.mg_of X G a__law_links
  have b__law_links := F__law_links.binds (ps := ["_law_well_here", "_law_size"]) fun _ _ _ _ _ _ us hl => match us, hl with | [_, _], _ => rfl
  have F__law_outcome := fun_mk (st := s__law_outcome) l__law_outcome c__law_outcome k__law_outcome
  have g__law_outcome := PySem.W.mg_of X G a__law_outcome
  have b__law_outcome := F__law_outcome.binds (ps := ["_law_ask"]) fun _ _ _ _ _ _ us hl => match us, hl with | [_], _ => rfl
  have F__law_outcomes := fun_mk (st := s__law_outcomes) l__law_outcomes c__law_outcomes k__law_outcomes
  have g__law_outcomes := PySem.W.mg_of X G a__law_outcomes
  have b__law_outcomes := F__law_outcomes.binds (ps := ["_law_network", "_law_station", "_law_channel"]) fun _ _ _ _ _ _ us hl => match us, hl with | [_, _, _], _ => rfl
  have F__law_right := fun_mk (st := s__law_right) l__law_right c__law_right k__law_right
  have g__law_right := PySem.W.mg_of X G a__law_right
  have b__law_right := F__law_right.binds (ps := ["_law_well_here"]) fun _ _ _ _ _ _ us hl => match us, hl with | [_], _ => rfl
  have F_law := fun_mk (st := s_law) l_law c_law k_law
  have g_law := PySem.W.mg_of X G a_law
  have g_fewest := PySem.W.mg_of X G a_fewest
  have F_fewest : FunD K "fewest" "fewest" (defArgs s_fewest) (defBody s_fewest) (defScope s_fewest) [] [(("most" : Str), V.int 1000)] f_fewest _ := ⟨⟨_, _, _, _, _, _, _, _, _, _, rfl, l_fewest, c_fewest, .inl ⟨rfl, rfl⟩, .inr ⟨D_fewest, rfl, fun q hq => by
    obtain rfl : q = (("most" : Str), V.int 1000) := by simpa using hq
    exact ⟨_, d_fewest_most, ⟨_, rfl⟩⟩⟩⟩, k_fewest⟩
  have g_reachable := PySem.W.mg_of X G a_reachable
  have F_reachable : FunD K "reachable" "reachable" (defArgs s_reachable) (defBody s_reachable) (defScope s_reachable) [] [(("most" : Str), V.int 1000)] f_reachable _ := ⟨⟨_, _, _, _, _, _, _, _, _, _, rfl, l_reachable, c_reachable, .inl ⟨rfl, rfl⟩, .inr ⟨D_reachable, rfl, fun q hq => by
    obtain rfl : q = (("most" : Str), V.int 1000) := by simpa using hq
    exact ⟨_, d_reachable_most, ⟨_, rfl⟩⟩⟩⟩, k_reachable⟩
  have g_greatest_reached := PySem.W.mg_of X G a_greatest_reached
  have F_greatest_reached : FunD K "greatest_reached" "greatest_reached" (defArgs s_greatest_reached) (defBody s_greatest_reached) (defScope s_greatest_reached) [] [(("most" : Str), V.int 1000)] f_greatest_reached _ := ⟨⟨_, _, _, _, _, _, _, _, _, _, rfl, l_greatest_reached, c_greatest_reached, .inl ⟨rfl, rfl⟩, .inr ⟨D_greatest_reached, rfl, fun q hq => by
    obtain rfl : q = (("most" : Str), V.int 1000) := by simpa using hq
    exact ⟨_, d_greatest_reached_most, ⟨_, rfl⟩⟩⟩⟩, k_greatest_reached⟩
  have hC := PySem.W.mg_of X G aC
  have NC : NetC K C := ⟨⟨pg, hd, po, sa⟩, nK, nN, ha, hn, ht, hm, if_pos (beq_self_eq_true _), ne⟩
  have F_M_init := fun_mk (st := s_Network___init__) l_M_init c_M_init k_M_init
  have b_M_init := F_M_init.binds (ps := ["self", "stations", "links"]) fun _ _ _ _ _ _ us hl => match us, hl with | [_, _, _], _ => rfl
  have F_M_len := fun_mk (st := s_Network___len__) l_M_len c_M_len k_M_len
  have b_M_len := F_M_len.binds (ps := ["self"]) fun _ _ _ _ _ _ us hl => match us, hl with | [_], _ => rfl
  have F_M_neighbours := fun_mk (st := s_Network_neighbours) l_M_neighbours c_M_neighbours k_M_neighbours
  have b_M_neighbours := F_M_neighbours.binds (ps := ["self", "station"]) fun _ _ _ _ _ _ us hl => match us, hl with | [_, _], _ => rfl
  have F_M_check_station := fun_mk (st := s_Network_check_station) l_M_check_station c_M_check_station k_M_check_station
  have b_M_check_station := F_M_check_station.binds (ps := ["self", "station"]) fun _ _ _ _ _ _ us hl => match us, hl with | [_, _], _ => rfl
  have BC : BaseC K C0 := ⟨rdB, gaB, vVB⟩
  have m_ChannelError := PySem.W.mg_of X G aB
  have m_NoStation := PySem.W.mg_of X G aX_NoStation
  have OX_NoStation : OexC K C_NoStation := ⟨⟨_, _, _, _, _, _, _, _, _, _, _, _, _, _, _, xL_NoStation, rfl⟩, sa_NoStation, eC_NoStation, tC_NoStation, kC_NoStation⟩
  have F_I_NoStation := fun_mk (st := s_NoStation___init__) l_I_NoStation c_I_NoStation k_I_NoStation
  have b_I_NoStation := F_I_NoStation.binds (ps := ["self", "station"]) fun _ _ _ _ _ _ us hl => match us, hl with | [_, _], _ => rfl
  have XF_NoStation : XfC K C_NoStation := ⟨ga_NoStation, gg_NoStation, eC_NoStation, hC_NoStation⟩
  have te_NoStation : PySem.W.exmOne K (.ref C_NoStation) (.ref C_NoStation) = some true := PySem.W.exm_ref eC_NoStation hC_NoStation tC_NoStation sC_NoStation
  have m_NoChannel := PySem.W.mg_of X G aX_NoChannel
  have OX_NoChannel : OexC K C_NoChannel := ⟨⟨_, _, _, _, _, _, _, _, _, _, _, _, _, _, _, xL_NoChannel, rfl⟩, sa_NoChannel, eC_NoChannel, tC_NoChannel, kC_NoChannel⟩
  have F_I_NoChannel := fun_mk (st := s_NoChannel___init__) l_I_NoChannel c_I_NoChannel k_I_NoChannel
  have b_I_NoChannel := F_I_NoChannel.binds (ps := ["self", "channel"]) fun _ _ _ _ _ _ us hl => match us, hl with | [_, _], _ => rfl
  have XF_NoChannel : XfC K C_NoChannel := ⟨ga_NoChannel, gg_NoChannel, eC_NoChannel, hC_NoChannel⟩
  have te_NoChannel : PySem.W.exmOne K (.ref C_NoChannel) (.ref C_NoChannel) = some true := PySem.W.exm_ref eC_NoChannel hC_NoChannel tC_NoChannel sC_NoChannel
  have m_TooMany := PySem.W.mg_of X G aX_TooMany
  have OX_TooMany : OexC K C_TooMany := ⟨⟨_, _, _, _, _, _, _, _, _, _, _, _, _, _, _, xL_TooMany, rfl⟩, sa_TooMany, eC_TooMany, tC_TooMany, kC_TooMany⟩
  have F_I_TooMany := fun_mk (st := s_TooMany___init__) l_I_TooMany c_I_TooMany k_I_TooMany
  have b_I_TooMany := F_I_TooMany.binds (ps := ["self", "most"]) fun _ _ _ _ _ _ us hl => match us, hl with | [_, _], _ => rfl
  have XF_TooMany : XfC K C_TooMany := ⟨ga_TooMany, gg_TooMany, eC_TooMany, hC_TooMany⟩
  have te_TooMany : PySem.W.exmOne K (.ref C_TooMany) (.ref C_TooMany) = some true := PySem.W.exm_ref eC_TooMany hC_TooMany tC_TooMany sC_TooMany
  have m_NoClosedSet := PySem.W.mg_of X G aX_NoClosedSet
  have OX_NoClosedSet : OexC K C_NoClosedSet := ⟨⟨_, _, _, _, _, _, _, _, _, _, _, _, _, _, _, xL_NoClosedSet, rfl⟩, sa_NoClosedSet, eC_NoClosedSet, tC_NoClosedSet, kC_NoClosedSet⟩
  have F_I_NoClosedSet := fun_mk (st := s_NoClosedSet___init__) l_I_NoClosedSet c_I_NoClosedSet k_I_NoClosedSet
  have b_I_NoClosedSet := F_I_NoClosedSet.binds (ps := ["self", "index"]) fun _ _ _ _ _ _ us hl => match us, hl with | [_, _], _ => rfl
  have XF_NoClosedSet : XfC K C_NoClosedSet := ⟨ga_NoClosedSet, gg_NoClosedSet, eC_NoClosedSet, hC_NoClosedSet⟩
  have te_NoClosedSet : PySem.W.exmOne K (.ref C_NoClosedSet) (.ref C_NoClosedSet) = some true := PySem.W.exm_ref eC_NoClosedSet hC_NoClosedSet tC_NoClosedSet sC_NoClosedSet
  have m_NoState := PySem.W.mg_of X G aX_NoState
  have OX_NoState : OexC K C_NoState := ⟨⟨_, _, _, _, _, _, _, _, _, _, _, _, _, _, _, xL_NoState, rfl⟩, sa_NoState, eC_NoState, tC_NoState, kC_NoState⟩
  have F_I_NoState := fun_mk (st := s_NoState___init__) l_I_NoState c_I_NoState k_I_NoState
  have b_I_NoState := F_I_NoState.binds (ps := ["self", "index"]) fun _ _ _ _ _ _ us hl => match us, hl with | [_, _], _ => rfl
  have XF_NoState : XfC K C_NoState := ⟨ga_NoState, gg_NoState, eC_NoState, hC_NoState⟩
  have te_NoState : PySem.W.exmOne K (.ref C_NoState) (.ref C_NoState) = some true := PySem.W.exm_ref eC_NoState hC_NoState tC_NoState sC_NoState
  have m_NoLink := PySem.W.mg_of X G aX_NoLink
  have m_NoNames := PySem.W.mg_of X G aX_NoNames
  have m_NoNetwork := PySem.W.mg_of X G aX_NoNetwork
  have ED_NoStation : ExcD K C_NoStation := ⟨cl_NoStation, ga_NoStation, gg_NoStation, eC_NoStation, hc_NoStation, spn, tkn, mo_NoStation⟩
  have tB_NoStation : PySem.W.exmOne K (.ref C_NoStation) (.ref C0) = some true := PySem.W.exm_ref e0B h0B t0B s0_NoStation
  have ED_NoChannel : ExcD K C_NoChannel := ⟨cl_NoChannel, ga_NoChannel, gg_NoChannel, eC_NoChannel, hc_NoChannel, spn, tkn, mo_NoChannel⟩
  have tB_NoChannel : PySem.W.exmOne K (.ref C_NoChannel) (.ref C0) = some true := PySem.W.exm_ref e0B h0B t0B s0_NoChannel
  have ED_TooMany : ExcD K C_TooMany := ⟨cl_TooMany, ga_TooMany, gg_TooMany, eC_TooMany, hc_TooMany, spn, tkn, mo_TooMany⟩
  have tB_TooMany : PySem.W.exmOne K (.ref C_TooMany) (.ref C0) = some true := PySem.W.exm_ref e0B h0B t0B s0_TooMany
  have ED_NoClosedSet : ExcD K C_NoClosedSet := ⟨cl_NoClosedSet, ga_NoClosedSet, gg_NoClosedSet, eC_NoClosedSet, hc_NoClosedSet, spn, tkn, mo_NoClosedSet⟩
  have tB_NoClosedSet : PySem.W.exmOne K (.ref C_NoClosedSet) (.ref C0) = some true := PySem.W.exm_ref e0B h0B t0B s0_NoClosedSet
  have FC__law_outcomes : FunC K "_law_outcomes" "_law_outcomes" s__law_outcomes _ _ cA__law_outcomes := ⟨⟨_, _, _, _, _, _, _, _, rfl, l__law_outcomes, c__law_outcomes⟩⟩
  have FC__law_right : FunC K "_law_right" "_law_right" s__law_right _ _ cA__law_right := ⟨⟨_, _, _, _, _, _, _, _, rfl, l__law_right, c__law_right⟩⟩
  have FC_law : FunC K "law" "law" s_law _ _ cA_law := ⟨⟨_, _, _, _, _, _, _, _, rfl, l_law, c_law⟩⟩
  refine ⟨PySem.W.fnOf "law" "law" (defArgs s_law) (defBody s_law) (defScope s_law) .none kV_law dc_law pm_law an_law (.ref cA_law) ct_law, [(cA__law_outcomes, Pt__law_outcomes), (cA__law_right, Pt__law_right), (cA_law, Pt_law)],
    spLawT K [(Pt__law_outcomes, qO cA__law_outcomes), (Pt__law_right, qR cA__law_right), (Pt_law, qL cA_law)], ?_, ?_, ?_, fun s v => .of_eq rfl, fun H a ns hl hT hS => ⟨a, ns, rfl, hS, hl, ?_, fun _ => rfl⟩, fun base _ _ hTB => ?_⟩
  · intro p hp
    rcases List.mem_cons.mp hp with rfl | hp
    · exact gP__law_outcomes
    rcases List.mem_cons.mp hp with rfl | hp
    · exact gP__law_right
    rw [List.mem_singleton.mp hp]
    exact gP_law
  · intro p hp
    rcases List.mem_cons.mp hp with rfl | hp
    · exact nP__law_outcomes
    rcases List.mem_cons.mp hp with rfl | hp
    · exact nP__law_right
    rw [List.mem_singleton.mp hp]
    exact nP_law
  · intro p hp
    rcases List.mem_cons.mp hp with rfl | hp
    · exact PySem.W.codeHd_of_K X ch__law_outcomes
    rcases List.mem_cons.mp hp with rfl | hp
    · exact PySem.W.codeHd_of_K X ch__law_right
    rw [List.mem_singleton.mp hp]
    exact PySem.W.codeHd_of_K X ch_law
  · intro p hp
    rcases List.mem_cons.mp hp with rfl | hp
    · exact hT (cA__law_outcomes, Pt__law_outcomes) (.head _)
    rcases List.mem_cons.mp hp with rfl | hp
    · exact hT (cA__law_right, Pt__law_right) (.tail _ (.head _))
    rw [List.mem_singleton.mp hp]
    exact hT (cA_law, Pt_law) (.tail _ (.tail _ (.head _)))
  have TB__law_outcomes := hTB (cA__law_outcomes, Pt__law_outcomes) (.head _)
  have TB__law_right := hTB (cA__law_right, Pt__law_right) (.tail _ (.head _))
  have TB_law := hTB (cA_law, Pt_law) (.tail _ (.tail _ (.head _)))
  have X_NoStation : Exn l.prog w K mg base "NoStation" C_NoStation "station" := ⟨_, _, m_NoStation, OX_NoStation, aI_NoStation, tI_NoStation, fn_up (ok_ini_NoStation F_I_NoStation m_ChannelError BC nf_NoStation), b_I_NoStation⟩
  have X_NoChannel : Exn l.prog w K mg base "NoChannel" C_NoChannel "channel" := ⟨_, _, m_NoChannel, OX_NoChannel, aI_NoChannel, tI_NoChannel, fn_up (ok_ini_NoChannel F_I_NoChannel m_ChannelError BC nf_NoChannel), b_I_NoChannel⟩
  have X_TooMany : Exn l.prog w K mg base "TooMany" C_TooMany "most" := ⟨_, _, m_TooMany, OX_TooMany, aI_TooMany, tI_TooMany, fn_up (ok_ini_TooMany F_I_TooMany m_ChannelError BC nf_TooMany), b_I_TooMany⟩
  have X_NoClosedSet : Exn l.prog w K mg base "NoClosedSet" C_NoClosedSet "index" := ⟨_, _, m_NoClosedSet, OX_NoClosedSet, aI_NoClosedSet, tI_NoClosedSet, fn_up (ok_ini_NoClosedSet F_I_NoClosedSet m_ChannelError BC nf_NoClosedSet), b_I_NoClosedSet⟩
  have X_NoState : Exn l.prog w K mg base "NoState" C_NoState "index" := ⟨_, _, m_NoState, OX_NoState, aI_NoState, tI_NoState, fn_up (ok_ini_NoState F_I_NoState m_ChannelError BC nf_NoState), b_I_NoState⟩
  have K8_NoStation : Kind8 K C0 (cs8 C_NoStation C_NoChannel C_TooMany C_NoClosedSet C_NoLink C_NoNames C_NoNetwork C_NoState) C_NoStation 0 := ⟨by decide, XF_NoStation, nf_NoStation, ED_NoStation, tB_NoStation, kd8 kd_NoStation_NoStation kd_NoStation_NoChannel kd_NoStation_TooMany kd_NoStation_NoClosedSet kd_NoStation_NoLink kd_NoStation_NoNames kd_NoStation_NoNetwork kd_NoStation_NoState, kv_NoStation⟩
  have K8_NoChannel : Kind8 K C0 (cs8 C_NoStation C_NoChannel C_TooMany C_NoClosedSet C_NoLink C_NoNames C_NoNetwork C_NoState) C_NoChannel 1 := ⟨by decide, XF_NoChannel, nf_NoChannel, ED_NoChannel, tB_NoChannel, kd8 kd_NoChannel_NoStation kd_NoChannel_NoChannel kd_NoChannel_TooMany kd_NoChannel_NoClosedSet kd_NoChannel_NoLink kd_NoChannel_NoNames kd_NoChannel_NoNetwork kd_NoChannel_NoState, kv_NoChannel⟩
  have K8_TooMany : Kind8 K C0 (cs8 C_NoStation C_NoChannel C_TooMany C_NoClosedSet C_NoLink C_NoNames C_NoNetwork C_NoState) C_TooMany 2 := ⟨by decide, XF_TooMany, nf_TooMany, ED_TooMany, tB_TooMany, kd8 kd_TooMany_NoStation kd_TooMany_NoChannel kd_TooMany_TooMany kd_TooMany_NoClosedSet kd_TooMany_NoLink kd_TooMany_NoNames kd_TooMany_NoNetwork kd_TooMany_NoState, kv_TooMany⟩
  have K8_NoClosedSet : Kind8 K C0 (cs8 C_NoStation C_NoChannel C_TooMany C_NoClosedSet C_NoLink C_NoNames C_NoNetwork C_NoState) C_NoClosedSet 3 := ⟨by decide, XF_NoClosedSet, nf_NoClosedSet, ED_NoClosedSet, tB_NoClosedSet, kd8 kd_NoClosedSet_NoStation kd_NoClosedSet_NoChannel kd_NoClosedSet_TooMany kd_NoClosedSet_NoClosedSet kd_NoClosedSet_NoLink kd_NoClosedSet_NoNames kd_NoClosedSet_NoNetwork kd_NoClosedSet_NoState, kv_NoClosedSet⟩
  have O_is_int : FnOk l.prog w K mg base (L2.CX l.prog w) 1 _ _ _ _ := fn_up (ok_is_int F_is_int T)
  have c_is_int := mkCal O_is_int g_is_int F_is_int.kp b_is_int
  have O_is_link : FnOk l.prog w K mg base (L2.CX l.prog w) 2 _ _ _ _ := fn_up (ok_is_link F_is_link T c_is_int)
  have c_is_link := mkCal O_is_link g_is_link F_is_link.kp b_is_link
  have O_init : FnOk l.prog w K mg base (L2.CX l.prog w) 3 _ _ _ _ := fn_up (ok_init F_M_init T NC c_is_int c_is_link)
  have c_Network : Cnw l.prog w K mg base 3 "Network" C ["self", "stations", "links"] (spInit C) := ⟨_, _, ⟨mk, a_M_init, i_M_init, kc⟩, O_init, hC, b_M_init⟩
  have M_len : Mth l.prog w K mg base 1 C "__len__" ["self"] (spLen C) := ⟨_, _, ⟨a_M_len, i_M_len, F_M_len.kp⟩, fn_up (ok_len F_M_len T NC), b_M_len⟩
  have M_chk : Mth l.prog w K mg base 2 C "check_station" ["self", "station"] (spChk C) := ⟨_, _, ⟨a_M_check_station, i_M_check_station, F_M_check_station.kp⟩, fn_up (ok_chk F_M_check_station T NC c_is_int), b_M_check_station⟩
  have M_chkX : Mth l.prog w K mg base 3 C "check_station" ["self", "station"] (spChkX C C_NoStation) := ⟨_, _, ⟨a_M_check_station, i_M_check_station, F_M_check_station.kp⟩, ok_chkX F_M_check_station T NC c_is_int X_NoStation, b_M_check_station⟩
  have M_nbrs : Mth l.prog w K mg base 3 C "neighbours" ["self", "station"] (spNbrs C) := ⟨_, _, ⟨a_M_neighbours, i_M_neighbours, F_M_neighbours.kp⟩, fn_up (ok_nbrs F_M_neighbours T NC M_chk), b_M_neighbours⟩
  have O_chain : FnOk l.prog w K mg base (L2.CX l.prog w) 1 _ _ _ _ := fn_up (ok_chain F_chain T)
  have c_chain := mkCal O_chain g_chain F_chain.kp b_chain
  have O_greatest_channels : FnOk l.prog w K mg base (L2.CX l.prog w) 3 _ _ _ _ := fn_up (ok_gc F_greatest_channels T NC c_chain M_len)
  have c_greatest_channels := mkCal O_greatest_channels g_greatest_channels F_greatest_channels.kp b_greatest_channels
  have O_others : FnOk l.prog w K mg base (L2.CX l.prog w) 4 _ _ _ _ := fn_up (ok_others F_others T NC M_nbrs)
  have c_others := mkCal O_others g_others F_others.kp b_others
  have O_to_three : FnOk l.prog w K mg base (L2.CX l.prog w) 1 _ _ _ _ := fn_up (ok_to3 F_to_three)
  have c_to_three := mkCal O_to_three g_to_three F_to_three.kp b_to_three
  have O_beside_two : FnOk l.prog w K mg base (L2.CX l.prog w) 1 _ _ _ _ := fn_up (ok_bes F_beside_two)
  have c_beside_two := mkCal O_beside_two g_beside_two F_beside_two.kp b_beside_two
  have O_to_four : FnOk l.prog w K mg base (L2.CX l.prog w) 5 _ _ _ _ := fn_up (ok_to4 F_to_four T NC M_nbrs c_others c_to_three)
  have c_to_four := mkCal O_to_four g_to_four F_to_four.kp b_to_four
  have O_to_five : FnOk l.prog w K mg base (L2.CX l.prog w) 6 _ _ _ _ := fn_up (ok_to5 F_to_five T NC M_nbrs c_others c_to_three c_to_four c_beside_two)
  have c_to_five := mkCal O_to_five g_to_five F_to_five.kp b_to_five
  have O_schedule_low : FnOk l.prog w K mg base (L2.CX l.prog w) 7 _ _ _ _ := ok_low F_schedule_low T NC c_is_int M_chkX M_nbrs c_greatest_channels c_to_three c_to_four c_to_five X_NoChannel
  have c_schedule_low := mkCal O_schedule_low g_schedule_low F_schedule_low.kp b_schedule_low
  have O_all_off : FnOk l.prog w K mg base (L2.CX l.prog w) 3 _ _ _ _ := fn_up (ok_off F_all_off T NC M_len)
  have c_all_off := mkCal O_all_off g_all_off F_all_off.kp b_all_off
  have O_after : FnOk l.prog w K mg base (L2.CX l.prog w) 2 _ _ _ _ := fn_up ((ok_after F_after T NC).mono (by omega))
  have c_after := mkCal O_after g_after F_after.kp b_after
  have O_first_steps : FnOk l.prog w K mg base (L2.CX l.prog w) 5 _ _ _ _ := ok_first F_first_steps T NC M_len c_all_off c_after X_TooMany
  have c_first_steps := mkCal O_first_steps g_first_steps F_first_steps.kp b_first_steps
  have O_check_wanted : FnOk l.prog w K mg base (L2.CX l.prog w) 4 _ _ _ _ := ok_wanted F_check_wanted T NC c_is_int M_chkX X_NoChannel
  have c_check_wanted := mkCal O_check_wanted g_check_wanted F_check_wanted.kp b_check_wanted
  have O_check_state : FnOk l.prog w K mg base (L2.CX l.prog w) 5 _ _ _ _ := ok_cst F_check_state T NC M_len c_is_int M_nbrs X_NoState
  have c_check_state := mkCal O_check_state g_check_state F_check_state.kp b_check_state
  have O_check_never : FnOk l.prog w K mg base (L2.CX l.prog w) 6 _ _ _ _ := ok_nevX F_check_never T NC M_len m_NoState c_check_wanted c_check_state c_all_off c_after X_NoClosedSet
  have c_check_never := mkCal O_check_never g_check_never F_check_never.kp b_check_never
  have O_reachable : FnOk l.prog w K mg base (L2.CX l.prog w) 6 _ _ _ _ := ok_reach F_reachable T c_first_steps
  have O_greatest_reached : FnOk l.prog w K mg base (L2.CX l.prog w) 6 _ _ _ _ := ok_gr F_greatest_reached T NC M_len c_first_steps
  have O_fewest : FnOk l.prog w K mg base (L2.CX l.prog w) 6 _ _ _ _ := ok_fews F_fewest T c_check_wanted c_first_steps
  have k_reachablem : CalK l.prog w K mg base 6 "reachable" ["network", "most"] 1 ["most"] (fun vs zs => vs ++ zs) (spReach C C_TooMany) := by
    obtain ⟨mv, q⟩ := F_reachable.kbinds0 (ps := ["network", "most"]) 1 ["most"] [] (fun us mv ws => us ++ ws) (by simp) (by simp) (fun r1 _ r2 => r1.append r2) (fun D doc pm an cdv ct us mv ws h1 h2 h3 => by
      match us, h1, mv, h2, ws, h3 with
      | [_], _, [], _, [_], _ => rfl)
    exact mkCalK O_reachable g_reachable F_reachable.kp q
  have c_reachabled : Cal l.prog w K mg base 6 "reachable" ["network", "most"] [.int 1000] (spReach C C_TooMany) := by
    obtain ⟨ds, r, q⟩ := F_reachable.binds0 (ps := ["network", "most"]) 1 (by simp) rfl (fun D doc pm an cdv ct us ks h1 h2 => by
      match us, h1, ks, h2 with
      | [_], _, [_], _ => exact ⟨_, _, _, _, _, _, rfl, rfl, rfl⟩)
    exact ⟨_, _, ds, O_reachable, g_reachable, F_reachable.kp, q, r⟩
  have k_greatest_reachedm : CalK l.prog w K mg base 6 "greatest_reached" ["network", "most"] 1 ["most"] (fun vs zs => vs ++ zs) (spGR C C_TooMany) := by
    obtain ⟨mv, q⟩ := F_greatest_reached.kbinds0 (ps := ["network", "most"]) 1 ["most"] [] (fun us mv ws => us ++ ws) (by simp) (by simp) (fun r1 _ r2 => r1.append r2) (fun D doc pm an cdv ct us mv ws h1 h2 h3 => by
      match us, h1, mv, h2, ws, h3 with
      | [_], _, [], _, [_], _ => rfl)
    exact mkCalK O_greatest_reached g_greatest_reached F_greatest_reached.kp q
  have c_greatest_reachedd : Cal l.prog w K mg base 6 "greatest_reached" ["network", "most"] [.int 1000] (spGR C C_TooMany) := by
    obtain ⟨ds, r, q⟩ := F_greatest_reached.binds0 (ps := ["network", "most"]) 1 (by simp) rfl (fun D doc pm an cdv ct us ks h1 h2 => by
      match us, h1, ks, h2 with
      | [_], _, [_], _ => exact ⟨_, _, _, _, _, _, rfl, rfl, rfl⟩)
    exact ⟨_, _, ds, O_greatest_reached, g_greatest_reached, F_greatest_reached.kp, q, r⟩
  have k_fewestm : CalK l.prog w K mg base 6 "fewest" ["network", "station", "channel", "most"] 3 ["most"] (fun vs zs => vs ++ zs) (spFewS C C_NoStation C_NoChannel C_TooMany) := by
    obtain ⟨mv, q⟩ := F_fewest.kbinds0 (ps := ["network", "station", "channel", "most"]) 3 ["most"] [] (fun us mv ws => us ++ ws) (by simp) (by simp) (fun r1 _ r2 => r1.append r2) (fun D doc pm an cdv ct us mv ws h1 h2 h3 => by
      match us, h1, mv, h2, ws, h3 with
      | [_, _, _], _, [], _, [_], _ => rfl)
    exact mkCalK O_fewest g_fewest F_fewest.kp q
  have c_fewestd : Cal l.prog w K mg base 6 "fewest" ["network", "station", "channel", "most"] [.int 1000] (spFewS C C_NoStation C_NoChannel C_TooMany) := by
    obtain ⟨ds, r, q⟩ := F_fewest.binds0 (ps := ["network", "station", "channel", "most"]) 3 (by simp) rfl (fun D doc pm an cdv ct us ks h1 h2 => by
      match us, h1, ks, h2 with
      | [_, _, _], _, [_], _ => exact ⟨_, _, _, _, _, _, rfl, rfl, rfl⟩)
    exact ⟨_, _, ds, O_fewest, g_fewest, F_fewest.kp, q, r⟩
  have O__law_well : FnOk l.prog w K mg base (L2.CX l.prog w) 1 _ _ _ _ := fn_up (ok_well F__law_well T)
  have c__law_well := mkCal O__law_well g__law_well F__law_well.kp b__law_well
  have O__law_take : FnOk l.prog w K mg base (L2.CX l.prog w) 1 _ _ _ _ := fn_up (ok_take F__law_take)
  have c__law_take := mkCal O__law_take g__law_take F__law_take.kp b__law_take
  have O__law_mixed : FnOk l.prog w K mg base (L2.CX l.prog w) 2 _ _ _ _ := fn_up (ok_mixed F__law_mixed T c__law_take)
  have c__law_mixed := mkCal O__law_mixed g__law_mixed F__law_mixed.kp b__law_mixed
  have O__law_links : FnOk l.prog w K mg base (L2.CX l.prog w) 3 _ _ _ _ := fn_up (ok_linksT F__law_links T c__law_take c__law_mixed)
  have c__law_links := mkCal O__law_links g__law_links F__law_links.kp b__law_links
  have L_out : LamDefG l.prog w K mg base "_law_outcome" "_law_ask" (OutT K C0 (cs8 C_NoStation C_NoChannel C_TooMany C_NoClosedSet C_NoLink C_NoNames C_NoNetwork C_NoState)) := by
    refine ⟨_, _, _, _, _, _, _, _, _, _, _, _, g__law_outcome, k__law_outcome, l__law_outcome, c__law_outcome, b__law_outcome, sc__law_outcome, rfl, by first | exact Or.inl rfl | exact Or.inr (Or.inl rfl), ?_⟩
    intro X' q _ _ hKe hme _ hgd hun
    subst hKe hme
    exact out_gives T m_ChannelError ⟨m_NoStation, m_NoChannel, m_TooMany, m_NoClosedSet, m_NoLink, m_NoNames, m_NoNetwork, m_NoState⟩ hgd hun
  have c_outs : CalG l.prog w K mg base 12 "_law_outcomes" ["_law_network", "_law_station", "_law_channel"] (spOuts K C [(Pt__law_outcomes, qO cA__law_outcomes), (Pt__law_right, qR cA__law_right), (Pt_law, qL cA_law)]) := ⟨_, _, ok_outs (TS := [(Pt__law_outcomes, qO cA__law_outcomes), (Pt__law_right, qR cA__law_right), (Pt_law, qL cA_law)]) FC__law_outcomes T NC TB__law_outcomes (.head _) ndPt K8_NoStation K8_NoChannel K8_TooMany K8_NoClosedSet L_out k_fewestm c_check_never c_schedule_low, g__law_outcomes, F__law_outcomes.kp, b__law_outcomes⟩
  have c_right : CalG l.prog w K mg base 13 "_law_right" ["_law_well_here"] (spRight [(Pt__law_outcomes, qO cA__law_outcomes), (Pt__law_right, qR cA__law_right), (Pt_law, qL cA_law)]) := ⟨_, _, ok_right (TS := [(Pt__law_outcomes, qO cA__law_outcomes), (Pt__law_right, qR cA__law_right), (Pt_law, qL cA_law)]) FC__law_right T NC TB__law_right (.tail _ (.head _)) ndPt K8_TooMany L_out c_Network c__law_take c__law_links c_outs k_reachablem k_greatest_reachedm k_fewestm, g__law_right, F__law_right.kp, b__law_right⟩
  exact ok_law (TS := [(Pt__law_outcomes, qO cA__law_outcomes), (Pt__law_right, qR cA__law_right), (Pt_law, qL cA_law)]) FC_law T NC TB_law (.tail _ (.tail _ (.head _))) ndPt K8_TooMany L_out c__law_well c_right c_Network c_reachabled c_greatest_reachedd c_fewestd c_greatest_reachedd c_fewestd
end NX
open PySem PySem.W PyProof.Rows in
set_option maxRecDepth 100000 in
set_option maxHeartbeats 0 in
theorem PySem.Challenge.cw_nextchannel_k46_invalid_questions_of_sea_holds : PySem.Challenge.rw_nextchannel_k46_invalid_questions_of_sea.Holds := by
  w_on; o_law; k_head; (case hw => w_witness2)
  k_fill
  refine NX.walkTG (l := PySem.Challenge.rw_nextchannel_k46_invalid_questions_of_sea) (k := 14) rfl rfl ⟨rfl, by decide, by decide⟩ (fun w h Y => PySem.W.km_in_of Y) ?F
  case F =>
    intro w mg fa h Y KX G hmg
    have hT := PySem.W.km_tabs_of Y
    refine' NX.all_mk KX G hmg ?h_z_ValueError ?h_z_all ?h_z_bool ?h_z_enumerate ?h_z_int ?h_z_isinstance ?h_z_len ?h_z_list ?h_z_max ?h_z_min ?h_z_range ?h_z_repr ?h_z_set ?h_z_sorted ?h_z_tuple ?h_v_MAX_STATIONS ?h_v_MOST_LOW ?h_a_is_int ?h_l_is_int ?h_c_is_int ?h_k_is_int ?h_a_is_link ?h_l_is_link ?h_c_is_link ?h_k_is_link ?h_a_check_state ?h_l_check_state ?h_c_check_state ?h_k_check_state ?h_a_all_off ?h_l_all_off ?h_c_all_off ?h_k_all_off ?h_a_after ?h_l_after ?h_c_after ?h_k_after ?h_a_first_steps ?h_l_first_steps ?h_c_first_steps ?h_k_first_steps ?h_a_check_wanted ?h_l_check_wanted ?h_c_check_wanted ?h_k_check_wanted ?h_a_check_never ?h_l_check_never ?h_c_check_never ?h_k_check_never ?h_a_chain ?h_l_chain ?h_c_chain ?h_k_chain ?h_a_greatest_channels ?h_l_greatest_channels ?h_c_greatest_channels ?h_k_greatest_channels ?h_a_others ?h_l_others ?h_c_others ?h_k_others ?h_a_to_three ?h_l_to_three ?h_c_to_three ?h_k_to_three ?h_a_to_four ?h_l_to_four ?h_c_to_four ?h_k_to_four ?h_a_beside_two ?h_l_beside_two ?h_c_beside_two ?h_k_beside_two ?h_a_to_five ?h_l_to_five ?h_c_to_five ?h_k_to_five ?h_a_schedule_low ?h_l_schedule_low ?h_c_schedule_low ?h_k_schedule_low ?h_a__law_well ?h_l__law_well ?h_c__law_well ?h_k__law_well ?h_a__law_take ?h_l__law_take ?h_c__law_take ?h_k__law_take ?h_a__law_mixed ?h_l__law_mixed ?h_c__law_mixed ?h_k__law_mixed ?h_a__law_links ?h_l__law_links ?h_c__law_links ?h_k__law_links ?h_a__law_outcome ?h_l__law_outcome ?h_c__law_outcome ?h_k__law_outcome ?h_a__law_outcomes ?h_l__law_outcomes ?h_c__law_outcomes ?h_k__law_outcomes ?h_a__law_right ?h_l__law_right ?h_c__law_right ?h_k__law_right ?h_a_law ?h_l_law ?h_c_law ?h_k_law ?h_a_fewest ?h_l_fewest ?h_c_fewest ?h_k_fewest ?h_d_fewest_most ?h_a_reachable ?h_l_reachable ?h_c_reachable ?h_k_reachable ?h_d_reachable_most ?h_a_greatest_reached ?h_l_greatest_reached ?h_c_greatest_reached ?h_k_greatest_reached ?h_d_greatest_reached_most ?h_aC ?h_a_M_init ?h_i_M_init ?h_l_M_init ?h_c_M_init ?h_k_M_init ?h_a_M_len ?h_i_M_len ?h_l_M_len ?h_c_M_len ?h_k_M_len ?h_a_M_neighbours ?h_i_M_neighbours ?h_l_M_neighbours ?h_c_M_neighbours ?h_k_M_neighbours ?h_a_M_check_station ?h_i_M_check_station ?h_l_M_check_station ?h_c_M_check_station ?h_k_M_check_station ?h_pg ?h_hd ?h_po ?h_sa ?h_mk ?h_kc ?h_nK ?h_nN ?h_ha ?h_hn ?h_ht ?h_hm ?h_ne ?h_aB ?h_rdB ?h_gaB ?h_vVB ?h_aX_NoStation ?h_xL_NoStation ?h_sa_NoStation ?h_ga_NoStation ?h_gg_NoStation ?h_nf_NoStation ?h_aI_NoStation ?h_tI_NoStation ?h_l_I_NoStation ?h_c_I_NoStation ?h_k_I_NoStation ?h_kC_NoStation ?h_eC_NoStation ?h_tC_NoStation ?h_hC_NoStation ?h_sC_NoStation ?h_aX_NoChannel ?h_xL_NoChannel ?h_sa_NoChannel ?h_ga_NoChannel ?h_gg_NoChannel ?h_nf_NoChannel ?h_aI_NoChannel ?h_tI_NoChannel ?h_l_I_NoChannel ?h_c_I_NoChannel ?h_k_I_NoChannel ?h_kC_NoChannel ?h_eC_NoChannel ?h_tC_NoChannel ?h_hC_NoChannel ?h_sC_NoChannel ?h_aX_TooMany ?h_xL_TooMany ?h_sa_TooMany ?h_ga_TooMany ?h_gg_TooMany ?h_nf_TooMany ?h_aI_TooMany ?h_tI_TooMany ?h_l_I_TooMany ?h_c_I_TooMany ?h_k_I_TooMany ?h_kC_TooMany ?h_eC_TooMany ?h_tC_TooMany ?h_hC_TooMany ?h_sC_TooMany ?h_aX_NoClosedSet ?h_xL_NoClosedSet ?h_sa_NoClosedSet ?h_ga_NoClosedSet ?h_gg_NoClosedSet ?h_nf_NoClosedSet ?h_aI_NoClosedSet ?h_tI_NoClosedSet ?h_l_I_NoClosedSet ?h_c_I_NoClosedSet ?h_k_I_NoClosedSet ?h_kC_NoClosedSet ?h_eC_NoClosedSet ?h_tC_NoClosedSet ?h_hC_NoClosedSet ?h_sC_NoClosedSet ?h_aX_NoState ?h_xL_NoState ?h_sa_NoState ?h_ga_NoState ?h_gg_NoState ?h_nf_NoState ?h_aI_NoState ?h_tI_NoState ?h_l_I_NoState ?h_c_I_NoState ?h_k_I_NoState ?h_kC_NoState ?h_eC_NoState ?h_tC_NoState ?h_hC_NoState ?h_sC_NoState ?h_aX_NoLink ?h_aX_NoNames ?h_aX_NoNetwork ?h_spn ?h_tkn ?h_e0B ?h_h0B ?h_t0B ?h_cl_NoStation ?h_hc_NoStation ?h_mo_NoStation ?h_s0_NoStation ?h_kd_NoStation_NoStation ?h_kd_NoStation_NoChannel ?h_kd_NoStation_TooMany ?h_kd_NoStation_NoClosedSet ?h_kd_NoStation_NoLink ?h_kd_NoStation_NoNames ?h_kd_NoStation_NoNetwork ?h_kd_NoStation_NoState ?h_cl_NoChannel ?h_hc_NoChannel ?h_mo_NoChannel ?h_s0_NoChannel ?h_kd_NoChannel_NoStation ?h_kd_NoChannel_NoChannel ?h_kd_NoChannel_TooMany ?h_kd_NoChannel_NoClosedSet ?h_kd_NoChannel_NoLink ?h_kd_NoChannel_NoNames ?h_kd_NoChannel_NoNetwork ?h_kd_NoChannel_NoState ?h_cl_TooMany ?h_hc_TooMany ?h_mo_TooMany ?h_s0_TooMany ?h_kd_TooMany_NoStation ?h_kd_TooMany_NoChannel ?h_kd_TooMany_TooMany ?h_kd_TooMany_NoClosedSet ?h_kd_TooMany_NoLink ?h_kd_TooMany_NoNames ?h_kd_TooMany_NoNetwork ?h_kd_TooMany_NoState ?h_cl_NoClosedSet ?h_hc_NoClosedSet ?h_mo_NoClosedSet ?h_s0_NoClosedSet ?h_kd_NoClosedSet_NoStation ?h_kd_NoClosedSet_NoChannel ?h_kd_NoClosedSet_TooMany ?h_kd_NoClosedSet_NoClosedSet ?h_kd_NoClosedSet_NoLink ?h_kd_NoClosedSet_NoNames ?h_kd_NoClosedSet_NoNetwork ?h_kd_NoClosedSet_NoState ?h_tb__law_outcomes ?h_ch__law_outcomes ?h_nP__law_outcomes ?h_ec__law_outcomes ?h_gP__law_outcomes ?h_tb__law_right ?h_ch__law_right ?h_nP__law_right ?h_ec__law_right ?h_gP__law_right ?h_tb_law ?h_ch_law ?h_nP_law ?h_ec_law ?h_gP_law ?h_kv_NoStation ?h_kv_NoChannel ?h_kv_TooMany ?h_kv_NoClosedSet ?h_ndPt
    (case h_z_ValueError => first | k_is | rfl | exact if_pos (beq_self_eq_true _) | exact hT _ (by decide) | decide)
    (case h_z_all => first | k_is | rfl | exact if_pos (beq_self_eq_true _) | exact hT _ (by decide) | decide)
    (case h_z_bool => first | k_is | rfl | exact if_pos (beq_self_eq_true _) | exact hT _ (by decide) | decide)
    (case h_z_enumerate => first | k_is | rfl | exact if_pos (beq_self_eq_true _) | exact hT _ (by decide) | decide)
    (case h_z_int => first | k_is | rfl | exact if_pos (beq_self_eq_true _) | exact hT _ (by decide) | decide)
    (case h_z_isinstance => first | k_is | rfl | exact if_pos (beq_self_eq_true _) | exact hT _ (by decide) | decide)
    (case h_z_len => first | k_is | rfl | exact if_pos (beq_self_eq_true _) | exact hT _ (by decide) | decide)
    (case h_z_list => first | k_is | rfl | exact if_pos (beq_self_eq_true _) | exact hT _ (by decide) | decide)
    (case h_z_max => first | k_is | rfl | exact if_pos (beq_self_eq_true _) | exact hT _ (by decide) | decide)
    (case h_z_min => first | k_is | rfl | exact if_pos (beq_self_eq_true _) | exact hT _ (by decide) | decide)
    (case h_z_range => first | k_is | rfl | exact if_pos (beq_self_eq_true _) | exact hT _ (by decide) | decide)
    (case h_z_repr => first | k_is | rfl | exact if_pos (beq_self_eq_true _) | exact hT _ (by decide) | decide)
    (case h_z_set => first | k_is | rfl | exact if_pos (beq_self_eq_true _) | exact hT _ (by decide) | decide)
    (case h_z_sorted => first | k_is | rfl | exact if_pos (beq_self_eq_true _) | exact hT _ (by decide) | decide)
    (case h_z_tuple => first | k_is | rfl | exact if_pos (beq_self_eq_true _) | exact hT _ (by decide) | decide)
    (case h_v_MAX_STATIONS => first | k_is | rfl | exact if_pos (beq_self_eq_true _) | exact hT _ (by decide) | decide)
    (case h_v_MOST_LOW => first | k_is | rfl | exact if_pos (beq_self_eq_true _) | exact hT _ (by decide) | decide)
    (case h_a_is_int => first | k_is | rfl | exact if_pos (beq_self_eq_true _) | exact hT _ (by decide) | decide)
    (case h_l_is_int => first | k_is | rfl | exact if_pos (beq_self_eq_true _) | exact hT _ (by decide) | decide)
    (case h_c_is_int => first | k_is | rfl | exact if_pos (beq_self_eq_true _) | exact hT _ (by decide) | decide)
    (case h_k_is_int => first | k_is | rfl | exact if_pos (beq_self_eq_true _) | exact hT _ (by decide) | decide)
    (case h_a_is_link => first | k_is | rfl | exact if_pos (beq_self_eq_true _) | exact hT _ (by decide) | decide)
    (case h_l_is_link => first | k_is | rfl | exact if_pos (beq_self_eq_true _) | exact hT _ (by decide) | decide)
    (case h_c_is_link => first | k_is | rfl | exact if_pos (beq_self_eq_true _) | exact hT _ (by decide) | decide)
    (case h_k_is_link => first | k_is | rfl | exact if_pos (beq_self_eq_true _) | exact hT _ (by decide) | decide)
    (case h_a_check_state => first | k_is | rfl | exact if_pos (beq_self_eq_true _) | exact hT _ (by decide) | decide)
    (case h_l_check_state => first | k_is | rfl | exact if_pos (beq_self_eq_true _) | exact hT _ (by decide) | decide)
    (case h_c_check_state => first | k_is | rfl | exact if_pos (beq_self_eq_true _) | exact hT _ (by decide) | decide)
    (case h_k_check_state => first | k_is | rfl | exact if_pos (beq_self_eq_true _) | exact hT _ (by decide) | decide)
    (case h_a_all_off => first | k_is | rfl | exact if_pos (beq_self_eq_true _) | exact hT _ (by decide) | decide)
    (case h_l_all_off => first | k_is | rfl | exact if_pos (beq_self_eq_true _) | exact hT _ (by decide) | decide)
    (case h_c_all_off => first | k_is | rfl | exact if_pos (beq_self_eq_true _) | exact hT _ (by decide) | decide)
    (case h_k_all_off => first | k_is | rfl | exact if_pos (beq_self_eq_true _) | exact hT _ (by decide) | decide)
    (case h_a_after => first | k_is | rfl | exact if_pos (beq_self_eq_true _) | exact hT _ (by decide) | decide)
    (case h_l_after => first | k_is | rfl | exact if_pos (beq_self_eq_true _) | exact hT _ (by decide) | decide)
    (case h_c_after => first | k_is | rfl | exact if_pos (beq_self_eq_true _) | exact hT _ (by decide) | decide)
    (case h_k_after => first | k_is | rfl | exact if_pos (beq_self_eq_true _) | exact hT _ (by decide) | decide)
    (case h_a_first_steps => first | k_is | rfl | exact if_pos (beq_self_eq_true _) | exact hT _ (by decide) | decide)
    (case h_l_first_steps => first | k_is | rfl | exact if_pos (beq_self_eq_true _) | exact hT _ (by decide) | decide)
    (case h_c_first_steps => first | k_is | rfl | exact if_pos (beq_self_eq_true _) | exact hT _ (by decide) | decide)
    (case h_k_first_steps => first | k_is | rfl | exact if_pos (beq_self_eq_true _) | exact hT _ (by decide) | decide)
    (case h_a_check_wanted => first | k_is | rfl | exact if_pos (beq_self_eq_true _) | exact hT _ (by decide) | decide)
    (case h_l_check_wanted => first | k_is | rfl | exact if_pos (beq_self_eq_true _) | exact hT _ (by decide) | decide)
    (case h_c_check_wanted => first | k_is | rfl | exact if_pos (beq_self_eq_true _) | exact hT _ (by decide) | decide)
    (case h_k_check_wanted => first | k_is | rfl | exact if_pos (beq_self_eq_true _) | exact hT _ (by decide) | decide)
    (case h_a_check_never => first | k_is | rfl | exact if_pos (beq_self_eq_true _) | exact hT _ (by decide) | decide)
    (case h_l_check_never => first | k_is | rfl | exact if_pos (beq_self_eq_true _) | exact hT _ (by decide) | decide)
    (case h_c_check_never => first | k_is | rfl | exact if_pos (beq_self_eq_true _) | exact hT _ (by decide) | decide)
    (case h_k_check_never => first | k_is | rfl | exact if_pos (beq_self_eq_true _) | exact hT _ (by decide) | decide)
    (case h_a_chain => first | k_is | rfl | exact if_pos (beq_self_eq_true _) | exact hT _ (by decide) | decide)
    (case h_l_chain => first | k_is | rfl | exact if_pos (beq_self_eq_true _) | exact hT _ (by decide) | decide)
    (case h_c_chain => first | k_is | rfl | exact if_pos (beq_self_eq_true _) | exact hT _ (by decide) | decide)
    (case h_k_chain => first | k_is | rfl | exact if_pos (beq_self_eq_true _) | exact hT _ (by decide) | decide)
    (case h_a_greatest_channels => first | k_is | rfl | exact if_pos (beq_self_eq_true _) | exact hT _ (by decide) | decide)
    (case h_l_greatest_channels => first | k_is | rfl | exact if_pos (beq_self_eq_true _) | exact hT _ (by decide) | decide)
    (case h_c_greatest_channels => first | k_is | rfl | exact if_pos (beq_self_eq_true _) | exact hT _ (by decide) | decide)
    (case h_k_greatest_channels => first | k_is | rfl | exact if_pos (beq_self_eq_true _) | exact hT _ (by decide) | decide)
    (case h_a_others => first | k_is | rfl | exact if_pos (beq_self_eq_true _) | exact hT _ (by decide) | decide)
    (case h_l_others => first | k_is | rfl | exact if_pos (beq_self_eq_true _) | exact hT _ (by decide) | decide)
    (case h_c_others => first | k_is | rfl | exact if_pos (beq_self_eq_true _) | exact hT _ (by decide) | decide)
    (case h_k_others => first | k_is | rfl | exact if_pos (beq_self_eq_true _) | exact hT _ (by decide) | decide)
    (case h_a_to_three => first | k_is | rfl | exact if_pos (beq_self_eq_true _) | exact hT _ (by decide) | decide)
    (case h_l_to_three => first | k_is | rfl | exact if_pos (beq_self_eq_true _) | exact hT _ (by decide) | decide)
    (case h_c_to_three => first | k_is | rfl | exact if_pos (beq_self_eq_true _) | exact hT _ (by decide) | decide)
    (case h_k_to_three => first | k_is | rfl | exact if_pos (beq_self_eq_true _) | exact hT _ (by decide) | decide)
    (case h_a_to_four => first | k_is | rfl | exact if_pos (beq_self_eq_true _) | exact hT _ (by decide) | decide)
    (case h_l_to_four => first | k_is | rfl | exact if_pos (beq_self_eq_true _) | exact hT _ (by decide) | decide)
    (case h_c_to_four => first | k_is | rfl | exact if_pos (beq_self_eq_true _) | exact hT _ (by decide) | decide)
    (case h_k_to_four => first | k_is | rfl | exact if_pos (beq_self_eq_true _) | exact hT _ (by decide) | decide)
    (case h_a_beside_two => first | k_is | rfl | exact if_pos (beq_self_eq_true _) | exact hT _ (by decide) | decide)
    (case h_l_beside_two => first | k_is | rfl | exact if_pos (beq_self_eq_true _) | exact hT _ (by decide) | decide)
    (case h_c_beside_two => first | k_is | rfl | exact if_pos (beq_self_eq_true _) | exact hT _ (by decide) | decide)
    (case h_k_beside_two => first | k_is | rfl | exact if_pos (beq_self_eq_true _) | exact hT _ (by decide) | decide)
    (case h_a_to_five => first | k_is | rfl | exact if_pos (beq_self_eq_true _) | exact hT _ (by decide) | decide)
    (case h_l_to_five => first | k_is | rfl | exact if_pos (beq_self_eq_true _) | exact hT _ (by decide) | decide)
    (case h_c_to_five => first | k_is | rfl | exact if_pos (beq_self_eq_true _) | exact hT _ (by decide) | decide)
    (case h_k_to_five => first | k_is | rfl | exact if_pos (beq_self_eq_true _) | exact hT _ (by decide) | decide)
    (case h_a_schedule_low => first | k_is | rfl | exact if_pos (beq_self_eq_true _) | exact hT _ (by decide) | decide)
    (case h_l_schedule_low => first | k_is | rfl | exact if_pos (beq_self_eq_true _) | exact hT _ (by decide) | decide)
    (case h_c_schedule_low => first | k_is | rfl | exact if_pos (beq_self_eq_true _) | exact hT _ (by decide) | decide)
    (case h_k_schedule_low => first | k_is | rfl | exact if_pos (beq_self_eq_true _) | exact hT _ (by decide) | decide)
    (case h_a__law_well => first | k_is | rfl | exact if_pos (beq_self_eq_true _) | exact hT _ (by decide) | decide)
    (case h_l__law_well => first | k_is | rfl | exact if_pos (beq_self_eq_true _) | exact hT _ (by decide) | decide)
    (case h_c__law_well => first | k_is | rfl | exact if_pos (beq_self_eq_true _) | exact hT _ (by decide) | decide)
    (case h_k__law_well => first | k_is | rfl | exact if_pos (beq_self_eq_true _) | exact hT _ (by decide) | decide)
    (case h_a__law_take => first | k_is | rfl | exact if_pos (beq_self_eq_true _) | exact hT _ (by decide) | decide)
    (case h_l__law_take => first | k_is | rfl | exact if_pos (beq_self_eq_true _) | exact hT _ (by decide) | decide)
    (case h_c__law_take => first | k_is | rfl | exact if_pos (beq_self_eq_true _) | exact hT _ (by decide) | decide)
    (case h_k__law_take => first | k_is | rfl | exact if_pos (beq_self_eq_true _) | exact hT _ (by decide) | decide)
    (case h_a__law_mixed => first | k_is | rfl | exact if_pos (beq_self_eq_true _) | exact hT _ (by decide) | decide)
    (case h_l__law_mixed => first | k_is | rfl | exact if_pos (beq_self_eq_true _) | exact hT _ (by decide) | decide)
    (case h_c__law_mixed => first | k_is | rfl | exact if_pos (beq_self_eq_true _) | exact hT _ (by decide) | decide)
    (case h_k__law_mixed => first | k_is | rfl | exact if_pos (beq_self_eq_true _) | exact hT _ (by decide) | decide)
    (case h_a__law_links => first | k_is | rfl | exact if_pos (beq_self_eq_true _) | exact hT _ (by decide) | decide)
    (case h_l__law_links => first | k_is | rfl | exact if_pos (beq_self_eq_true _) | exact hT _ (by decide) | decide)
    (case h_c__law_links => first | k_is | rfl | exact if_pos (beq_self_eq_true _) | exact hT _ (by decide) | decide)
    (case h_k__law_links => first | k_is | rfl | exact if_pos (beq_self_eq_true _) | exact hT _ (by decide) | decide)
    (case h_a__law_outcome => first | k_is | rfl | exact if_pos (beq_self_eq_true _) | exact hT _ (by decide) | decide)
    (case h_l__law_outcome => first | k_is | rfl | exact if_pos (beq_self_eq_true _) | exact hT _ (by decide) | decide)
    (case h_c__law_outcome => first | k_is | rfl | exact if_pos (beq_self_eq_true _) | exact hT _ (by decide) | decide)
    (case h_k__law_outcome => first | k_is | rfl | exact if_pos (beq_self_eq_true _) | exact hT _ (by decide) | decide)
    (case h_a__law_outcomes => first | k_is | rfl | exact if_pos (beq_self_eq_true _) | exact hT _ (by decide) | decide)
    (case h_l__law_outcomes => first | k_is | rfl | exact if_pos (beq_self_eq_true _) | exact hT _ (by decide) | decide)
    (case h_c__law_outcomes => first | k_is | rfl | exact if_pos (beq_self_eq_true _) | exact hT _ (by decide) | decide)
    (case h_k__law_outcomes => first | k_is | rfl | exact if_pos (beq_self_eq_true _) | exact hT _ (by decide) | decide)
    (case h_a__law_right => first | k_is | rfl | exact if_pos (beq_self_eq_true _) | exact hT _ (by decide) | decide)
    (case h_l__law_right => first | k_is | rfl | exact if_pos (beq_self_eq_true _) | exact hT _ (by decide) | decide)
    (case h_c__law_right => first | k_is | rfl | exact if_pos (beq_self_eq_true _) | exact hT _ (by decide) | decide)
    (case h_k__law_right => first | k_is | rfl | exact if_pos (beq_self_eq_true _) | exact hT _ (by decide) | decide)
    (case h_a_law => first | k_is | rfl | exact if_pos (beq_self_eq_true _) | exact hT _ (by decide) | decide)
    (case h_l_law => first | k_is | rfl | exact if_pos (beq_self_eq_true _) | exact hT _ (by decide) | decide)
    (case h_c_law => first | k_is | rfl | exact if_pos (beq_self_eq_true _) | exact hT _ (by decide) | decide)
    (case h_k_law => first | k_is | rfl | exact if_pos (beq_self_eq_true _) | exact hT _ (by decide) | decide)
    (case h_a_fewest => first | k_is | rfl | exact if_pos (beq_self_eq_true _) | exact hT _ (by decide) | decide)
    (case h_l_fewest => first | k_is | rfl | exact if_pos (beq_self_eq_true _) | exact hT _ (by decide) | decide)
    (case h_c_fewest => first | k_is | rfl | exact if_pos (beq_self_eq_true _) | exact hT _ (by decide) | decide)
    (case h_k_fewest => first | k_is | rfl | exact if_pos (beq_self_eq_true _) | exact hT _ (by decide) | decide)
    (case h_d_fewest_most => first | k_is | rfl | exact if_pos (beq_self_eq_true _) | exact hT _ (by decide) | decide)
    (case h_a_reachable => first | k_is | rfl | exact if_pos (beq_self_eq_true _) | exact hT _ (by decide) | decide)
    (case h_l_reachable => first | k_is | rfl | exact if_pos (beq_self_eq_true _) | exact hT _ (by decide) | decide)
    (case h_c_reachable => first | k_is | rfl | exact if_pos (beq_self_eq_true _) | exact hT _ (by decide) | decide)
    (case h_k_reachable => first | k_is | rfl | exact if_pos (beq_self_eq_true _) | exact hT _ (by decide) | decide)
    (case h_d_reachable_most => first | k_is | rfl | exact if_pos (beq_self_eq_true _) | exact hT _ (by decide) | decide)
    (case h_a_greatest_reached => first | k_is | rfl | exact if_pos (beq_self_eq_true _) | exact hT _ (by decide) | decide)
    (case h_l_greatest_reached => first | k_is | rfl | exact if_pos (beq_self_eq_true _) | exact hT _ (by decide) | decide)
    (case h_c_greatest_reached => first | k_is | rfl | exact if_pos (beq_self_eq_true _) | exact hT _ (by decide) | decide)
    (case h_k_greatest_reached => first | k_is | rfl | exact if_pos (beq_self_eq_true _) | exact hT _ (by decide) | decide)
    (case h_d_greatest_reached_most => first | k_is | rfl | exact if_pos (beq_self_eq_true _) | exact hT _ (by decide) | decide)
    (case h_aC => first | k_is | rfl | exact if_pos (beq_self_eq_true _) | exact hT _ (by decide) | decide)
    (case h_a_M_init => first | k_is | rfl | exact if_pos (beq_self_eq_true _) | exact hT _ (by decide) | decide)
    (case h_i_M_init => first | k_is | rfl | exact if_pos (beq_self_eq_true _) | exact hT _ (by decide) | decide)
    (case h_l_M_init => first | k_is | rfl | exact if_pos (beq_self_eq_true _) | exact hT _ (by decide) | decide)
    (case h_c_M_init => first | k_is | rfl | exact if_pos (beq_self_eq_true _) | exact hT _ (by decide) | decide)
    (case h_k_M_init => first | k_is | rfl | exact if_pos (beq_self_eq_true _) | exact hT _ (by decide) | decide)
    (case h_a_M_len => first | k_is | rfl | exact if_pos (beq_self_eq_true _) | exact hT _ (by decide) | decide)
    (case h_i_M_len => first | k_is | rfl | exact if_pos (beq_self_eq_true _) | exact hT _ (by decide) | decide)
    (case h_l_M_len => first | k_is | rfl | exact if_pos (beq_self_eq_true _) | exact hT _ (by decide) | decide)
    (case h_c_M_len => first | k_is | rfl | exact if_pos (beq_self_eq_true _) | exact hT _ (by decide) | decide)
    (case h_k_M_len => first | k_is | rfl | exact if_pos (beq_self_eq_true _) | exact hT _ (by decide) | decide)
    (case h_a_M_neighbours => first | k_is | rfl | exact if_pos (beq_self_eq_true _) | exact hT _ (by decide) | decide)
    (case h_i_M_neighbours => first | k_is | rfl | exact if_pos (beq_self_eq_true _) | exact hT _ (by decide) | decide)
    (case h_l_M_neighbours => first | k_is | rfl | exact if_pos (beq_self_eq_true _) | exact hT _ (by decide) | decide)
    (case h_c_M_neighbours => first | k_is | rfl | exact if_pos (beq_self_eq_true _) | exact hT _ (by decide) | decide)
    (case h_k_M_neighbours => first | k_is | rfl | exact if_pos (beq_self_eq_true _) | exact hT _ (by decide) | decide)
    (case h_a_M_check_station => first | k_is | rfl | exact if_pos (beq_self_eq_true _) | exact hT _ (by decide) | decide)
    (case h_i_M_check_station => first | k_is | rfl | exact if_pos (beq_self_eq_true _) | exact hT _ (by decide) | decide)
    (case h_l_M_check_station => first | k_is | rfl | exact if_pos (beq_self_eq_true _) | exact hT _ (by decide) | decide)
    (case h_c_M_check_station => first | k_is | rfl | exact if_pos (beq_self_eq_true _) | exact hT _ (by decide) | decide)
    (case h_k_M_check_station => first | k_is | rfl | exact if_pos (beq_self_eq_true _) | exact hT _ (by decide) | decide)
    (case h_pg => first | k_is | rfl | exact if_pos (beq_self_eq_true _) | exact hT _ (by decide) | decide)
    (case h_hd => first | k_is | rfl | exact if_pos (beq_self_eq_true _) | exact hT _ (by decide) | decide)
    (case h_po => first | k_is | rfl | exact if_pos (beq_self_eq_true _) | exact hT _ (by decide) | decide)
    (case h_sa => first | k_is | rfl | exact if_pos (beq_self_eq_true _) | exact hT _ (by decide) | decide)
    (case h_mk => first | k_is | rfl | exact if_pos (beq_self_eq_true _) | exact hT _ (by decide) | decide)
    (case h_kc => first | k_is | rfl | exact if_pos (beq_self_eq_true _) | exact hT _ (by decide) | decide)
    (case h_nK => first | k_is | rfl | exact if_pos (beq_self_eq_true _) | exact hT _ (by decide) | decide)
    (case h_nN => first | k_is | rfl | exact if_pos (beq_self_eq_true _) | exact hT _ (by decide) | decide)
    (case h_ha => first | k_is | rfl | exact if_pos (beq_self_eq_true _) | exact hT _ (by decide) | decide)
    (case h_hn => first | k_is | rfl | exact if_pos (beq_self_eq_true _) | exact hT _ (by decide) | decide)
    (case h_ht => first | k_is | rfl | exact if_pos (beq_self_eq_true _) | exact hT _ (by decide) | decide)
    (case h_hm => first | k_is | rfl | exact if_pos (beq_self_eq_true _) | exact hT _ (by decide) | decide)
    (case h_ne => first | k_is | rfl | exact if_pos (beq_self_eq_true _) | exact hT _ (by decide) | decide)
    (case h_aB => first | k_is | rfl | exact if_pos (beq_self_eq_true _) | exact hT _ (by decide) | decide)
    (case h_rdB => first | k_is | rfl | exact if_pos (beq_self_eq_true _) | exact hT _ (by decide) | decide)
    (case h_gaB => first | k_is | rfl | exact if_pos (beq_self_eq_true _) | exact hT _ (by decide) | decide)
    (case h_vVB => first | k_is | rfl | exact if_pos (beq_self_eq_true _) | exact hT _ (by decide) | decide)
    (case h_aX_NoStation => first | k_is | rfl | exact if_pos (beq_self_eq_true _) | exact hT _ (by decide) | decide)
    (case h_xL_NoStation => first | k_is | rfl | exact if_pos (beq_self_eq_true _) | exact hT _ (by decide) | decide)
    (case h_sa_NoStation => first | k_is | rfl | exact if_pos (beq_self_eq_true _) | exact hT _ (by decide) | decide)
    (case h_ga_NoStation => first | k_is | rfl | exact if_pos (beq_self_eq_true _) | exact hT _ (by decide) | decide)
    (case h_gg_NoStation => first | k_is | rfl | exact if_pos (beq_self_eq_true _) | exact hT _ (by decide) | decide)
    (case h_nf_NoStation => first | k_is | rfl | exact if_pos (beq_self_eq_true _) | exact hT _ (by decide) | decide)
    (case h_aI_NoStation => first | k_is | rfl | exact if_pos (beq_self_eq_true _) | exact hT _ (by decide) | decide)
    (case h_tI_NoStation => first | k_is | rfl | exact if_pos (beq_self_eq_true _) | exact hT _ (by decide) | decide)
    (case h_l_I_NoStation => first | k_is | rfl | exact if_pos (beq_self_eq_true _) | exact hT _ (by decide) | decide)
    (case h_c_I_NoStation => first | k_is | rfl | exact if_pos (beq_self_eq_true _) | exact hT _ (by decide) | decide)
    (case h_k_I_NoStation => first | k_is | rfl | exact if_pos (beq_self_eq_true _) | exact hT _ (by decide) | decide)
    (case h_kC_NoStation => first | k_is | rfl | exact if_pos (beq_self_eq_true _) | exact hT _ (by decide) | decide)
    (case h_eC_NoStation => first | k_is | rfl | exact if_pos (beq_self_eq_true _) | exact hT _ (by decide) | decide)
    (case h_tC_NoStation => first | k_is | rfl | exact if_pos (beq_self_eq_true _) | exact hT _ (by decide) | decide)
    (case h_hC_NoStation => first | k_is | rfl | exact if_pos (beq_self_eq_true _) | exact hT _ (by decide) | decide)
    (case h_sC_NoStation => first | k_is | rfl | exact if_pos (beq_self_eq_true _) | exact hT _ (by decide) | decide)
    (case h_aX_NoChannel => first | k_is | rfl | exact if_pos (beq_self_eq_true _) | exact hT _ (by decide) | decide)
    (case h_xL_NoChannel => first | k_is | rfl | exact if_pos (beq_self_eq_true _) | exact hT _ (by decide) | decide)
    (case h_sa_NoChannel => first | k_is | rfl | exact if_pos (beq_self_eq_true _) | exact hT _ (by decide) | decide)
    (case h_ga_NoChannel => first | k_is | rfl | exact if_pos (beq_self_eq_true _) | exact hT _ (by decide) | decide)
    (case h_gg_NoChannel => first | k_is | rfl | exact if_pos (beq_self_eq_true _) | exact hT _ (by decide) | decide)
    (case h_nf_NoChannel => first | k_is | rfl | exact if_pos (beq_self_eq_true _) | exact hT _ (by decide) | decide)
    (case h_aI_NoChannel => first | k_is | rfl | exact if_pos (beq_self_eq_true _) | exact hT _ (by decide) | decide)
    (case h_tI_NoChannel => first | k_is | rfl | exact if_pos (beq_self_eq_true _) | exact hT _ (by decide) | decide)
    (case h_l_I_NoChannel => first | k_is | rfl | exact if_pos (beq_self_eq_true _) | exact hT _ (by decide) | decide)
    (case h_c_I_NoChannel => first | k_is | rfl | exact if_pos (beq_self_eq_true _) | exact hT _ (by decide) | decide)
    (case h_k_I_NoChannel => first | k_is | rfl | exact if_pos (beq_self_eq_true _) | exact hT _ (by decide) | decide)
    (case h_kC_NoChannel => first | k_is | rfl | exact if_pos (beq_self_eq_true _) | exact hT _ (by decide) | decide)
    (case h_eC_NoChannel => first | k_is | rfl | exact if_pos (beq_self_eq_true _) | exact hT _ (by decide) | decide)
    (case h_tC_NoChannel => first | k_is | rfl | exact if_pos (beq_self_eq_true _) | exact hT _ (by decide) | decide)
    (case h_hC_NoChannel => first | k_is | rfl | exact if_pos (beq_self_eq_true _) | exact hT _ (by decide) | decide)
    (case h_sC_NoChannel => first | k_is | rfl | exact if_pos (beq_self_eq_true _) | exact hT _ (by decide) | decide)
    (case h_aX_TooMany => first | k_is | rfl | exact if_pos (beq_self_eq_true _) | exact hT _ (by decide) | decide)
    (case h_xL_TooMany => first | k_is | rfl | exact if_pos (beq_self_eq_true _) | exact hT _ (by decide) | decide)
    (case h_sa_TooMany => first | k_is | rfl | exact if_pos (beq_self_eq_true _) | exact hT _ (by decide) | decide)
    (case h_ga_TooMany => first | k_is | rfl | exact if_pos (beq_self_eq_true _) | exact hT _ (by decide) | decide)
    (case h_gg_TooMany => first | k_is | rfl | exact if_pos (beq_self_eq_true _) | exact hT _ (by decide) | decide)
    (case h_nf_TooMany => first | k_is | rfl | exact if_pos (beq_self_eq_true _) | exact hT _ (by decide) | decide)
    (case h_aI_TooMany => first | k_is | rfl | exact if_pos (beq_self_eq_true _) | exact hT _ (by decide) | decide)
    (case h_tI_TooMany => first | k_is | rfl | exact if_pos (beq_self_eq_true _) | exact hT _ (by decide) | decide)
    (case h_l_I_TooMany => first | k_is | rfl | exact if_pos (beq_self_eq_true _) | exact hT _ (by decide) | decide)
    (case h_c_I_TooMany => first | k_is | rfl | exact if_pos (beq_self_eq_true _) | exact hT _ (by decide) | decide)
    (case h_k_I_TooMany => first | k_is | rfl | exact if_pos (beq_self_eq_true _) | exact hT _ (by decide) | decide)
    (case h_kC_TooMany => first | k_is | rfl | exact if_pos (beq_self_eq_true _) | exact hT _ (by decide) | decide)
    (case h_eC_TooMany => first | k_is | rfl | exact if_pos (beq_self_eq_true _) | exact hT _ (by decide) | decide)
    (case h_tC_TooMany => first | k_is | rfl | exact if_pos (beq_self_eq_true _) | exact hT _ (by decide) | decide)
    (case h_hC_TooMany => first | k_is | rfl | exact if_pos (beq_self_eq_true _) | exact hT _ (by decide) | decide)
    (case h_sC_TooMany => first | k_is | rfl | exact if_pos (beq_self_eq_true _) | exact hT _ (by decide) | decide)
    (case h_aX_NoClosedSet => first | k_is | rfl | exact if_pos (beq_self_eq_true _) | exact hT _ (by decide) | decide)
    (case h_xL_NoClosedSet => first | k_is | rfl | exact if_pos (beq_self_eq_true _) | exact hT _ (by decide) | decide)
    (case h_sa_NoClosedSet => first | k_is | rfl | exact if_pos (beq_self_eq_true _) | exact hT _ (by decide) | decide)
    (case h_ga_NoClosedSet => first | k_is | rfl | exact if_pos (beq_self_eq_true _) | exact hT _ (by decide) | decide)
    (case h_gg_NoClosedSet => first | k_is | rfl | exact if_pos (beq_self_eq_true _) | exact hT _ (by decide) | decide)
    (case h_nf_NoClosedSet => first | k_is | rfl | exact if_pos (beq_self_eq_true _) | exact hT _ (by decide) | decide)
    (case h_aI_NoClosedSet => first | k_is | rfl | exact if_pos (beq_self_eq_true _) | exact hT _ (by decide) | decide)
    (case h_tI_NoClosedSet => first | k_is | rfl | exact if_pos (beq_self_eq_true _) | exact hT _ (by decide) | decide)
    (case h_l_I_NoClosedSet => first | k_is | rfl | exact if_pos (beq_self_eq_true _) | exact hT _ (by decide) | decide)
    (case h_c_I_NoClosedSet => first | k_is | rfl | exact if_pos (beq_self_eq_true _) | exact hT _ (by decide) | decide)
    (case h_k_I_NoClosedSet => first | k_is | rfl | exact if_pos (beq_self_eq_true _) | exact hT _ (by decide) | decide)
    (case h_kC_NoClosedSet => first | k_is | rfl | exact if_pos (beq_self_eq_true _) | exact hT _ (by decide) | decide)
    (case h_eC_NoClosedSet => first | k_is | rfl | exact if_pos (beq_self_eq_true _) | exact hT _ (by decide) | decide)
    (case h_tC_NoClosedSet => first | k_is | rfl | exact if_pos (beq_self_eq_true _) | exact hT _ (by decide) | decide)
    (case h_hC_NoClosedSet => first | k_is | rfl | exact if_pos (beq_self_eq_true _) | exact hT _ (by decide) | decide)
    (case h_sC_NoClosedSet => first | k_is | rfl | exact if_pos (beq_self_eq_true _) | exact hT _ (by decide) | decide)
    (case h_aX_NoState => first | k_is | rfl | exact if_pos (beq_self_eq_true _) | exact hT _ (by decide) | decide)
    (case h_xL_NoState => first | k_is | rfl | exact if_pos (beq_self_eq_true _) | exact hT _ (by decide) | decide)
    (case h_sa_NoState => first | k_is | rfl | exact if_pos (beq_self_eq_true _) | exact hT _ (by decide) | decide)
    (case h_ga_NoState => first | k_is | rfl | exact if_pos (beq_self_eq_true _) | exact hT _ (by decide) | decide)
    (case h_gg_NoState => first | k_is | rfl | exact if_pos (beq_self_eq_true _) | exact hT _ (by decide) | decide)
    (case h_nf_NoState => first | k_is | rfl | exact if_pos (beq_self_eq_true _) | exact hT _ (by decide) | decide)
    (case h_aI_NoState => first | k_is | rfl | exact if_pos (beq_self_eq_true _) | exact hT _ (by decide) | decide)
    (case h_tI_NoState => first | k_is | rfl | exact if_pos (beq_self_eq_true _) | exact hT _ (by decide) | decide)
    (case h_l_I_NoState => first | k_is | rfl | exact if_pos (beq_self_eq_true _) | exact hT _ (by decide) | decide)
    (case h_c_I_NoState => first | k_is | rfl | exact if_pos (beq_self_eq_true _) | exact hT _ (by decide) | decide)
    (case h_k_I_NoState => first | k_is | rfl | exact if_pos (beq_self_eq_true _) | exact hT _ (by decide) | decide)
    (case h_kC_NoState => first | k_is | rfl | exact if_pos (beq_self_eq_true _) | exact hT _ (by decide) | decide)
    (case h_eC_NoState => first | k_is | rfl | exact if_pos (beq_self_eq_true _) | exact hT _ (by decide) | decide)
    (case h_tC_NoState => first | k_is | rfl | exact if_pos (beq_self_eq_true _) | exact hT _ (by decide) | decide)
    (case h_hC_NoState => first | k_is | rfl | exact if_pos (beq_self_eq_true _) | exact hT _ (by decide) | decide)
    (case h_sC_NoState => first | k_is | rfl | exact if_pos (beq_self_eq_true _) | exact hT _ (by decide) | decide)
    (case h_aX_NoLink => first | k_is | rfl | exact if_pos (beq_self_eq_true _) | exact hT _ (by decide) | decide)
    (case h_aX_NoNames => first | k_is | rfl | exact if_pos (beq_self_eq_true _) | exact hT _ (by decide) | decide)
    (case h_aX_NoNetwork => first | k_is | rfl | exact if_pos (beq_self_eq_true _) | exact hT _ (by decide) | decide)
    (case h_spn => first | k_is | rfl | exact if_pos (beq_self_eq_true _) | exact hT _ (by decide) | decide)
    (case h_tkn => first | k_is | rfl | exact if_pos (beq_self_eq_true _) | exact hT _ (by decide) | decide)
    (case h_e0B => first | k_is | rfl | exact if_pos (beq_self_eq_true _) | exact hT _ (by decide) | decide)
    (case h_h0B => first | k_is | rfl | exact if_pos (beq_self_eq_true _) | exact hT _ (by decide) | decide)
    (case h_t0B => first | k_is | rfl | exact if_pos (beq_self_eq_true _) | exact hT _ (by decide) | decide)
    (case h_cl_NoStation => first | k_is | rfl | exact if_pos (beq_self_eq_true _) | exact hT _ (by decide) | decide)
    (case h_hc_NoStation => first | k_is | rfl | exact if_pos (beq_self_eq_true _) | exact hT _ (by decide) | decide)
    (case h_mo_NoStation => first | k_is | rfl | exact if_pos (beq_self_eq_true _) | exact hT _ (by decide) | decide)
    (case h_s0_NoStation => first | k_is | rfl | exact if_pos (beq_self_eq_true _) | exact hT _ (by decide) | decide)
    (case h_kd_NoStation_NoStation => first | k_is | rfl | exact if_pos (beq_self_eq_true _) | exact hT _ (by decide) | decide)
    (case h_kd_NoStation_NoChannel => first | k_is | rfl | exact if_pos (beq_self_eq_true _) | exact hT _ (by decide) | decide)
    (case h_kd_NoStation_TooMany => first | k_is | rfl | exact if_pos (beq_self_eq_true _) | exact hT _ (by decide) | decide)
    (case h_kd_NoStation_NoClosedSet => first | k_is | rfl | exact if_pos (beq_self_eq_true _) | exact hT _ (by decide) | decide)
    (case h_kd_NoStation_NoLink => first | k_is | rfl | exact if_pos (beq_self_eq_true _) | exact hT _ (by decide) | decide)
    (case h_kd_NoStation_NoNames => first | k_is | rfl | exact if_pos (beq_self_eq_true _) | exact hT _ (by decide) | decide)
    (case h_kd_NoStation_NoNetwork => first | k_is | rfl | exact if_pos (beq_self_eq_true _) | exact hT _ (by decide) | decide)
    (case h_kd_NoStation_NoState => first | k_is | rfl | exact if_pos (beq_self_eq_true _) | exact hT _ (by decide) | decide)
    (case h_cl_NoChannel => first | k_is | rfl | exact if_pos (beq_self_eq_true _) | exact hT _ (by decide) | decide)
    (case h_hc_NoChannel => first | k_is | rfl | exact if_pos (beq_self_eq_true _) | exact hT _ (by decide) | decide)
    (case h_mo_NoChannel => first | k_is | rfl | exact if_pos (beq_self_eq_true _) | exact hT _ (by decide) | decide)
    (case h_s0_NoChannel => first | k_is | rfl | exact if_pos (beq_self_eq_true _) | exact hT _ (by decide) | decide)
    (case h_kd_NoChannel_NoStation => first | k_is | rfl | exact if_pos (beq_self_eq_true _) | exact hT _ (by decide) | decide)
    (case h_kd_NoChannel_NoChannel => first | k_is | rfl | exact if_pos (beq_self_eq_true _) | exact hT _ (by decide) | decide)
    (case h_kd_NoChannel_TooMany => first | k_is | rfl | exact if_pos (beq_self_eq_true _) | exact hT _ (by decide) | decide)
    (case h_kd_NoChannel_NoClosedSet => first | k_is | rfl | exact if_pos (beq_self_eq_true _) | exact hT _ (by decide) | decide)
    (case h_kd_NoChannel_NoLink => first | k_is | rfl | exact if_pos (beq_self_eq_true _) | exact hT _ (by decide) | decide)
    (case h_kd_NoChannel_NoNames => first | k_is | rfl | exact if_pos (beq_self_eq_true _) | exact hT _ (by decide) | decide)
    (case h_kd_NoChannel_NoNetwork => first | k_is | rfl | exact if_pos (beq_self_eq_true _) | exact hT _ (by decide) | decide)
    (case h_kd_NoChannel_NoState => first | k_is | rfl | exact if_pos (beq_self_eq_true _) | exact hT _ (by decide) | decide)
    (case h_cl_TooMany => first | k_is | rfl | exact if_pos (beq_self_eq_true _) | exact hT _ (by decide) | decide)
    (case h_hc_TooMany => first | k_is | rfl | exact if_pos (beq_self_eq_true _) | exact hT _ (by decide) | decide)
    (case h_mo_TooMany => first | k_is | rfl | exact if_pos (beq_self_eq_true _) | exact hT _ (by decide) | decide)
    (case h_s0_TooMany => first | k_is | rfl | exact if_pos (beq_self_eq_true _) | exact hT _ (by decide) | decide)
    (case h_kd_TooMany_NoStation => first | k_is | rfl | exact if_pos (beq_self_eq_true _) | exact hT _ (by decide) | decide)
    (case h_kd_TooMany_NoChannel => first | k_is | rfl | exact if_pos (beq_self_eq_true _) | exact hT _ (by decide) | decide)
    (case h_kd_TooMany_TooMany => first | k_is | rfl | exact if_pos (beq_self_eq_true _) | exact hT _ (by decide) | decide)
    (case h_kd_TooMany_NoClosedSet => first | k_is | rfl | exact if_pos (beq_self_eq_true _) | exact hT _ (by decide) | decide)
    (case h_kd_TooMany_NoLink => first | k_is | rfl | exact if_pos (beq_self_eq_true _) | exact hT _ (by decide) | decide)
    (case h_kd_TooMany_NoNames => first | k_is | rfl | exact if_pos (beq_self_eq_true _) | exact hT _ (by decide) | decide)
    (case h_kd_TooMany_NoNetwork => first | k_is | rfl | exact if_pos (beq_self_eq_true _) | exact hT _ (by decide) | decide)
    (case h_kd_TooMany_NoState => first | k_is | rfl | exact if_pos (beq_self_eq_true _) | exact hT _ (by decide) | decide)
    (case h_cl_NoClosedSet => first | k_is | rfl | exact if_pos (beq_self_eq_true _) | exact hT _ (by decide) | decide)
    (case h_hc_NoClosedSet => first | k_is | rfl | exact if_pos (beq_self_eq_true _) | exact hT _ (by decide) | decide)
    (case h_mo_NoClosedSet => first | k_is | rfl | exact if_pos (beq_self_eq_true _) | exact hT _ (by decide) | decide)
    (case h_s0_NoClosedSet => first | k_is | rfl | exact if_pos (beq_self_eq_true _) | exact hT _ (by decide) | decide)
    (case h_kd_NoClosedSet_NoStation => first | k_is | rfl | exact if_pos (beq_self_eq_true _) | exact hT _ (by decide) | decide)
    (case h_kd_NoClosedSet_NoChannel => first | k_is | rfl | exact if_pos (beq_self_eq_true _) | exact hT _ (by decide) | decide)
    (case h_kd_NoClosedSet_TooMany => first | k_is | rfl | exact if_pos (beq_self_eq_true _) | exact hT _ (by decide) | decide)
    (case h_kd_NoClosedSet_NoClosedSet => first | k_is | rfl | exact if_pos (beq_self_eq_true _) | exact hT _ (by decide) | decide)
    (case h_kd_NoClosedSet_NoLink => first | k_is | rfl | exact if_pos (beq_self_eq_true _) | exact hT _ (by decide) | decide)
    (case h_kd_NoClosedSet_NoNames => first | k_is | rfl | exact if_pos (beq_self_eq_true _) | exact hT _ (by decide) | decide)
    (case h_kd_NoClosedSet_NoNetwork => first | k_is | rfl | exact if_pos (beq_self_eq_true _) | exact hT _ (by decide) | decide)
    (case h_kd_NoClosedSet_NoState => first | k_is | rfl | exact if_pos (beq_self_eq_true _) | exact hT _ (by decide) | decide)
    (case h_tb__law_outcomes => first | k_is | rfl | exact if_pos (beq_self_eq_true _) | exact hT _ (by decide) | decide)
    (case h_ch__law_outcomes => first | k_is | rfl | exact if_pos (beq_self_eq_true _) | exact hT _ (by decide) | decide)
    (case h_nP__law_outcomes => first | k_is | rfl | exact if_pos (beq_self_eq_true _) | exact hT _ (by decide) | decide)
    (case h_ec__law_outcomes => first | k_is | rfl | exact if_pos (beq_self_eq_true _) | exact hT _ (by decide) | decide)
    (case h_gP__law_outcomes => first | k_is | rfl | exact if_pos (beq_self_eq_true _) | exact hT _ (by decide) | decide)
    (case h_tb__law_right => first | k_is | rfl | exact if_pos (beq_self_eq_true _) | exact hT _ (by decide) | decide)
    (case h_ch__law_right => first | k_is | rfl | exact if_pos (beq_self_eq_true _) | exact hT _ (by decide) | decide)
    (case h_nP__law_right => first | k_is | rfl | exact if_pos (beq_self_eq_true _) | exact hT _ (by decide) | decide)
    (case h_ec__law_right => first | k_is | rfl | exact if_pos (beq_self_eq_true _) | exact hT _ (by decide) | decide)
    (case h_gP__law_right => first | k_is | rfl | exact if_pos (beq_self_eq_true _) | exact hT _ (by decide) | decide)
    (case h_tb_law => first | k_is | rfl | exact if_pos (beq_self_eq_true _) | exact hT _ (by decide) | decide)
    (case h_ch_law => first | k_is | rfl | exact if_pos (beq_self_eq_true _) | exact hT _ (by decide) | decide)
    (case h_nP_law => first | k_is | rfl | exact if_pos (beq_self_eq_true _) | exact hT _ (by decide) | decide)
    (case h_ec_law => first | k_is | rfl | exact if_pos (beq_self_eq_true _) | exact hT _ (by decide) | decide)
    (case h_gP_law => first | k_is | rfl | exact if_pos (beq_self_eq_true _) | exact hT _ (by decide) | decide)
    (case h_kv_NoStation => first | k_is | rfl | exact if_pos (beq_self_eq_true _) | exact hT _ (by decide) | decide)
    (case h_kv_NoChannel => first | k_is | rfl | exact if_pos (beq_self_eq_true _) | exact hT _ (by decide) | decide)
    (case h_kv_TooMany => first | k_is | rfl | exact if_pos (beq_self_eq_true _) | exact hT _ (by decide) | decide)
    (case h_kv_NoClosedSet => first | k_is | rfl | exact if_pos (beq_self_eq_true _) | exact hT _ (by decide) | decide)
    (case h_ndPt => first | k_is | rfl | exact if_pos (beq_self_eq_true _) | exact hT _ (by decide) | decide)
#print axioms PySem.Challenge.cw_nextchannel_k46_invalid_questions_of_sea_holds

