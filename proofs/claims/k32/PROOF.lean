import PyProof.Rows.All
import Wide.All
import OpenK.AllK
import Wide.FinOn
import HandS.ForMost
import HandS.ForExc
import HandS.Evl
import HandS.IsInst
import HandS.Defaults
import HandS.Conv
import HandS.Deep
import HandS.SortInts
import HandS.SortRule
import HandS.TupAny
import HandS.TupMul
import HandS.OwnEq
import HandS.Strs
import HandS.SetFor
import HandS.ExcInit
import HandS.ExcIs
import HandS.ExcField
import HandS.ClsMeth
import HandS.Zip
import HandS.MakeKwOnly
import PySem.Challenge.RW_nextchannel_k32_whole_no_smaller_network
set_option Elab.async false
set_option linter.all false
set_option maxRecDepth 100000
set_option maxHeartbeats 4000000
/-! Own layer over HandS: owned local objects (Own), readings step by step (g_..). -/
namespace NX
open PySem PySem.Spec PyProof.Rows L2
open Evl (Ex ex_l ex_t fresh_back)

/-! ### heaps -/
/-- H without the addresses of L -/
def cut (H : Hp) (L : List (Addr × HO)) : Hp := fun a => if a ∈ L.map Prod.fst then none else H a
theorem cut_in {H : Hp} {L : List (Addr × HO)} {a : Addr} (h : a ∈ L.map Prod.fst) : cut H L a = none := by unfold cut; rw [if_pos h]
theorem cut_out {H : Hp} {L : List (Addr × HO)} {a : Addr} (h : a ∉ L.map Prod.fst) : cut H L a = H a := by unfold cut; rw [if_neg h]
def noTup : HO → Bool
  | .tup _ => false
  | .frz _ _ => false
  | _ => true
/-- G: what stands still; L: what the body may change, as it is now -/
structure Own (G : Hp) (L : List (Addr × HO)) (H : Hp) : Prop where
  ex : Ex G H
  at_ : ∀ p ∈ L, G p.1 = none ∧ H p.1 = some p.2
  nd : (L.map Prod.fst).Nodup
  nt : ∀ p ∈ L, noTup p.2 = true
section
variable {G H H' : Hp} {L : List (Addr × HO)} {p q r s : Addr} {o o' o1 o2 o3 o4 : HO}
theorem Own.start (H : Hp) : Own H [] H := ⟨Ex.refl H, fun _ h => (nomatch h), by simp, fun _ h => (nomatch h)⟩
theorem Own.grow (S : Own G L H) (e : Ex H H') : Own G L H' := ⟨S.ex.trans e, fun p h => ⟨(S.at_ p h).1, e _ _ (S.at_ p h).2⟩, S.nd, S.nt⟩
theorem Own.fresh (S : Own G L H) (h : H p = none) : p ∉ L.map Prod.fst := fun m => by
  obtain ⟨x, hx, e⟩ := List.mem_map.mp m
  have z := (S.at_ x hx).2
  rw [e, h] at z
  cases z
theorem Own.new (S : Own G L H) (e : Ex H H') (hp : H p = none) (h : H' p = some o) (ht : noTup o = true := by rfl) : Own G ((p, o) :: L) H' :=
  ⟨S.ex.trans e, fun x hx => by
    rcases List.mem_cons.mp hx with rfl | hx
    · exact ⟨fresh_back S.ex hp, h⟩
    · exact ⟨(S.at_ x hx).1, e _ _ (S.at_ x hx).2⟩, by
    rw [List.map_cons, List.nodup_cons]
    exact ⟨S.fresh hp, S.nd⟩, fun x hx => by
    rcases List.mem_cons.mp hx with rfl | hx
    · exact ht
    · exact S.nt x hx⟩
theorem ex_upd (hp : H p = none) : Ex H (upd H p o) := Ex.new hp
theorem Own.lay (S : Own G L H) (hp : H p = none) (ht : noTup o = true := by rfl) : Own G ((p, o) :: L) (upd H p o) := S.new (Ex.new hp) hp upd_same ht
theorem Own.forget (S : Own G ((p, o) :: L) H) : Own G L H := ⟨S.ex, fun x hx => S.at_ x (List.mem_cons_of_mem _ hx), by
  have z := S.nd
  rw [List.map_cons, List.nodup_cons] at z
  exact z.2, fun x hx => S.nt x (List.mem_cons_of_mem _ hx)⟩
theorem Own.get0 (S : Own G ((p, o) :: L) H) : H p = some o := (S.at_ _ List.mem_cons_self).2
theorem Own.get1 (S : Own G ((q, o1) :: (p, o) :: L) H) : H p = some o := S.forget.get0
theorem Own.get2 (S : Own G ((r, o2) :: (q, o1) :: (p, o) :: L) H) : H p = some o := S.forget.get1
theorem Own.get3 (S : Own G ((s, o3) :: (r, o2) :: (q, o1) :: (p, o) :: L) H) : H p = some o := S.forget.get2
theorem Own.no0 (S : Own G ((p, o) :: L) H) : G p = none := (S.at_ _ List.mem_cons_self).1
theorem Own.nin (S : Own G ((p, o) :: L) H) : p ∉ L.map Prod.fst := by
  have z := S.nd
  rw [List.map_cons, List.nodup_cons] at z
  exact z.1
theorem ex_mut (e : Ex G H) (h : G p = none) : Ex G (upd H p o) := fun a u ha => by
  rw [upd_ne (ne_of_none ha h)]
  exact e a u ha
theorem Own.put0 (S : Own G ((p, o) :: L) H) (ht : noTup o' = true := by rfl) : Own G ((p, o') :: L) (upd H p o') :=
  ⟨ex_mut S.ex S.no0, fun x hx => by
    rcases List.mem_cons.mp hx with rfl | hx
    · exact ⟨S.no0, upd_same⟩
    · have ne : x.1 ≠ p := fun e => S.nin (e ▸ List.mem_map_of_mem hx)
      rw [upd_ne ne]
      exact S.at_ x (List.mem_cons_of_mem _ hx), S.nd, fun x hx => by
    rcases List.mem_cons.mp hx with rfl | hx
    · exact ht
    · exact S.nt x (List.mem_cons_of_mem _ hx)⟩
theorem Own.perm {L' : List (Addr × HO)} (S : Own G L H) (h : L'.Perm L) : Own G L' H :=
  ⟨S.ex, fun x hx => S.at_ x (h.mem_iff.mp hx), (h.map Prod.fst).nodup_iff.mpr S.nd, fun x hx => S.nt x (h.mem_iff.mp hx)⟩
theorem Own.getM (S : Own G L H) (h : (p, o) ∈ L) : H p = some o := (S.at_ _ h).2
theorem nd_ne {L : List (Addr × HO)} (nd : (L.map Prod.fst).Nodup) {i j : Nat} {a b : Addr × HO} (hi : L[i]? = some a) (hj : L[j]? = some b) (ne : i ≠ j) : a.1 ≠ b.1 := fun e => by
  have h1 : (L.map Prod.fst)[i]? = some a.1 := by rw [List.getElem?_map, hi] <;> rfl
  have h2 : (L.map Prod.fst)[j]? = some a.1 := by rw [List.getElem?_map, hj, e] <;> rfl
  obtain ⟨l1, e1⟩ := List.getElem?_eq_some_iff.mp h1
  obtain ⟨l2, e2⟩ := List.getElem?_eq_some_iff.mp h2
  exact ne ((List.getElem_inj nd).mp (e1.trans e2.symm))
theorem Own.putM {j : Nat} (S : Own G L H) (h : L[j]? = some (p, o)) (ht : noTup o' = true := by rfl) : Own G (L.set j (p, o')) (upd H p o') := by
  have hm : (p, o) ∈ L := List.mem_of_getElem? h
  have hj : j < L.length := (List.getElem?_eq_some_iff.mp h).1
  have np : G p = none := (S.at_ _ hm).1
  have em : (L.set j (p, o')).map Prod.fst = L.map Prod.fst := by
    rw [List.map_set]
    refine List.ext_getElem? fun i => ?_
    by_cases c : j = i
    · subst c
      rw [List.getElem?_set_self (by rw [List.length_map]; exact hj), List.getElem?_map, h] <;> rfl
    · rw [List.getElem?_set_ne c]
  have cases_ : ∀ x ∈ L.set j (p, o'), x = (p, o') ∨ (x ∈ L ∧ x.1 ≠ p) := fun x hx => by
    obtain ⟨i, hi, e⟩ := List.mem_iff_getElem.mp hx
    have e' : (L.set j (p, o'))[i]? = some x := by rw [List.getElem?_eq_getElem hi, e]
    by_cases c : j = i
    · subst c
      rw [List.getElem?_set_self hj] at e'
      exact .inl (Option.some.inj e').symm
    · rw [List.getElem?_set_ne c] at e'
      exact .inr ⟨List.mem_of_getElem? e', nd_ne S.nd e' h (Ne.symm c)⟩
  refine ⟨ex_mut S.ex np, fun x hx => ?_, by rw [em]; exact S.nd, fun x hx => ?_⟩
  · rcases cases_ x hx with rfl | ⟨m, ne⟩
    · exact ⟨np, upd_same⟩
    · rw [upd_ne ne]
      exact S.at_ x m
  · rcases cases_ x hx with rfl | ⟨m, ne⟩
    · exact ht
    · exact S.nt x m
theorem Own.swap (S : Own G ((p, o) :: (q, o1) :: L) H) : Own G ((q, o1) :: (p, o) :: L) H := S.perm (List.Perm.swap _ _ _)
theorem Own.put1 (S : Own G ((q, o1) :: (p, o) :: L) H) (ht : noTup o' = true := by rfl) : Own G ((q, o1) :: (p, o') :: L) (upd H p o') := (S.swap.put0 ht).swap
theorem rot_perm {α : Type} (a b c : α) (l : List α) : (c :: a :: b :: l).Perm (a :: b :: c :: l) := (List.Perm.swap a c _).trans ((List.Perm.swap b c _).cons _)
theorem Own.rot (S : Own G ((r, o2) :: (q, o1) :: (p, o) :: L) H) : Own G ((p, o) :: (r, o2) :: (q, o1) :: L) H := S.perm (rot_perm _ _ _ _)
theorem Own.unrot (S : Own G ((p, o) :: (r, o2) :: (q, o1) :: L) H) : Own G ((r, o2) :: (q, o1) :: (p, o) :: L) H := S.perm (rot_perm _ _ _ _).symm
theorem Own.put2 (S : Own G ((r, o2) :: (q, o1) :: (p, o) :: L) H) (ht : noTup o' = true := by rfl) : Own G ((r, o2) :: (q, o1) :: (p, o') :: L) (upd H p o') := (S.rot.put0 ht).unrot
/-- what is new in H' (and the tuples of H) -/
def nw (H H' : Hp) : Hp := fun a => match H a with
  | none => H' a
  | some o => if noTup o then none else H' a
theorem nw_new {a : Addr} (h : H a = none) : nw H H' a = H' a := by unfold nw; rw [h]
theorem nw_tup {a : Addr} {o : HO} (h : H a = some o) (ht : noTup o = false) : nw H H' a = H' a := by
  unfold nw; rw [h]
  show (if noTup o = true then none else H' a) = H' a
  rw [ht] <;> rfl
theorem nw_mono {G H H' : Hp} (e : Ex G H) : Ex (nw H H') (nw G H') := fun a u h => by
  cases q : H a with
  | none =>
    rw [nw_new q] at h
    rw [nw_new (fresh_back e q)]
    exact h
  | some o =>
    cases t : noTup o with
    | true => unfold nw at h; rw [q] at h; simp [t] at h
    | false =>
      rw [nw_tup q t] at h
      cases z : G a with
      | none => rw [nw_new z]; exact h
      | some o' =>
        have y := e _ _ z
        rw [q] at y
        cases y
        rw [nw_tup z t]
        exact h
/-- what is new stands still from now on -/
theorem Own.absorb (S : Own G L H) (e : Ex H H') : Own (cut H' L) L H' ∧ Ex G (cut H' L) ∧ Ex (nw H H') (cut H' L) :=
  ⟨⟨fun a u h => by
      by_cases m : a ∈ L.map Prod.fst
      · rw [cut_in m] at h; cases h
      · rw [cut_out m] at h; exact h, fun x hx => ⟨cut_in (List.mem_map_of_mem hx), e _ _ (S.at_ x hx).2⟩, S.nd, S.nt⟩,
    fun a u h => by
      have m : a ∉ L.map Prod.fst := fun m => by
        obtain ⟨x, hx, z⟩ := List.mem_map.mp m
        have y := (S.at_ x hx).1
        rw [z, h] at y
        cases y
      rw [cut_out m]
      exact e _ _ (S.ex _ _ h),
    fun a o h => by
      cases q : H a with
      | none => rw [cut_out (S.fresh q), ← nw_new (H' := H') q]; exact h
      | some u =>
        cases t : noTup u with
        | true => unfold nw at h; rw [q] at h; simp [t] at h
        | false =>
          have m : a ∉ L.map Prod.fst := fun m => by
            obtain ⟨x, hx, z⟩ := List.mem_map.mp m
            have y := (S.at_ x hx).2
            rw [z, q] at y
            have n := S.nt x hx
            rw [← Option.some.inj y, t] at n
            cases n
          rw [cut_out m, ← nw_tup (H' := H') q t]
          exact h⟩
/-- the head of L stands still from now on -/
theorem Own.freeze (S : Own G ((p, o) :: L) H) : Own (upd G p o) L H ∧ Ex G (upd G p o) ∧ upd G p o p = some o :=
  ⟨⟨fun a u h => by
      by_cases e : a = p
      · subst e
        rw [upd_same] at h
        cases h
        exact S.get0
      · rw [upd_ne e] at h
        exact S.ex _ _ h, fun x hx => ⟨by
      have ne : x.1 ≠ p := fun e => S.nin (e ▸ List.mem_map_of_mem hx)
      rw [upd_ne ne]
      exact (S.at_ x (List.mem_cons_of_mem _ hx)).1, (S.at_ x (List.mem_cons_of_mem _ hx)).2⟩, S.forget.nd, S.forget.nt⟩, Ex.new S.no0, upd_same⟩
/-- from all that is known: a call that may change the object at p -/
theorem Own.give (h : H p = some o) (ht : noTup o = true := by rfl) : Own (cut H [(p, o)]) [(p, o)] H :=
  ⟨fun a u e => by
      by_cases m : a ∈ ([(p, o)] : List (Addr × HO)).map Prod.fst
      · rw [cut_in m] at e; cases e
      · rw [cut_out m] at e; exact e, fun x hx => by
      have z : x = (p, o) := by simpa using hx
      subst z
      exact ⟨cut_in (by simp), h⟩, by simp, fun x hx => by
      have z : x = (p, o) := by simpa using hx
      subst z
      exact ht⟩
/-- behind such a call -/
theorem Own.back {L' : List (Addr × HO)} (S : Own G ((p, o) :: L) H) (T : Own (cut H [(p, o)]) ((p, o') :: L') H') : Own G ((p, o') :: L' ++ L) H' := by
  have k : ∀ a u, a ≠ p → H a = some u → H' a = some u := fun a u ne e => T.ex _ _ (by rw [cut_out (by simpa using ne)]; exact e)
  refine ⟨fun a u e => k a u (ne_of_none e S.no0) (S.ex _ _ e), fun x hx => ?_, ?_, fun x hx => (List.mem_append.mp hx).elim (T.nt x) (S.forget.nt x)⟩
  · rcases List.mem_append.mp hx with hx | hx
    · refine ⟨?_, (T.at_ x hx).2⟩
      have z := (T.at_ x hx).1
      by_cases e : x.1 = p
      · rw [e]; exact S.no0
      · rw [cut_out (by simpa using e)] at z
        exact fresh_back S.ex z
    · have ne : x.1 ≠ p := fun e => S.nin (e ▸ List.mem_map_of_mem hx)
      exact ⟨(S.at_ x (List.mem_cons_of_mem _ hx)).1, k _ _ ne (S.at_ x (List.mem_cons_of_mem _ hx)).2⟩
  · rw [List.map_append, List.nodup_append]
    refine ⟨T.nd, S.forget.nd, fun a ha b hb e => ?_⟩
    subst e
    obtain ⟨x, hx, ex⟩ := List.mem_map.mp ha
    obtain ⟨y, hy, ey⟩ := List.mem_map.mp hb
    have ne : y.1 ≠ p := fun e => S.nin (e ▸ List.mem_map_of_mem hy)
    have z := (T.at_ x hx).1
    rw [ex, ← ey, cut_out (by simpa using ne), (S.at_ y (List.mem_cons_of_mem _ hy)).2] at z
    cases z
/-- what stood still, without the object that a call may change -/
theorem Own.keep (S : Own G ((p, o) :: L) H) : Ex G (cut H [(p, o)]) := fun a u e => by
  rw [cut_out (by simpa using ne_of_none e S.no0)]
  exact S.ex _ _ e
end

/-! ### readings, one step back at a time -/
/-- a new list, a new tuple is laid -/
def NewL (xs : List V) (H : Hp) (Q : VK) : Prop := xs.length ≤ sizeLine ∧ ∀ p, H p = none → Q (.ref p) (upd H p (.lst xs))
def NewT (xs : List V) (H : Hp) (Q : VK) : Prop := xs.length ≤ sizeLine ∧ ∀ p, H p = none → Q (.ref p) (upd H p (.tup xs))
def NewR (a b : Int) (H : Hp) (Q : VK) : Prop := RgOk a b ∧ ∀ q, H q = none → Q (.ref q) (upd H q (.lst (rgV a b)))
def rTupS (K : PySem.W.Frag) : List V → Hp → VK → Prop := fun xs H Q => ∃ p ys, xs = [.ref p] ∧ ((SqL K H p ys ∧ ∀ l, H l = none → Q (.ref l) (upd H l (.tup ys))) ∨ (SqT K H p ys ∧ Q (.ref p) H))
def rInt1 : List V → Hp → VK → Prop := fun xs H Q => (∃ i, xs = [.int i] ∧ Q (.int i) H) ∨ ∃ k, xs = [.bl k] ∧ Q (.int (if k then 1 else 0)) H
def rMin2 : List V → Hp → VK → Prop := fun xs H Q => ∃ i j, xs = [.int i, .int j] ∧ Q (.int (if j < i then j else i)) H
def rMax2 : List V → Hp → VK → Prop := fun xs H Q => ∃ i j, xs = [.int i, .int j] ∧ Q (.int (if j > i then j else i)) H
def rIsN : R2 := fun x y H Q => y = .non ∧ Q (.bl (decide (x = .non))) H
def rNotN : R2 := fun x y H Q => y = .non ∧ Q (.bl (!decide (x = .non))) H
section
variable {X : Cx}
theorem call_lenN : CallR X (.builtin "len") (Evl.rLenS X.K) := call_len_seq
theorem call_listN : CallR X (.type "list") (Evl.rListS X.K) := call_list_of
theorem call_tupN : CallR X (.type "tuple") (rTupS X.K) := call_tuple_of
theorem call_intN : CallR X (.type "int") rInt1 := call_int1
theorem call_minN (hc : X.calm = true) : CallR X (.builtin "min") rMin2 := call_min2 hc
theorem call_maxN (hc : X.calm = true) : CallR X (.builtin "max") rMax2 := call_max2 hc
theorem op_isNone : OpR X (compareOp .Is) rIsN := op_isN
theorem op_notNone : OpR X (compareOp .IsNot) rNotN := op_notN
end
section
variable {K : PySem.W.Frag} {σ : L2.St} {H : Hp} {ta tb tc te : TE} {t u : TT} {tr : TA} {Q : VK} {v x y : V} {r : R2}
theorem g_var {i : Nat} (h : σ[i]? = some (some v)) (k : Q v H) : tVar i σ H Q := ⟨v, h, k⟩
theorem g_c (k : Q v H) : tC v σ H Q := k
theorem g_op (k : ta σ H fun x H1 => tb σ H1 fun y H2 => r x y H2 Q) : tOp r ta tb σ H Q := k
theorem g_un {r : V → Hp → VK → Prop} (k : ta σ H fun x H1 => r x H1 Q) : tUn r ta σ H Q := k
theorem g_I0 {g : Int → Int → V} {i j : Int} (k : Q (g i j) H) : rI0 g (.int i) (.int j) H Q := ⟨i, j, rfl, rfl, k⟩
theorem g_I {C : Int → Int → Prop} {g : Int → Int → V} {i j : Int} (c : C i j) (k : Q (g i j) H) : rI C g (.int i) (.int j) H Q := ⟨i, j, rfl, rfl, c, k⟩
theorem g_U {g : Int → V} {i : Int} (k : Q (g i) H) : rU g (.int i) H Q := ⟨i, rfl, k⟩
theorem g_eqI {i j : Int} (k : Q (.bl (decide (i = j))) H) : rEq (.int i) (.int j) H Q := ⟨rfl, by
  have e : decide (V.int i = V.int j) = decide (i = j) := by
    by_cases z : i = j
    · rw [decide_eq_true z, decide_eq_true (by rw [z])]
    · rw [decide_eq_false z, decide_eq_false (fun q => z (V.int.inj q))]
  rw [e]; exact k⟩
theorem g_neI {i j : Int} (k : Q (.bl (!decide (i = j))) H) : rNe (.int i) (.int j) H Q := ⟨rfl, by
  have e : decide (V.int i = V.int j) = decide (i = j) := by
    by_cases z : i = j
    · rw [decide_eq_true z, decide_eq_true (by rw [z])]
    · rw [decide_eq_false z, decide_eq_false (fun q => z (V.int.inj q))]
  rw [e]; exact k⟩
theorem g_neB {i j : Bool} (k : Q (.bl (!decide (i = j))) H) : rNe (.bl i) (.bl j) H Q := ⟨rfl, by
  have e : decide (V.bl i = V.bl j) = decide (i = j) := by
    by_cases z : i = j
    · rw [decide_eq_true z, decide_eq_true (by rw [z])]
    · rw [decide_eq_false z, decide_eq_false (fun q => z (V.bl.inj q))]
  rw [e]; exact k⟩
theorem g_eqB {i j : Bool} (k : Q (.bl (decide (i = j))) H) : rEq (.bl i) (.bl j) H Q := ⟨rfl, by
  have e : decide (V.bl i = V.bl j) = decide (i = j) := by
    by_cases z : i = j
    · rw [decide_eq_true z, decide_eq_true (by rw [z])]
    · rw [decide_eq_false z, decide_eq_false (fun q => z (V.bl.inj q))]
  rw [e]; exact k⟩
theorem g_cb {r : List V → Hp → VK → Prop} (k : tr σ H fun vs H1 => r vs H1 Q) : tCB r tr σ H Q := k
theorem g_call {sp : Sp} {dvs : List V} {E : XK} (k : tr σ H fun vs H1 => sp (vs ++ dvs) H1 Q E) : tCall sp dvs E tr σ H Q := k
theorem g_nil {Q : List V → Hp → Prop} (k : Q [] H) : tNil σ H Q := k
theorem g_cons {Q : List V → Hp → Prop} (k : ta σ H fun x H1 => tr σ H1 fun xs H2 => Q (x :: xs) H2) : tCons ta tr σ H Q := k
theorem g_test {Q : Bool → Hp → Prop} (k : te σ H fun x H1 => ∃ b, x = .bl b ∧ Q b H1) : tTest te σ H Q := k
theorem g_B {Q : Bool → Hp → Prop} (k : te σ H fun x H1 => ∃ b, x = .bl b ∧ Q b H1) : tB te σ H Q := k
theorem g_bl {b : Bool} {Q : Bool → Hp → Prop} (k : Q b H) : ∃ c, V.bl b = .bl c ∧ Q c H := ⟨b, rfl, k⟩
theorem g_and {Q : Bool → Hp → Prop} (k : t σ H fun c H1 => if c = true then u σ H1 Q else Q false H1) : tAnd t u σ H Q := k
theorem g_or {Q : Bool → Hp → Prop} (k : t σ H fun c H1 => if c = true then Q true H1 else u σ H1 Q) : tOr t u σ H Q := k
theorem g_not {Q : Bool → Hp → Prop} (k : t σ H fun c H1 => Q (!c) H1) : tNot t σ H Q := k
theorem g_andV (k : ta σ H fun x H1 => ∃ c, x = .bl c ∧ if c = true then tb σ H1 Q else Q (.bl false) H1) : tAndV ta tb σ H Q := k
theorem g_orV (k : ta σ H fun x H1 => ∃ c, x = .bl c ∧ if c = true then Q (.bl true) H1 else tb σ H1 Q) : tOrV ta tb σ H Q := k
theorem g_notV (k : ta σ H fun x H1 => ∃ c, x = .bl c ∧ Q (.bl (!c)) H1) : tNotV ta σ H Q := k
theorem g_exV {b : Bool} {P : Bool → Prop} (k : P b) : ∃ c, V.bl b = .bl c ∧ P c := ⟨b, rfl, k⟩
theorem g_if (k : t σ H fun c H1 => if c = true then ta σ H1 Q else tb σ H1 Q) : tIf t ta tb σ H Q := k
theorem g_chain {r' : R2} (k : ta σ H fun x H1 => tb σ H1 fun y H2 => r x y H2 fun z H3 => ∃ k, z = .bl k ∧ (if k = true then tc σ H3 fun w' H4 => r' y w' H4 Q else Q (.bl false) H3)) : tChain r r' ta tb tc σ H Q := k
theorem g_tup (k : tr σ H fun xs H1 => NewT xs H1 Q) : tTup tr σ H Q := k
theorem g_lst (k : tr σ H fun xs H1 => NewL xs H1 Q) : tLst tr σ H Q := k
theorem g_sl {rs : V → Option Int → Option Int → Hp → VK → Prop} {tl th : TO} (k : te σ H fun x H1 => tl σ H1 fun l H2 => th σ H2 fun u H3 => rs x l u H3 Q) : tSl rs te tl th σ H Q := k
theorem g_noPart {Q : Option Int → Hp → Prop} (k : Q none H) : tNoPart σ H Q := k
theorem g_part {Q : Option Int → Hp → Prop} (k : te σ H fun x H1 => ∃ i, x = .int i ∧ Q (some i) H1) : tPart te σ H Q := k
theorem g_exI {i : Int} {P : Int → Prop} (k : P i) : ∃ j, V.int i = .int j ∧ P j := ⟨i, rfl, k⟩
theorem g_bm {T : String} {rm : V → List V → Hp → VK → Prop} (k : te σ H fun x H1 => tyV K T x H1 ∧ tr σ H1 fun xs H2 => rm x xs H2 Q) : tBM K T rm te tr σ H Q := k
theorem g_bm0 {T : String} {rm : V → List V → Hp → VK → Prop} (k : te σ H fun x H1 => tyV K T x H1 ∧ rm x [] H1 Q) : tBM0 K T rm te σ H Q := k
end
section
variable {K : PySem.W.Frag} {σ : L2.St} {H : Hp} {te : TE} {tt : TT} {ts us : TS} {tr : TA} {v : V} {n b c : L2.St → Hp → Prop} {rt : VK} {g : TG}
theorem s_seq (k : ts ⟨us ⟨n, rt, b, c⟩, rt, b, c⟩ σ H) : tSeq ts us ⟨n, rt, b, c⟩ σ H := k
theorem s_next (k : n σ H) : tNext ⟨n, rt, b, c⟩ σ H := k
theorem s_brk (k : b σ H) : tBreak ⟨n, rt, b, c⟩ σ H := k
theorem s_cont (k : c σ H) : tCont ⟨n, rt, b, c⟩ σ H := k
theorem s_drop (k : te σ H fun _ H1 => n σ H1) : tDrop te ⟨n, rt, b, c⟩ σ H := k
theorem s_ret (k : te σ H rt) : tRet te ⟨n, rt, b, c⟩ σ H := k
theorem s_retN (k : rt .non H) : tRetN ⟨n, rt, b, c⟩ σ H := k
theorem s_if (k : tt σ H fun x H1 => if x = true then ts ⟨n, rt, b, c⟩ σ H1 else us ⟨n, rt, b, c⟩ σ H1) : tIfS tt ts us ⟨n, rt, b, c⟩ σ H := k
theorem s_asg (k : te σ H fun x H1 => g x σ H1 n) : tAsg te g ⟨n, rt, b, c⟩ σ H := k
theorem s_name {i : Nat} {Q : L2.St → Hp → Prop} (k : Q (σ.set i (some v)) H) : gName i v σ H Q := k
theorem s_par {i j : Nat} (k : tr σ H fun vs H1 => ∃ v w, vs = [v, w] ∧ n ((σ.set i (some v)).set j (some w)) H1) : tPar i j tr ⟨n, rt, b, c⟩ σ H := k
theorem s_two {v w : V} {P : V → V → Prop} (k : P v w) : ∃ v' w', [v, w] = [v', w'] ∧ P v' w' := ⟨v, w, rfl, k⟩
theorem s_aug {i : Nat} {ti : TIp} {x : V} (h : σ[i]? = some (some x)) (k : te σ H fun y H1 => ti x y H1 fun z H2 => n (σ.set i (some z)) H2) : tAug i te ti ⟨n, rt, b, c⟩ σ H := ⟨x, h, k⟩
theorem s_ipI {f : Int → Int → Int} {i j : Int} {Q : VK} (k : Q (.int (f i j)) H) : ipI f (.int i) (.int j) H Q := ⟨i, j, rfl, rfl, k⟩
theorem s_sub {to ti : TE} {t : TSet} {Q : L2.St → Hp → Prop} (k : to σ H fun o H1 => ti σ H1 fun i H2 => t o i v H2 fun H3 => Q σ H3) : gSub to ti t v σ H Q := k
theorem s_gtup {K : PySem.W.Frag} {m : Nat} {t : TGs} {a : Addr} {xs : List V} {Q : L2.St → Hp → Prop} (h : SqT K H a xs) (e : xs.length = m) (k : t xs σ H Q) : gTup K m t (.ref a) σ H Q := ⟨a, xs, rfl, h, e, k⟩
theorem s_gcons {t : TG} {u : TGs} {r : List V} {Q : L2.St → Hp → Prop} (k : t v σ H fun σ' H' => u r σ' H' Q) : gCons t u (v :: r) σ H Q := ⟨v, r, rfl, k⟩
theorem s_gnil {Q : L2.St → Hp → Prop} (k : Q σ H) : gNil [] σ H Q := ⟨rfl, k⟩
end
/-! ### what is read of the heap: G stands still -/
section
variable {K : PySem.W.Frag} {G H : Hp} {L : List (Addr × HO)} {p : Addr} {xs : List V} {v : V} {Q : VK}
theorem Own.sl (S : Own G L H) (h : SqL K G p xs) : SqL K H p xs := ex_l S.ex h
theorem Own.st (S : Own G L H) (h : SqT K G p xs) : SqT K H p xs := ex_t S.ex h
theorem g_ixL {i : Int} (h : SqL K H p xs) (a : atI xs i = some v) (k : Q v H) : rIxL K (.ref p) (.int i) H Q := ⟨p, xs, i, v, rfl, rfl, h, a, k⟩
theorem g_ixT {i : Int} (h : SqT K H p xs) (a : atI xs i = some v) (k : Q v H) : rIxT K (.ref p) (.int i) H Q := ⟨p, xs, i, v, rfl, rfl, h, a, k⟩
end
/-! ### calls of defs -/
/-- the def x: its promise, how its arguments come -/
def Cal (P : Program) (w : World) (K : PySem.W.Frag) (mg : Str → Option Value) (base : Heap) (k : Nat) (x : Str) (ps : List Str) (dvs : List V) (sp : Sp) : Prop :=
  ∃ (f : Addr) (fd : FuncData) (ds : List Value), FnOk P w K mg base (L2.CX P w) k f fd ps sp ∧ mg x = some (.ref f) ∧ PySem.W.keepIn K (.ref f) = true ∧ Binds K fd ps ds ∧ Vals dvs ds
/-- .. called with n positional arguments and the keywords ks -/
def CalK (P : Program) (w : World) (K : PySem.W.Frag) (mg : Str → Option Value) (base : Heap) (k : Nat) (x : Str) (ps : List Str) (n : Nat) (ks : List Str) (gV : List V → List V → List V) (sp : Sp) : Prop :=
  ∃ (f : Addr) (fd : FuncData) (g : List Value → List Value → List Value), FnOk P w K mg base (L2.CX P w) k f fd ps sp ∧ mg x = some (.ref f) ∧ PySem.W.keepIn K (.ref f) = true ∧ KBn K fd ps n ks g gV
theorem fn_up {P : Program} {w : World} {K : PySem.W.Frag} {mg : Str → Option Value} {base : Heap} {k : Nat} {f : Addr} {fd : FuncData} {ps : List Str} {sp : Sp} (F : FnOk P w K mg base CX0 k f fd ps sp) : FnOk P w K mg base (L2.CX P w) k f fd ps sp :=
  ⟨F.len, fun A outer s H args us vs Q E hr he hb hv hs => codeAny_mono (F.run A outer s H args us vs Q E hr he hb hv hs) fun r s' h => by
    cases r with
    | error e => exact (show False from h).elim
    | ok fl => cases fl <;> exact h⟩
section
variable {X : Cx} {k n : Nat} {ps ks : List Str} {sp : Sp} {dvs : List V} {E : XK} {x : Str} {p pos : Pos} {e : Expr} {es : List Expr} {kws : List Keyword} {t tk : TA} {gV : List V → List V → List V}
theorem passN : Passes (L2.CX X.prog X.w) X E0 := L2.passL
/-- f(e, ..): what is written, no defaults -/
def tCal (sp : Sp) (E : XK) (t : TA) : TE := fun σ H Q => t σ H fun vs H1 => sp vs H1 Q E
theorem pe_cal (C : Cal X.prog X.w X.K X.mg X.base k x ps [] sp) (hr : Room k X.A) (hx : Passes (L2.CX X.prog X.w) X E) (ha : PA X (e :: es) t) (hg : Gl X x := by rfl) (hdb : (x == ("__debug__" : Str)) = false := by decide)
    (he : starEach (e :: es) X.env = (false, eval e X.env) :: starEach es X.env := by rfl) (hpl : (backTo pos (starEach es X.env)).any (·.1) = false := by rfl) : PE X (.Call (.Name x p) (e :: es) [] pos) (tCal sp E t) := by
  obtain ⟨f, fd, ds, F, hm, hk, hb, hd⟩ := C
  have q : PE X (.Call (.Name x p) (e :: es) [] pos) (tCall sp [] E t) := pe_call F hr hg hm hk hb hd hx ha hdb he hpl
  refine ⟨fun pins s σ H Q I h => q.run pins s σ H Q I ?_⟩
  have e : (fun (vs : List V) (H1 : Hp) => sp (vs ++ []) H1 Q E) = (fun vs H1 => sp vs H1 Q E) := by
    funext vs H1
    rw [List.append_nil]
  show t σ H fun vs H1 => sp (vs ++ []) H1 Q E
  rw [e]
  exact h
theorem pe_calD (C : Cal X.prog X.w X.K X.mg X.base k x ps dvs sp) (hr : Room k X.A) (hx : Passes (L2.CX X.prog X.w) X E) (ha : PA X (e :: es) t) (hg : Gl X x := by rfl) (hdb : (x == ("__debug__" : Str)) = false := by decide)
    (he : starEach (e :: es) X.env = (false, eval e X.env) :: starEach es X.env := by rfl) (hpl : (backTo pos (starEach es X.env)).any (·.1) = false := by rfl) : PE X (.Call (.Name x p) (e :: es) [] pos) (tCall sp dvs E t) := by
  obtain ⟨f, fd, ds, F, hm, hk, hb, hd⟩ := C
  exact pe_call F hr hg hm hk hb hd hx ha hdb he hpl
theorem g_cal {sp : Sp} {E : XK} {tr : TA} {σ : L2.St} {H : Hp} {Q : VK} (k : tr σ H fun vs H1 => sp vs H1 Q E) : tCal sp E tr σ H Q := k
theorem g_calN {sp : Sp} {E : XK} {tr tk : TA} {n m : Nat} {gV : List V → List V → List V} {σ : L2.St} {H : Hp} {Q : VK} (k : tr σ H fun vs H1 => tk σ H1 fun zs H2 => vs.length = n ∧ zs.length = m ∧ sp (gV vs zs) H2 Q E) : tCallN n m sp gV E tr tk σ H Q := k
theorem pe_calK (C : CalK X.prog X.w X.K X.mg X.base k x ps n ks gV sp) (hr : Room k X.A) (hx : Passes (L2.CX X.prog X.w) X E) (ha : PA X (e :: es) t) (hkw : PK X kws tk) (hg : Gl X x := by rfl)
    (hall : (backToKw pos (keywordEach kws X.env)).all (·.1.isSome) = true := by rfl) (hks : (backToKw pos (keywordEach kws X.env)).filterMap (·.1) = ks := by rfl)
    (hdb : (x == ("__debug__" : Str)) = false := by decide) (he : starEach (e :: es) X.env = (false, eval e X.env) :: starEach es X.env := by rfl)
    (hpl : ((backTo pos (starEach (e :: es) X.env)).any (·.1) || (backToKw pos (keywordEach kws X.env)).any (·.1.isNone)) = false := by rfl) :
    PE X (.Call (.Name x p) (e :: es) kws pos) (tCallN n ks.length sp gV E t tk) := by
  obtain ⟨f, fd, g, F, hm, hk, hb⟩ := C
  exact pe_callN F hr hg hm hk hb hx ha hkw hall hks hdb he hpl
theorem pe_calK0 (C : CalK X.prog X.w X.K X.mg X.base k x ps 0 ks gV sp) (hr : Room k X.A) (hx : Passes (L2.CX X.prog X.w) X E) (hkw : PK X kws tk) (hg : Gl X x := by rfl)
    (hall : (backToKw pos (keywordEach kws X.env)).all (·.1.isSome) = true := by rfl) (hks : (backToKw pos (keywordEach kws X.env)).filterMap (·.1) = ks := by rfl)
    (hdb : (x == ("__debug__" : Str)) = false := by decide)
    (hpl : ((backTo pos (starEach [] X.env)).any (·.1) || (backToKw pos (keywordEach kws X.env)).any (·.1.isNone)) = false := by rfl) :
    PE X (.Call (.Name x p) [] kws pos) (tCallN 0 ks.length sp gV E tNil tk) := by
  obtain ⟨f, fd, g, F, hm, hk, hb⟩ := C
  refine ⟨fun pins s σ H Q I h => ?_⟩
  refine wpAny_Call_Name_kw (ld_glob I hg hm ?_ hdb)
  refine PySem.W.callWith_KW0 (h₀ := X.base) I.ok.mod.kin hk hall ?_ hpl
  refine thn (hkw.run pos pins s σ H _ I h) fun ws s2 ⟨zs, H2, I2, rz, l1, l2, q2⟩ => ⟨I2.kIn, ?_⟩
  rw [hks]
  exact run_fnN (us := []) (vs := []) F hr hb hx I2 .nil rz rfl l2 q2
/-- a module's whole number -/
theorem pe_cst {i : Int} (hg : Gl X x) (hm : ∃ t, X.mg x = some (.int i t)) (hd : (x == ("__debug__" : Str)) = false := by decide) : PE X (.Name x pos) (tC (.int i)) := by
  obtain ⟨t, hm⟩ := hm
  exact pe_glob hg hm ⟨t, rfl⟩ hd
/-- a op1 b op2 c op3 d -/
def tChain3 (r r' r'' : R2) (ta tb tc td : TE) : TE := fun σ H Q => ta σ H fun x H1 => tb σ H1 fun y H2 => r x y H2 fun z H3 => ∃ k, z = .bl k ∧
  (if k = true then tc σ H3 fun w H4 => r' y w H4 fun z' H5 => ∃ k', z' = .bl k' ∧ (if k' = true then td σ H5 fun w' H6 => r'' w w' H6 Q else Q (.bl false) H5) else Q (.bl false) H3)
theorem pe_chain3 {op op' op'' : CmpOp} {r r' r'' : R2} {a b c d : Expr} {ta tb tc td : TE} (ho : OpR X (compareOp op) r) (ho' : OpR X (compareOp op') r') (ho'' : OpR X (compareOp op'') r'') (ha : PE X a ta) (hb : PE X b tb) (hc : PE X c tc) (hd : PE X d td)
    (hm : lastMarks [op, op', op''] [b, c, d] = false := by with_unfolding_all rfl) : PE X (.Compare a [op, op', op''] [b, c, d] pos) (tChain3 r r' r'' ta tb tc td) := by
  refine ⟨fun pins s σ H Q I h => ?_⟩
  refine Compare_chain (thn (ha.run pins s σ H _ I h) fun v s1 ⟨x, H1, I1, r1, q1⟩ => chain_link (thn (hb.run pins s1 σ H1 _ I1 q1) fun u s2 ⟨y, H2, I2, r2, q2⟩ =>
    thn (ho pins s2 σ H2 x y v u _ I2 r1 r2 q2) fun w s3 ⟨z, H3, I3, r3, k, e, q3⟩ => ?_)) hm
  subst e
  cases r3
  refine wpAny_truthy_bool ?_
  cases k with
  | false => exact ite_ff ⟨.bl false, H3, I3, rfl, q3⟩
  | true =>
    refine ite_tt (chain_link (thn (hc.run pins s3 σ H3 _ I3 q3) fun w' s4 ⟨z', H4, I4, r4, q4⟩ => thn (ho' pins s4 σ H4 y z' u w' _ I4 r2 r4 q4) fun w5 s5 ⟨z5, H5, I5, r5, k5, e5, q5⟩ => ?_))
    subst e5
    cases r5
    refine wpAny_truthy_bool ?_
    cases k5 with
    | false => exact ite_ff ⟨.bl false, H5, I5, rfl, q5⟩
    | true => exact ite_tt (chain_last (thn (hd.run pins s5 σ H5 _ I5 q5) fun w6 s6 ⟨z6, H6, I6, r6, q6⟩ => ho'' pins s6 σ H6 z' z6 w' w6 Q I6 r4 r6 q6))
theorem g_chain3 {σ : L2.St} {H : Hp} {Q : VK} {r r' r'' : R2} {ta tb tc td : TE} (k : ta σ H fun x H1 => tb σ H1 fun y H2 => r x y H2 fun z H3 => ∃ k, z = .bl k ∧
  (if k = true then tc σ H3 fun w H4 => r' y w H4 fun z' H5 => ∃ k', z' = .bl k' ∧ (if k' = true then td σ H5 fun w' H6 => r'' w w' H6 Q else Q (.bl false) H5) else Q (.bl false) H3)) : tChain3 r r' r'' ta tb tc td σ H Q := k
end
/-! ### loops -/
/-- what a for asks of the iterator J -/
def FORJ (J : It) (g : TG) (tb : TS) (D : Ends) (σ : L2.St) (H1 : Hp) : Prop := ∃ W : Nat → Nat → L2.St → Hp → Prop, (∃ m, W 0 m σ H1) ∧ ∀ i m σ H, W i m σ H →
  (J.stop i H ∧ D.nx σ H) ∨ (J.go i H ∧ ∃ N : L2.St → Hp → Prop, (∀ σ' H', N σ' H' → ∃ m', m' < m ∧ W (i + 1) m' σ' H') ∧ ∀ x H', J.yld i H x H' → g x σ H' fun σ2 H2 => tb { D with nx := N, ct := N, bk := D.nx } σ2 H2)
/-- what a comprehension asks -/
def LCJ (J : It) (g : TG) (tt : TT) (te : TE) (vs : List Nat) (σ : L2.St) (H1 : Hp) (Q : VK) : Prop := ∀ D, H1 D = none → ∃ W : Nat → Nat → Hp → Prop, (∃ m, W 0 m (upd H1 D (.lst []))) ∧ ∀ i m H, W i m H →
  (J.stop i H ∧ Q (.ref D) H) ∨ (J.go i H ∧ ∃ Nx : Hp → Prop, (∀ H', Nx H' → ∃ m', m' < m ∧ W (i + 1) m' H') ∧ ∀ x H', J.yld i H x H' → g x (wipe σ vs) H' fun σ2 H2 => wipe σ2 vs = wipe σ vs ∧ tt σ2 H2 fun b H3 =>
    if b = true then te σ2 H3 fun y H4 => ∃ acc, H4 D = some (.lst acc) ∧ acc.length < sizeLine ∧ Nx (upd H4 D (.lst (acc ++ [y]))) else Nx H3)
section
variable {K : PySem.W.Frag} {σ : L2.St} {G H : Hp} {L : List (Addr × HO)} {te ta : TE} {tt tc : TT} {tb : TS} {tr : TA} {g : TG} {wi : TI} {vs : List Nat} {Q : VK} {n b c : L2.St → Hp → Prop} {rt : VK} {a : Addr} {xs : List V}
theorem s_for (k : wi σ H fun J H1 => FORJ J g tb ⟨n, rt, b, c⟩ σ H1) : tFor wi g tb ⟨n, rt, b, c⟩ σ H := k
theorem g_lc (k : wi σ H fun J H1 => LCJ J g tt te vs σ H1 Q) : tLc wi g tt te vs σ H Q := k
theorem g_iList {R : It → Hp → Prop} (k : te σ H fun x H1 => ∃ a, x = .ref a ∧ (∃ xs, SqL K H1 a xs) ∧ R (Itl K a) H1) : iList K te σ H R := k
theorem g_iTup {R : It → Hp → Prop} (k : te σ H fun x H1 => ∃ a, x = .ref a ∧ (∃ xs, SqT K H1 a xs) ∧ R (Itt K a) H1) : iTup K te σ H R := k
theorem g_iRng1 {R : It → Hp → Prop} (k : tr σ H fun vs H1 => ∃ j : Int, vs = [.int j] ∧ -(2 ^ 62) ≤ j ∧ j < 2 ^ 62 ∧ R (Itr 0 j.toNat) H1) : iRng1 tr σ H R := k
theorem g_iRng2 {R : It → Hp → Prop} (k : tr σ H fun vs H1 => ∃ i j : Int, vs = [.int i, .int j] ∧ (-(2 ^ 62) ≤ i ∧ i < 2 ^ 62 ∧ -(2 ^ 62) ≤ j ∧ j < 2 ^ 62) ∧ R (Itr i (j - i).toNat) H1) : iRng2 tr σ H R := k
theorem g_iEnum {R : It → Hp → Prop} (k : tr σ H fun vs H1 => ∃ a xs, vs = [.ref a] ∧ SqL K H1 a xs ∧ R (Ite K a) H1) : iEnum K tr σ H R := k
theorem s_while (W : Nat → L2.St → Hp → Prop) (m0 : Nat) (h0 : W m0 σ H)
    (hs : ∀ m σ' H', W m σ' H' → tc σ' H' fun x H1 => if x = true then ∃ N : L2.St → Hp → Prop, (∀ σ2 H2, N σ2 H2 → ∃ m', m' < m ∧ W m' σ2 H2) ∧ tb ⟨N, rt, n, N⟩ σ' H1 else n σ' H1) : tWhile tc tb ⟨n, rt, b, c⟩ σ H :=
  ⟨W, ⟨m0, h0⟩, hs⟩
theorem s_turn {m : Nat} {W : Nat → L2.St → Hp → Prop} (k : tb ⟨fun σ2 H2 => ∃ m', m' < m ∧ W m' σ2 H2, rt, n, fun σ2 H2 => ∃ m', m' < m ∧ W m' σ2 H2⟩ σ H) :
    ∃ N : L2.St → Hp → Prop, (∀ σ2 H2, N σ2 H2 → ∃ m', m' < m ∧ W m' σ2 H2) ∧ tb ⟨N, rt, n, N⟩ σ H := ⟨_, fun _ _ h => h, k⟩
theorem w_list (Pv : Nat → L2.St → Hp → Prop) (hx : SqL K H a xs) (h0 : Pv 0 σ H) (hl : ∀ i σ H, Pv i σ H → SqL K H a xs)
    (hs : ∀ i x σ H, xs[i]? = some x → Pv i σ H → g x σ H fun σ2 H2 => tb ⟨Pv (i + 1), rt, n, Pv (i + 1)⟩ σ2 H2) (hd : ∀ σ H, Pv xs.length σ H → n σ H) :
    ∃ p, V.ref a = .ref p ∧ (∃ xs, SqL K H p xs) ∧ FORJ (Itl K p) g tb ⟨n, rt, b, c⟩ σ H := ⟨a, rfl, ⟨xs, hx⟩, for_list Pv h0 (fun i σ H _ p => hl i σ H p) hs hd⟩
theorem w_tup (Pv : Nat → L2.St → Hp → Prop) (hx : SqT K H a xs) (h0 : Pv 0 σ H) (hl : ∀ i σ H, Pv i σ H → SqT K H a xs)
    (hs : ∀ i x σ H, xs[i]? = some x → Pv i σ H → g x σ H fun σ2 H2 => tb ⟨Pv (i + 1), rt, n, Pv (i + 1)⟩ σ2 H2) (hd : ∀ σ H, Pv xs.length σ H → n σ H) :
    ∃ p, V.ref a = .ref p ∧ (∃ xs, SqT K H p xs) ∧ FORJ (Itt K p) g tb ⟨n, rt, b, c⟩ σ H := ⟨a, rfl, ⟨xs, hx⟩, for_tup Pv h0 (fun i σ H _ p => hl i σ H p) hs hd⟩
theorem w_rng1 {j : Int} (Pv : Nat → L2.St → Hp → Prop) (hj : -(2 ^ 62) ≤ j ∧ j < 2 ^ 62) (h0 : Pv 0 σ H)
    (hs : ∀ (i : Nat) σ H, (i : Int) < j → Pv i σ H → g (.int (i : Int)) σ H fun σ2 H2 => tb ⟨Pv (i + 1), rt, n, Pv (i + 1)⟩ σ2 H2) (hd : ∀ σ H, Pv j.toNat σ H → n σ H) :
    ∃ j' : Int, [V.int j] = [.int j'] ∧ -(2 ^ 62) ≤ j' ∧ j' < 2 ^ 62 ∧ FORJ (Itr 0 j'.toNat) g tb ⟨n, rt, b, c⟩ σ H :=
  ⟨j, rfl, hj.1, hj.2, for_range (lo := 0) Pv h0 (fun i σ H hi p => by
    have e : (0 : Int) + (i : Int) = (i : Int) := Int.zero_add _
    rw [e]
    exact hs i σ H (by omega) p) hd⟩
theorem w_rng2 {lo j : Int} (Pv : Nat → L2.St → Hp → Prop) (hj : -(2 ^ 62) ≤ lo ∧ lo < 2 ^ 62 ∧ -(2 ^ 62) ≤ j ∧ j < 2 ^ 62) (h0 : Pv 0 σ H)
    (hs : ∀ (i : Nat) σ H, lo + (i : Int) < j → Pv i σ H → g (.int (lo + (i : Int))) σ H fun σ2 H2 => tb ⟨Pv (i + 1), rt, n, Pv (i + 1)⟩ σ2 H2) (hd : ∀ σ H, Pv (j - lo).toNat σ H → n σ H) :
    ∃ i' j' : Int, [V.int lo, V.int j] = [.int i', .int j'] ∧ (-(2 ^ 62) ≤ i' ∧ i' < 2 ^ 62 ∧ -(2 ^ 62) ≤ j' ∧ j' < 2 ^ 62) ∧ FORJ (Itr i' (j' - i').toNat) g tb ⟨n, rt, b, c⟩ σ H :=
  ⟨lo, j, rfl, hj, for_range (lo := lo) Pv h0 (fun i σ H hi p => hs i σ H (by omega) p) hd⟩
/-- over enumerate(a list): each turn's pair is a new tuple -/
theorem w_enum (Pv : Nat → L2.St → Hp → Prop) (hx : SqL K H a xs) (h0 : Pv 0 σ H) (hl : ∀ i σ H, Pv i σ H → SqL K H a xs)
    (hs : ∀ (i : Nat) x T σ H, xs[i]? = some x → Pv i σ H → H T = none → g (.ref T) σ (upd H T (.tup [.int (i : Int), x])) fun σ2 H2 => tb ⟨Pv (i + 1), rt, n, Pv (i + 1)⟩ σ2 H2) (hd : ∀ σ H, Pv xs.length σ H → n σ H) :
    ∃ p xs, [V.ref a] = [.ref p] ∧ SqL K H p xs ∧ FORJ (Ite K p) g tb ⟨n, rt, b, c⟩ σ H := by
  refine ⟨a, xs, rfl, hx, fun i m σ H => m = xs.length - i ∧ i ≤ xs.length ∧ Pv i σ H, ⟨xs.length, rfl, Nat.zero_le _, h0⟩, ?_⟩
  rintro i m σ H ⟨rfl, hi, p⟩
  have q := hl i σ H p
  by_cases hlt : i < xs.length
  · refine .inr ⟨⟨xs, xs[i], q, by simp [hlt]⟩, Pv (i + 1), fun σ' H' p' => ⟨xs.length - (i + 1), by omega, rfl, hlt, p'⟩, fun v H' y => ?_⟩
    obtain ⟨T, x, rfl, hT, rfl, hxx⟩ := y
    exact hs i x T σ H (hxx xs q) p hT
  · have e : i = xs.length := by omega
    subst e
    exact .inl ⟨⟨xs, q, Nat.le_refl _⟩, hd _ _ p⟩
/-! ### comprehensions: F says what holds behind i turns of what has been given (acc) and of what may be changed -/
def CP (G : Hp) (D : Addr) (F : Nat → List V → Hp → List (Addr × HO) → Prop) (i : Nat) (H : Hp) : Prop := ∃ acc G1 L1, Ex G G1 ∧ acc.length ≤ i ∧ F i acc G1 L1 ∧ Own G1 ((D, .lst acc) :: L1) H
def CE (G : Hp) (D : Addr) (F : Nat → List V → Hp → List (Addr × HO) → Prop) (i : Nat) (y : V) (H : Hp) : Prop := ∃ acc, H D = some (.lst acc) ∧ acc.length < sizeLine ∧ CP G D F (i + 1) (upd H D (.lst (acc ++ [y])))
theorem c_yes {F : Nat → List V → Hp → List (Addr × HO) → Prop} {D : Addr} {i : Nat} {acc : List V} {G1 : Hp} {L1 : List (Addr × HO)} {y : V} (S : Own G1 ((D, .lst acc) :: L1) H) (e : Ex G G1) (hl : acc.length ≤ i) (hi : i < 1000000) (f : F (i + 1) (acc ++ [y]) G1 L1) : CE G D F i y H :=
  ⟨acc, S.get0, Nat.lt_of_le_of_lt hl (Nat.lt_trans hi (by decide)), acc ++ [y], G1, L1, e, by rw [List.length_append]; exact Nat.succ_le_succ hl, f, S.put0⟩
theorem c_no {F : Nat → List V → Hp → List (Addr × HO) → Prop} {D : Addr} {i : Nat} {acc : List V} {G1 : Hp} {L1 : List (Addr × HO)} (S : Own G1 ((D, .lst acc) :: L1) H) (e : Ex G G1) (hl : acc.length ≤ i) (f : F (i + 1) acc G1 L1) : CP G D F (i + 1) H :=
  ⟨acc, G1, L1, e, Nat.le_succ_of_le hl, f, S⟩
theorem v_list (F : Nat → List V → Hp → List (Addr × HO) → Prop) (S : Own G L H) (hx : SqL K G a xs) (hz : xs.length ≤ 1000000) (h0 : F 0 [] G L)
    (hs : ∀ D i x acc G1 L1 H1, xs[i]? = some x → i < 1000000 → Ex G G1 → acc.length ≤ i → F i acc G1 L1 → Own G1 ((D, .lst acc) :: L1) H1 → g x (wipe σ vs) H1 fun σ2 H2 => wipe σ2 vs = wipe σ vs ∧ tt σ2 H2 fun b H3 =>
      if b = true then te σ2 H3 fun y H4 => CE G D F i y H4 else CP G D F (i + 1) H3)
    (hd : ∀ p acc G1 L1 H1, Ex G G1 → acc.length ≤ xs.length → F xs.length acc G1 L1 → Own G1 ((p, .lst acc) :: L1) H1 → Q (.ref p) H1) :
    ∃ p, V.ref a = .ref p ∧ (∃ xs, SqL K H p xs) ∧ LCJ (Itl K p) g tt te vs σ H Q :=
  ⟨a, rfl, ⟨xs, S.sl hx⟩, fun D hD => lc_list (K := K) (a := a) (xs := xs) (CP G D F) ⟨[], G, L, Ex.refl G, Nat.le_refl _, h0, S.lay hD⟩ (fun i H1 _ ⟨acc, G1, L1, e, _, _, S1⟩ => S1.sl (ex_l e hx))
    (fun i x H1 hi ⟨acc, G1, L1, e, hl, f, S1⟩ => hs D i x acc G1 L1 H1 hi (Nat.lt_of_lt_of_le (List.getElem?_eq_some_iff.mp hi).1 hz) e hl f S1) (fun H1 ⟨acc, G1, L1, e, hl, f, S1⟩ => hd D acc G1 L1 H1 e hl f S1)⟩
theorem v_tup (F : Nat → List V → Hp → List (Addr × HO) → Prop) (S : Own G L H) (hx : SqT K G a xs) (hz : xs.length ≤ 1000000) (h0 : F 0 [] G L)
    (hs : ∀ D i x acc G1 L1 H1, xs[i]? = some x → i < 1000000 → Ex G G1 → acc.length ≤ i → F i acc G1 L1 → Own G1 ((D, .lst acc) :: L1) H1 → g x (wipe σ vs) H1 fun σ2 H2 => wipe σ2 vs = wipe σ vs ∧ tt σ2 H2 fun b H3 =>
      if b = true then te σ2 H3 fun y H4 => CE G D F i y H4 else CP G D F (i + 1) H3)
    (hd : ∀ p acc G1 L1 H1, Ex G G1 → acc.length ≤ xs.length → F xs.length acc G1 L1 → Own G1 ((p, .lst acc) :: L1) H1 → Q (.ref p) H1) :
    ∃ p, V.ref a = .ref p ∧ (∃ xs, SqT K H p xs) ∧ LCJ (Itt K p) g tt te vs σ H Q :=
  ⟨a, rfl, ⟨xs, S.st hx⟩, fun D hD => lc_tup (K := K) (a := a) (xs := xs) (CP G D F) ⟨[], G, L, Ex.refl G, Nat.le_refl _, h0, S.lay hD⟩ (fun i H1 _ ⟨acc, G1, L1, e, _, _, S1⟩ => S1.st (ex_t e hx))
    (fun i x H1 hi ⟨acc, G1, L1, e, hl, f, S1⟩ => hs D i x acc G1 L1 H1 hi (Nat.lt_of_lt_of_le (List.getElem?_eq_some_iff.mp hi).1 hz) e hl f S1) (fun H1 ⟨acc, G1, L1, e, hl, f, S1⟩ => hd D acc G1 L1 H1 e hl f S1)⟩
theorem v_rng1 {j : Int} (F : Nat → List V → Hp → List (Addr × HO) → Prop) (S : Own G L H) (hj : 0 ≤ j ∧ j ≤ 1000000) (h0 : F 0 [] G L)
    (hs : ∀ D (i : Nat) acc G1 L1 H1, (i : Int) < j → i < 1000000 → Ex G G1 → acc.length ≤ i → F i acc G1 L1 → Own G1 ((D, .lst acc) :: L1) H1 → g (.int (i : Int)) (wipe σ vs) H1 fun σ2 H2 => wipe σ2 vs = wipe σ vs ∧ tt σ2 H2 fun b H3 =>
      if b = true then te σ2 H3 fun y H4 => CE G D F i y H4 else CP G D F (i + 1) H3)
    (hd : ∀ p acc G1 L1 H1, Ex G G1 → acc.length ≤ j.toNat → F j.toNat acc G1 L1 → Own G1 ((p, .lst acc) :: L1) H1 → Q (.ref p) H1) :
    ∃ j' : Int, [V.int j] = [.int j'] ∧ -(2 ^ 62) ≤ j' ∧ j' < 2 ^ 62 ∧ LCJ (Itr 0 j'.toNat) g tt te vs σ H Q :=
  ⟨j, rfl, by omega, by omega, fun D hD => lc_range (lo := 0) (n := j.toNat) (CP G D F) ⟨[], G, L, Ex.refl G, Nat.le_refl _, h0, S.lay hD⟩
    (fun i H1 hi ⟨acc, G1, L1, e, hl, f, S1⟩ => by
      have z : (0 : Int) + (i : Int) = (i : Int) := Int.zero_add _
      rw [z]
      exact hs D i acc G1 L1 H1 (by omega) (by omega) e hl f S1) (fun H1 ⟨acc, G1, L1, e, hl, f, S1⟩ => hd D acc G1 L1 H1 e hl f S1)⟩
theorem v_rng2 {lo j : Int} (F : Nat → List V → Hp → List (Addr × HO) → Prop) (S : Own G L H) (hj : -1000 ≤ lo ∧ lo ≤ 1000000 ∧ -1000 ≤ j ∧ j ≤ 900000) (h0 : F 0 [] G L)
    (hs : ∀ D (i : Nat) acc G1 L1 H1, lo + (i : Int) < j → i < 1000000 → Ex G G1 → acc.length ≤ i → F i acc G1 L1 → Own G1 ((D, .lst acc) :: L1) H1 → g (.int (lo + (i : Int))) (wipe σ vs) H1 fun σ2 H2 => wipe σ2 vs = wipe σ vs ∧ tt σ2 H2 fun b H3 =>
      if b = true then te σ2 H3 fun y H4 => CE G D F i y H4 else CP G D F (i + 1) H3)
    (hd : ∀ p acc G1 L1 H1, Ex G G1 → acc.length ≤ (j - lo).toNat → F (j - lo).toNat acc G1 L1 → Own G1 ((p, .lst acc) :: L1) H1 → Q (.ref p) H1) :
    ∃ i' j' : Int, [V.int lo, V.int j] = [.int i', .int j'] ∧ (-(2 ^ 62) ≤ i' ∧ i' < 2 ^ 62 ∧ -(2 ^ 62) ≤ j' ∧ j' < 2 ^ 62) ∧ LCJ (Itr i' (j' - i').toNat) g tt te vs σ H Q :=
  ⟨lo, j, rfl, ⟨by omega, by omega, by omega, by omega⟩, fun D hD => lc_range (lo := lo) (n := (j - lo).toNat) (CP G D F) ⟨[], G, L, Ex.refl G, Nat.le_refl _, h0, S.lay hD⟩
    (fun i H1 hi ⟨acc, G1, L1, e, hl, f, S1⟩ => hs D i acc G1 L1 H1 (by omega) (by omega) e hl f S1) (fun H1 ⟨acc, G1, L1, e, hl, f, S1⟩ => hd D acc G1 L1 H1 e hl f S1)⟩
theorem g_yes {Q : Bool → Hp → Prop} (k : Q true H) : tYes σ H Q := k
end
/-! ### tests -/
theorem if_tt {c : Bool} {A B : Prop} (e : c = true) (h : A) : if c = true then A else B := by rw [if_pos e]; exact h
theorem if_ff {c : Bool} {A B : Prop} (e : c = false) (h : B) : if c = true then A else B := by rw [if_neg (by rw [e]; exact Bool.false_ne_true)]; exact h
theorem if_2 {c : Bool} {A B : Prop} (h1 : c = true → A) (h2 : c = false → B) : if c = true then A else B := by
  cases c with
  | true => exact if_tt rfl (h1 rfl)
  | false => exact if_ff rfl (h2 rfl)
theorem dtrue' {p : Prop} [Decidable p] (h : p) : decide p = true := decide_eq_true h
theorem dfalse' {p : Prop} [Decidable p] (h : ¬p) : decide p = false := decide_eq_false h
theorem if_nt {A B : Prop} (h : B) : if (!true) = true then A else B := if_ff rfl h
theorem if_nf {A B : Prop} (h : A) : if (!false) = true then A else B := if_tt rfl h
theorem ntrue {p : Prop} [Decidable p] (h : p) : (!decide p) = false := by rw [dtrue' h]; rfl
theorem nfalse {p : Prop} [Decidable p] (h : ¬p) : (!decide p) = true := by rw [dfalse' h]; rfl
theorem dtrue {p : Prop} [Decidable p] (h : p) : decide p = true := decide_eq_true h
theorem dfalse {p : Prop} [Decidable p] (h : ¬p) : decide p = false := decide_eq_false h
theorem small {n : Nat} (h : n ≤ 10000000) : n ≤ sizeLine := Nat.le_trans h (by decide)
theorem smallL {n : Nat} (h : n ≤ 10000000) : n < sizeLine := Nat.lt_of_le_of_lt h (by decide)
section
variable {K : PySem.W.Frag} {G H : Hp} {L : List (Addr × HO)} {p : Addr} {xs : List V} {v : V} {Q : VK}
/-- a new list | a new tuple has been laid -/
theorem n_lst (S : Own G L H) (hz : xs.length ≤ 10000000) (k : ∀ p H1, H p = none → Own G ((p, .lst xs) :: L) H1 → Q (.ref p) H1) : NewL xs H Q :=
  ⟨small hz, fun p hp => k p _ hp (S.lay hp)⟩
/-- a new object stands still from now on -/
theorem Own.still {o : HO} (S : Own G L H) (hp : H p = none) : Own (upd G p o) L (upd H p o) ∧ Ex G (upd G p o) ∧ upd G p o p = some o :=
  ⟨⟨fun a u h => by
      by_cases e : a = p
      · subst e
        rw [upd_same] at h ⊢
        exact h
      · rw [upd_ne e] at h ⊢
        exact S.ex _ _ h, fun x hx => by
      have ne : x.1 ≠ p := fun e => S.fresh hp (e ▸ List.mem_map_of_mem hx)
      rw [upd_ne ne, upd_ne ne]
      exact S.at_ x hx, S.nd, S.nt⟩, Ex.new (fresh_back S.ex hp), upd_same⟩
theorem n_tup (S : Own G L H) (hz : xs.length ≤ 10000000) (k : ∀ p G1 H1, H p = none → Ex G G1 → Ex H H1 → G1 p = some (.tup xs) → Own G1 L H1 → Q (.ref p) H1) : NewT xs H Q :=
  ⟨small hz, fun p hp => k p _ _ hp (S.still hp).2.1 (Ex.new hp) (S.still hp).2.2 (S.still hp).1⟩
/-- a new list that is only read from now on -/
theorem n_lstG (S : Own G L H) (hz : xs.length ≤ 10000000) (k : ∀ p G1 H1, H p = none → Ex G G1 → Ex H H1 → G1 p = some (.lst xs) → Own G1 L H1 → Q (.ref p) H1) : NewL xs H Q :=
  ⟨small hz, fun p hp => k p _ _ hp (S.lay hp).freeze.2.1 (Ex.new hp) (S.lay hp).freeze.2.2 (S.lay hp).freeze.1⟩
/-- list(range(a, b)) -/
theorem n_rg {a b : Int} (S : Own G L H) (h : -1000 ≤ a ∧ a ≤ 1000000 ∧ -1000 ≤ b ∧ b ≤ 1000000) (k : ∀ p H1, H p = none → Own G ((p, .lst (rgV a b)) :: L) H1 → Q (.ref p) H1) : NewR a b H Q :=
  ⟨⟨by omega, by omega, by omega, by omega, by omega⟩, fun p hp => k p _ hp (S.lay hp)⟩
theorem n_rgG {a b : Int} (S : Own G L H) (h : -1000 ≤ a ∧ a ≤ 1000000 ∧ -1000 ≤ b ∧ b ≤ 1000000) (k : ∀ p G1 H1, H p = none → Ex G G1 → Ex H H1 → G1 p = some (.lst (rgV a b)) → Own G1 L H1 → Q (.ref p) H1) : NewR a b H Q :=
  ⟨⟨by omega, by omega, by omega, by omega, by omega⟩, fun p hp => k p _ _ hp (S.lay hp).freeze.2.1 (Ex.new hp) (S.lay hp).freeze.2.2 (S.lay hp).freeze.1⟩
theorem g_lrg {te : L2.St → Hp → (Int → Int → Hp → Prop) → Prop} {σ : L2.St} (k : te σ H fun a b H1 => NewR a b H1 Q) : tLstRg te σ H Q := k
theorem g_rg1 {ta : TE} {σ : L2.St} {R : Int → Int → Hp → Prop} (k : ta σ H fun x H1 => ∃ n, x = .int n ∧ R 0 n H1) : tRg1 ta σ H R := k
theorem g_rg2 {ta tb : TE} {σ : L2.St} {R : Int → Int → Hp → Prop} (k : ta σ H fun x H1 => tb σ H1 fun y H2 => ∃ i j, x = .int i ∧ y = .int j ∧ R i j H2) : tRg2 ta tb σ H R := k
theorem g_ex2I {i j : Int} {R : Int → Int → Prop} (k : R i j) : ∃ i' j', V.int i = .int i' ∧ V.int j = .int j' ∧ R i' j' := ⟨i, j, rfl, rfl, k⟩
/-- len(a list) -/
theorem n_len (h : SqL K H p xs) (k : Q (.int xs.length) H) : Evl.rLenS K [.ref p] H Q := ⟨p, xs, rfl, .inl h, k⟩
theorem n_lenT (h : SqT K H p xs) (k : Q (.int xs.length) H) : Evl.rLenS K [.ref p] H Q := ⟨p, xs, rfl, .inr h, k⟩
theorem n_int {i : Int} (k : Q (.int i) H) : rInt1 [.int i] H Q := .inl ⟨i, rfl, k⟩
theorem n_intB {b : Bool} (k : Q (.int (if b then 1 else 0)) H) : rInt1 [.bl b] H Q := .inr ⟨b, rfl, k⟩
theorem n_min {i j : Int} (k : Q (.int (min i j)) H) : rMin2 [.int i, .int j] H Q := ⟨i, j, rfl, by
  have e : (if j < i then j else i) = min i j := by split <;> omega
  rw [e]; exact k⟩
theorem n_max {i j : Int} (k : Q (.int (max i j)) H) : rMax2 [.int i, .int j] H Q := ⟨i, j, rfl, by
  have e : (if j > i then j else i) = max i j := by split <;> omega
  rw [e]; exact k⟩
/-- list(a list), tuple(a list) -/
theorem n_list (S : Own G L H) (h : SqL K H p xs) (k : ∀ p H1, H p = none → Own G ((p, .lst xs) :: L) H1 → Q (.ref p) H1) : Evl.rListS K [.ref p] H Q := ⟨p, xs, rfl, .inl h, fun p hp => k p _ hp (S.lay hp)⟩
theorem n_listT (S : Own G L H) (h : SqT K H p xs) (k : ∀ p H1, H p = none → Own G ((p, .lst xs) :: L) H1 → Q (.ref p) H1) : Evl.rListS K [.ref p] H Q := ⟨p, xs, rfl, .inr h, fun p hp => k p _ hp (S.lay hp)⟩
theorem n_tupL (S : Own G L H) (h : SqL K H p xs) (k : ∀ p G1 H1, H p = none → Ex G G1 → Ex H H1 → G1 p = some (.tup xs) → Own G1 L H1 → Q (.ref p) H1) : rTupS K [.ref p] H Q :=
  ⟨p, xs, rfl, .inl ⟨h, fun p hp => k p _ _ hp (S.still hp).2.1 (Ex.new hp) (S.still hp).2.2 (S.still hp).1⟩⟩
theorem n_isN (k : Q (.bl (decide (v = .non))) H) : rIsN v .non H Q := ⟨rfl, k⟩
theorem n_notN (k : Q (.bl (!decide (v = .non))) H) : rNotN v .non H Q := ⟨rfl, k⟩
/-- xs.append(v), the list at the head of what may be changed -/
theorem n_app (S : Own G ((p, .lst xs) :: L) H) (hz : xs.length ≤ 1000000) (k : ∀ H1, Own G ((p, .lst (xs ++ [v])) :: L) H1 → Q .non H1) : rAppend (.ref p) [v] H Q :=
  ⟨p, xs, v, rfl, rfl, S.get0, smallL (Nat.le_trans hz (by decide)), k _ S.put0⟩
theorem n_app1 {q : Addr} {o : HO} (S : Own G ((q, o) :: (p, .lst xs) :: L) H) (hz : xs.length ≤ 1000000) (k : ∀ H1, Own G ((q, o) :: (p, .lst (xs ++ [v])) :: L) H1 → Q .non H1) : rAppend (.ref p) [v] H Q :=
  ⟨p, xs, v, rfl, rfl, S.get1, smallL (Nat.le_trans hz (by decide)), k _ S.put1⟩
theorem n_app2 {q r : Addr} {o o2 : HO} (S : Own G ((r, o2) :: (q, o) :: (p, .lst xs) :: L) H) (hz : xs.length ≤ 1000000) (k : ∀ H1, Own G ((r, o2) :: (q, o) :: (p, .lst (xs ++ [v])) :: L) H1 → Q .non H1) : rAppend (.ref p) [v] H Q :=
  ⟨p, xs, v, rfl, rfl, S.get2, smallL (Nat.le_trans hz (by decide)), k _ S.put2⟩
/-- append to the j-th of what may be changed -/
theorem n_appM {j : Nat} (S : Own G L H) (h : L[j]? = some (p, .lst xs)) (hz : xs.length ≤ 1000000) (k : ∀ H1, Own G (L.set j (p, .lst (xs ++ [v]))) H1 → Q .non H1) : rAppend (.ref p) [v] H Q :=
  ⟨p, xs, v, rfl, rfl, S.getM (List.mem_of_getElem? h), smallL (Nat.le_trans hz (by decide)), k _ (S.putM h)⟩
theorem cutV_to (xs : List V) (i : Nat) : cutV xs none (some (i : Int)) = xs.take i := by
  unfold cutV
  rw [HT.sIx_none, HT.sIx_nat, List.drop_zero, Nat.sub_zero]
  by_cases h : i ≤ xs.length
  · rw [Nat.min_eq_left h]
  · rw [Nat.min_eq_right (by omega), List.take_length, List.take_of_length_le (by omega)]
theorem cutV_from (xs : List V) (i : Nat) : cutV xs (some (i : Int)) none = xs.drop i := by
  unfold cutV
  rw [HT.sIx_none, HT.sIx_nat]
  by_cases h : i ≤ xs.length
  · rw [Nat.min_eq_left h]
    exact List.take_of_length_le (by rw [List.length_drop]; omega)
  · rw [Nat.min_eq_right (by omega), List.drop_length, List.drop_of_length_le (by omega), List.take_nil]
theorem cutV_all (xs : List V) : cutV xs none none = xs := by
  unfold cutV
  rw [HT.sIx_none, HT.sIx_none, List.drop_zero, Nat.sub_zero, List.take_length]
/-- xs[lo:hi] of a list, read from now on -/
theorem n_sl {lo hi : Option Int} (S : Own G L H) (h : SqL K H p xs) (k : ∀ p G1 H1, H p = none → Ex G G1 → Ex H H1 → G1 p = some (.lst (cutV xs lo hi)) → Own G1 L H1 → Q (.ref p) H1) : rSlL K (.ref p) lo hi H Q :=
  ⟨p, xs, rfl, h, fun p hp => k p _ _ hp (S.still hp).2.1 (Ex.new hp) (S.still hp).2.2 (S.still hp).1⟩
theorem n_slL {lo hi : Option Int} (S : Own G L H) (h : SqL K H p xs) (k : ∀ p H1, H p = none → Own G ((p, .lst (cutV xs lo hi)) :: L) H1 → Q (.ref p) H1) : rSlL K (.ref p) lo hi H Q :=
  ⟨p, xs, rfl, h, fun p hp => k p _ hp (S.lay hp)⟩
theorem tyL (h : SqL K H p xs) : tyV K "list" (.ref p) H := .inl ⟨rfl, xs, h⟩
theorem Own.l0 (S : Own G ((p, .lst xs) :: L) H) : SqL K H p xs := SqL.of S.get0
theorem Own.l1 {q : Addr} {o : HO} (S : Own G ((q, o) :: (p, .lst xs) :: L) H) : SqL K H p xs := SqL.of S.get1
theorem Own.l2 {q r : Addr} {o o2 : HO} (S : Own G ((r, o2) :: (q, o) :: (p, .lst xs) :: L) H) : SqL K H p xs := SqL.of S.get2
end
/-! ### attributes -/
def GETF (K : PySem.W.Frag) (x : V) (f : Str) (H : Hp) (Q : VK) : Prop := ∃ a C dx fs v, x = .ref a ∧ H a = some (.ins C dx fs) ∧ Cls K C ∧ NoAttr K C f ∧ fs.lookup f = some v ∧ Q v H
def SETF (K : PySem.W.Frag) (x : V) (f : Str) (y : V) (H : Hp) (R : Hp → Prop) : Prop := ∃ a C dx fs, x = .ref a ∧ H a = some (.ins C dx fs) ∧ Cls K C ∧ NoAttr K C f ∧ fs.length < 1000 ∧ R (upd H a (.ins C dx (putF f y fs)))
section
variable {K : PySem.W.Frag} {σ : L2.St} {G H : Hp} {L : List (Addr × HO)} {ta tv : TE} {f : Str} {Q : VK} {n b c : L2.St → Hp → Prop} {rt : VK} {a C dx : Addr} {fs : List (Str × V)} {v y : V}
theorem g_fld (k : ta σ H fun x H1 => GETF K x f H1 Q) : tFld K ta f σ H Q := k
theorem s_fld (k : tv σ H fun y H1 => ta σ H1 fun x H2 => SETF K x f y H2 (n σ)) : sFld K ta tv f ⟨n, rt, b, c⟩ σ H := k
theorem n_fld (h : H a = some (.ins C dx fs)) (c : Cls K C) (n : NoAttr K C f) (l : fs.lookup f = some v) (k : Q v H) : GETF K (.ref a) f H Q := ⟨a, C, dx, fs, v, rfl, h, c, n, l, k⟩
theorem n_setF {R : Hp → Prop} (S : Own G ((a, .ins C dx fs) :: L) H) (c : Cls K C) (n : NoAttr K C f) (hl : fs.length < 1000) (k : ∀ H1, Own G ((a, .ins C dx (putF f y fs)) :: L) H1 → R H1) : SETF K (.ref a) f y H R := ⟨a, C, dx, fs, rfl, S.get0, c, n, hl, k _ S.put0⟩
end
/-! ### list + list, also of lists that are only known -/
def rCatL (K : PySem.W.Frag) : R2 := fun x y H Q => ∃ l b xs zs, x = .ref l ∧ y = .ref b ∧ SqL K H l xs ∧ SqL K H b zs ∧ xs.length + zs.length ≤ sizeLine ∧ ∀ p, H p = none → Q (.ref p) (upd H p (.lst (xs ++ zs)))
theorem op_catL {X : Cx} : OpR X (binaryOp .Add) (rCatL X.K) := by
  intro pins s σ H x y v u Q I rx ry h
  obtain ⟨l, b, xs, zs, rfl, rfl, hH, hB, hz, q⟩ := h
  cases rx
  cases ry
  obtain ⟨its, r, hl, h1⟩ := I.list hH
  obtain ⟨its2, r2, hb, h2⟩ := I.list hB
  obtain ⟨⟨cls, dd, data, sl⟩, ho, hc, n, hd⟩ := id hl.isList
  obtain ⟨⟨cls2, dd2, data2, sl2⟩, ho2, hc2, n2, hd2⟩ := id hb.isList
  simp only at hc hd hc2 hd2
  subst hc hd hc2 hd2
  have e : its.toArray ++ its2.toArray = (its ++ its2).toArray := by simp
  have hl1 := r.length
  have hl2 := r2.length
  refine concat_meets ⟨_, ho, rfl⟩ ⟨_, ho2, rfl⟩ noFill_list_add seq_list_add PySem.F.slot_list_add PySem.F.entry_list_add (PySem.F.args_list_add_2 _ _) (list_addW l b its.toArray its2.toArray n n2 dd dd2 sl sl2 (by simp; omega)) ⟨ho, ho2, ?_⟩
  rw [e]
  exact ⟨.ref _, _, I.lnew (t' := s.toks) (r.append r2) (by rw [List.length_append]; exact hz), rfl, q _ I.fresh⟩
theorem n_cat {K : PySem.W.Frag} {G H : Hp} {L : List (Addr × HO)} {l b : Addr} {xs zs : List V} {Q : VK} (S : Own G L H) (hx : SqL K H l xs) (hz : SqL K H b zs) (h : xs.length + zs.length ≤ 10000000) (k : ∀ p H1, H p = none → Own G ((p, .lst (xs ++ zs)) :: L) H1 → Q (.ref p) H1) : rCatL K (.ref l) (.ref b) H Q :=
  ⟨l, b, xs, zs, rfl, rfl, hx, hz, small h, fun p hp => k p _ hp (S.lay hp)⟩
theorem n_catG {K : PySem.W.Frag} {G H : Hp} {L : List (Addr × HO)} {l b : Addr} {xs zs : List V} {Q : VK} (S : Own G L H) (hx : SqL K H l xs) (hz : SqL K H b zs) (h : xs.length + zs.length ≤ 10000000) (k : ∀ p G1 H1, H p = none → Ex G G1 → Ex H H1 → G1 p = some (.lst (xs ++ zs)) → Own G1 L H1 → Q (.ref p) H1) : rCatL K (.ref l) (.ref b) H Q :=
  ⟨l, b, xs, zs, rfl, rfl, hx, hz, small h, fun p hp => k p _ _ hp (S.still hp).2.1 (Ex.new hp) (S.still hp).2.2 (S.still hp).1⟩
/-! ### methods, new instances -/
/-- the method m of the class at C -/
def Mth (P : Program) (w : World) (K : PySem.W.Frag) (mg : Str → Option Value) (base : Heap) (k : Nat) (C : Addr) (m : Str) (ps : List Str) (sp : Sp) : Prop :=
  ∃ (f : Addr) (fd : FuncData), Meth K C m f ∧ FnOk P w K mg base (L2.CX P w) k f fd ps sp ∧ Binds K fd ps []
/-- the class x at C, made by an __init__ that keeps sp -/
def Cnw (P : Program) (w : World) (K : PySem.W.Frag) (mg : Str → Option Value) (base : Heap) (k : Nat) (x : Str) (C : Addr) (ps : List Str) (sp : Sp) : Prop :=
  ∃ (f : Addr) (fd : FuncData), Mk K C f ∧ FnOk P w K mg base (L2.CX P w) k f fd ps sp ∧ mg x = some (.ref C) ∧ Binds K fd ps []
def INS (C : Addr) (m : Str) (x : V) (H : Hp) : Prop := ∃ a dx fs, x = .ref a ∧ H a = some (.ins C dx fs) ∧ fs.lookup m = none
def tMth (C : Addr) (m : Str) (sp : Sp) (E : XK) (ta : TE) (t : TA) : TE := fun σ H Q => ta σ H fun x H1 => INS C m x H1 ∧ t σ H1 fun vs H2 => sp (x :: vs) H2 Q E
def MAKE (C : Addr) (sp : Sp) (E : XK) (vs : List V) (H1 : Hp) (Q : VK) : Prop := ∀ x dx, H1 x = none → H1 dx = none → dx ≠ x → sp (.ref x :: vs) (upd (upd H1 dx (.own x)) x (.ins C dx [])) (fun v H2 => v = .non ∧ Q (.ref x) H2) E
def tNew (C : Addr) (sp : Sp) (E : XK) (t : TA) : TE := fun σ H Q => t σ H fun vs H1 => MAKE C sp E vs H1 Q
section
variable {X : Cx} {k : Nat} {C : Addr} {m x : Str} {ps : List Str} {sp : Sp} {E : XK} {o e : Expr} {es : List Expr} {ta : TE} {t : TA} {p apos pos : Pos}
theorem pe_mth {pl : Sem Bool} (he : PE X o ta) (M : Mth X.prog X.w X.K X.mg X.base k C m ps sp) (c : Cls X.K C) (hr : Room k X.A) (hx : Passes (L2.CX X.prog X.w) X E) (ha : PA X (e :: es) t)
    (ht : eval (.Call (.Attribute o m apos) (e :: es) [] pos) X.env = (do
      let ov ← eval o X.env
      standAt apos.atName
      let (f, first) ← holding [ov] (getMethod ov m pl)
      callWith pos f first (backTo pos (starEach (e :: es) X.env)) (backToKw pos (keywordEach [] X.env))) := by rfl)
    (hst : starEach (e :: es) X.env = (false, eval e X.env) :: starEach es X.env := by rfl) (hpl : (backTo pos (starEach es X.env)).any (·.1) = false := by rfl) :
    PE X (.Call (.Attribute o m apos) (e :: es) [] pos) (tMth C m sp E ta t) := by
  obtain ⟨f, fd, hm, F, hb⟩ := M
  have q : PE X (.Call (.Attribute o m apos) (e :: es) [] pos) (tMeth C m sp [] E ta t) := pe_meth (pl := pl) he c hm F hr hb .nil hx ha hst hpl ht
  refine ⟨fun pins s σ H Q I h => q.run pins s σ H Q I ?_⟩
  have e : ∀ x : V, (fun (vs : List V) (H1 : Hp) => sp (x :: (vs ++ [])) H1 Q E) = (fun vs H1 => sp (x :: vs) H1 Q E) := fun x => by
    funext vs H1
    rw [List.append_nil]
  have e2 : (fun (x : V) (H1 : Hp) => ∃ a dx fs, x = .ref a ∧ H1 a = some (.ins C dx fs) ∧ fs.lookup m = none ∧ t σ H1 fun vs H2 => sp (x :: (vs ++ [])) H2 Q E) = (fun x H1 => INS C m x H1 ∧ t σ H1 fun vs H2 => sp (x :: vs) H2 Q E) := by
    funext x H1
    rw [e x]
    exact propext ⟨fun ⟨a, dx, fs, h1, h2, h3, h4⟩ => ⟨⟨a, dx, fs, h1, h2, h3⟩, h4⟩, fun ⟨⟨a, dx, fs, h1, h2, h3⟩, h4⟩ => ⟨a, dx, fs, h1, h2, h3, h4⟩⟩
  show ta σ H fun x H1 => ∃ a dx fs, x = .ref a ∧ H1 a = some (.ins C dx fs) ∧ fs.lookup m = none ∧ t σ H1 fun vs H2 => sp (x :: (vs ++ [])) H2 Q E
  rw [e2]
  exact h
theorem pe_mth0 {pl : Sem Bool} (he : PE X o ta) (M : Mth X.prog X.w X.K X.mg X.base k C m ps sp) (c : Cls X.K C) (hr : Room k X.A) (hx : Passes (L2.CX X.prog X.w) X E)
    (ht : eval (.Call (.Attribute o m apos) [] [] pos) X.env = (do
      let ov ← eval o X.env
      standAt apos.atName
      let (f, first) ← holding [ov] (getMethod ov m pl)
      callWith pos f first (backTo pos (starEach [] X.env)) (backToKw pos (keywordEach [] X.env))) := by rfl) :
    PE X (.Call (.Attribute o m apos) [] [] pos) (tMth C m sp E ta tNil) := by
  obtain ⟨f, fd, hm, F, hb⟩ := M
  have q : PE X (.Call (.Attribute o m apos) [] [] pos) (tMeth C m sp [] E ta tNil) := pe_meth0 (pl := pl) he c hm F hr hb .nil hx ht
  refine ⟨fun pins s σ H Q I h => q.run pins s σ H Q I ?_⟩
  have e2 : (fun (x : V) (H1 : Hp) => ∃ a dx fs, x = .ref a ∧ H1 a = some (.ins C dx fs) ∧ fs.lookup m = none ∧ sp (x :: ([] ++ [])) H1 Q E) = (fun x H1 => INS C m x H1 ∧ sp (x :: []) H1 Q E) := by
    funext x H1
    exact propext ⟨fun ⟨a, dx, fs, h1, h2, h3, h4⟩ => ⟨⟨a, dx, fs, h1, h2, h3⟩, h4⟩, fun ⟨⟨a, dx, fs, h1, h2, h3⟩, h4⟩ => ⟨a, dx, fs, h1, h2, h3, h4⟩⟩
  show ta σ H fun x H1 => ∃ a dx fs, x = .ref a ∧ H1 a = some (.ins C dx fs) ∧ fs.lookup m = none ∧ sp (x :: ([] ++ [])) H1 Q E
  rw [e2]
  exact h
theorem pe_new (N : Cnw X.prog X.w X.K X.mg X.base k x C ps sp) (hr : Room (k + 1) X.A) (hx : Passes (L2.CX X.prog X.w) X E) (ha : PA X (e :: es) t) (hg : Gl X x := by rfl)
    (hdb : (x == ("__debug__" : Str)) = false := by decide) (he : starEach (e :: es) X.env = (false, eval e X.env) :: starEach es X.env := by rfl) (hpl : (backTo pos (starEach es X.env)).any (·.1) = false := by rfl) :
    PE X (.Call (.Name x p) (e :: es) [] pos) (tNew C sp E t) := by
  obtain ⟨f, fd, M, F, hm, hb⟩ := N
  have q : PE X (.Call (.Name x p) (e :: es) [] pos) (tMake C sp [] E t) := pe_make M F hr hg hm hb .nil hx ha hdb he hpl
  refine ⟨fun pins s σ H Q I h => q.run pins s σ H Q I ?_⟩
  have e2 : (fun (vs : List V) (H1 : Hp) => ∀ x dx, H1 x = none → H1 dx = none → dx ≠ x → sp (.ref x :: (vs ++ [])) (upd (upd H1 dx (.own x)) x (.ins C dx [])) (fun v H2 => v = .non ∧ Q (.ref x) H2) E) = (fun vs H1 => MAKE C sp E vs H1 Q) := by
    funext vs H1
    rw [List.append_nil] <;> rfl
  show t σ H fun vs H1 => ∀ x dx, H1 x = none → H1 dx = none → dx ≠ x → sp (.ref x :: (vs ++ [])) (upd (upd H1 dx (.own x)) x (.ins C dx [])) (fun v H2 => v = .non ∧ Q (.ref x) H2) E
  rw [e2]
  exact h
theorem g_mth {σ : L2.St} {H : Hp} {Q : VK} (k : ta σ H fun x H1 => INS C m x H1 ∧ t σ H1 fun vs H2 => sp (x :: vs) H2 Q E) : tMth C m sp E ta t σ H Q := k
theorem g_new {σ : L2.St} {H : Hp} {Q : VK} (k : t σ H fun vs H1 => MAKE C sp E vs H1 Q) : tNew C sp E t σ H Q := k
end
/-! ### len, == and != of instances -/
section
variable {prog : Program} {w : World} {A : Around} {E : Value → Shared → Prop} {s : Shared} {K : PySem.W.Frag} {x y C f L : Addr} {h₀ : Heap} {m : Str → Option Value} {ox : Obj} {od : Option Obj}
theorem ifBound_objNe {M : Model} {args : List Value} {Q : Option Value → Shared → Prop} (X : K.In s.heap) (I : PySem.W.InstAt s.heap x ox C od) (hs : PySem.W.findIn K (.ref C) "__ne__" = some (some (.builtin "object.__ne__")))
    (h : wpAny M A (call (.builtin "object.__ne__") (.ref x :: args)) (fun v => Q (some v)) E s) : wpAny M A (callSpecialIfBound? (.ref x) "__ne__" args) Q E s := by
  simp only [callSpecialIfBound?, bindSpecialIfBound?]
  refine wpAny_holding (wpAny_bind (wpAny_bind (wpAny_bind (I.type.here ((PySem.W.looks_findIn X hs).here ?_)))))
  refine wpAny_bind (wpAny_askSetting (wpAny_ite ?_))
  have fin : wpAny M A (call (.builtin "object.__ne__") ([.ref x] ++ args) >>= fun v => pure (some v)) Q E s := wpAny_bind (wpAny_mono h (fun v s' h' => wpAny_pure h') fun _ _ h' => h')
  split
  · exact wpAny_bind (wpAny_of_eq (PySem.F.cmp_object.ne.bind _) (wpAny_pure (by exact fin)))
  · exact wpAny_tryCatch (wpAny_bind (wpAny_of_eq (PySem.F.cmp_object.ne.bind _) (wpAny_pure (by exact fin))))
theorem entry_objNe (X : K.In s.heap) (I : PySem.W.InstAt s.heap x ox C od) (hs : PySem.W.findIn K (.ref C) "__eq__" = some (some (.ref f))) (hf : PySem.W.isFn K (.ref f) = true) (hu : A.units < cLine) {Q : Fin → Shared → Prop}
    (hcall : wpAny (model prog w) A (call (.ref f) [.ref x, .ref y]) (fun v s' => ∃ b, v = .bool b ∧ Q (.done (.ret (.bool (!b)))) s') E s) :
    wpAny (model prog w) A (Builtin.«object.__ne__» ⟨[.ref x, .ref y], []⟩) Q E s := by
  unfold Builtin.«object.__ne__»
  repeat (first
    | with_reducible refine wpAny_cRoomFor hu ?_
    | (refine wpAny_bind (m := callSpecialIfBound? (.ref x) (Str.ofString "__eq__") [.ref y])
        (PySem.W.ifBound_K X I hs hf (wpAny_mono hcall (fun r s' hr => by
          obtain ⟨b, rfl, hq⟩ := hr
          repeat (first | exact hq | exact wpAny_pure hq | exact wpAny_truthy_bool hq | (refine wpAny_bind (m := truthy (.bool _)) (wpAny_truthy_bool ?_)) | wp_step)) fun _ _ e => e)))
    | wp_step)
theorem ne_K {tb : Value} {Q : Value → Shared → Prop} (hu : A.units + 1 < cLine) (Fm : Fr h₀ L s.heap m) (X₀ : K.In h₀) (I : PySem.W.InstAt s.heap x ox C od) (hb : PySem.W.Looks (model prog w) s.heap (typeOf (.ref y)) tb) (hn : PySem.W.notFirst K C tb = true)
    (hne : PySem.W.findIn K (.ref C) "__ne__" = some (some (.builtin "object.__ne__"))) (hm : PySem.W.mroIn K C (.type "object") = some true)
    (hs : PySem.W.findIn K (.ref C) "__eq__" = some (some (.ref f))) (hf : PySem.W.isFn K (.ref f) = true)
    (h : wpAny (model prog w) A.in1 (call (.ref f) [.ref x, .ref y]) (fun v s' => ∃ b, v = .bool b ∧ Q (.bool (!b)) s') E s) : wpAny (model prog w) A (richCompare .NotEq (.ref x) (.ref y)) Q E s := by
  have X := X₀.keeps Fm.keep
  have one : wpAny (model prog w) A (tryCompare (.ref x) (cmpInfo .NotEq).2.1 (.ref y)) (fun r s' => ∃ v, r = some v ∧ Q v s') E s := by
    rw [cmpInfo_NotEq]
    unfold tryCompare
    refine wpAny_bind (ifBound_objNe X I hne (wpAny_call (codeAny_call_builtin PySem.F.cmp_object.ne.plain PySem.F.cmpEntry_ne (PySem.W.check_slot PySem.F.cmpKind_ne PySem.F.cmpSplit_ne (I.type.andThen (PySem.W.looks_mroIn X hm)) (PySem.F.cmpArgs_ne _ _)
      (entry_objNe (A := A.in1) X I hs hf (show A.in1.units < cLine from hu) (wpAny_mono h (fun v s' hv => ?_) fun _ _ e => e))))))
    obtain ⟨b, rfl, hq⟩ := hv
    first | exact ⟨b, rfl, wpAny_pure ⟨_, rfl, hq⟩⟩ | exact ⟨b, rfl, wpAny_pure (wpAny_pure ⟨_, rfl, hq⟩)⟩ | exact ⟨b, rfl, ⟨_, rfl, hq⟩⟩
  unfold richCompare
  simp only [oneThing_ref]
  refine wpAny_holding (wpAny_bind (wpAny_cRoomFor (Nat.lt_of_succ_lt hu) ?_))
  refine wpAny_bind (I.type.here (wpAny_bind (hb.here ?_)))
  split
  · rename_i q
    have e : PySem.W.subIn K tb (.ref C) = some false := by
      rcases Bool.or_eq_true_iff.mp hn with e | e
      · rw [beq_iff_eq.mp e] at q; simp at q
      · exact beq_iff_eq.mp e
    refine wpAny_bind ((PySem.W.looks_subIn X e).here ?_)
    simp only [Bool.false_eq_true, if_false]
    refine wpAny_bind (wpAny_mono one (fun r s' z => ?_) fun _ _ e => e)
    obtain ⟨v, rfl, hq⟩ := z
    exact wpAny_pure hq
  · refine wpAny_bind (wpAny_pure ?_)
    simp only [Bool.false_eq_true, if_false]
    refine wpAny_bind (wpAny_mono one (fun r s' z => ?_) fun _ _ e => e)
    obtain ⟨v, rfl, hq⟩ := z
    exact wpAny_pure hq
end
end NX

namespace NX
open PySem PySem.Spec PyProof.Rows L2
/-! ### rules with the fragment named: for bodies of comprehensions -/
section
variable {X : Cx} {K : PySem.W.Frag}
theorem call_lenK (e : X.K = K := by rfl) : CallR X (.builtin "len") (Evl.rLenS K) := e ▸ call_lenN
theorem call_listK (e : X.K = K := by rfl) : CallR X (.type "list") (Evl.rListS K) := e ▸ call_listN
theorem call_tupK (e : X.K = K := by rfl) : CallR X (.type "tuple") (rTupS K) := e ▸ call_tupN
theorem call_isiK' (e : X.K = K := by rfl) : CallR X (.builtin "isinstance") (rIsi K) := e ▸ call_isi
theorem cr_sortedIK (e : X.K = K := by rfl) : CallR X (.builtin "sorted") (rSortedI K) := e ▸ cr_sortedI
theorem cr_sortedPOK (e : X.K = K := by rfl) : CallR X (.builtin "sorted") (rSortedPO K) := e ▸ cr_sortedPO
theorem cr_sumK (hc : X.calm = true) (e : X.K = K := by rfl) : CallR X (.builtin "sum") (rSum K) := e ▸ cr_sum hc
theorem cr_maxK (hc : X.calm = true) (e : X.K = K := by rfl) : CallR X (.builtin "max") (rMax K) := e ▸ cr_max hc
theorem cr_minK (hc : X.calm = true) (e : X.K = K := by rfl) : CallR X (.builtin "min") (rMin K) := e ▸ cr_min hc
theorem cr_allK (hc : X.calm = true) (e : X.K = K := by rfl) : CallR X (.builtin "all") (rAll K) := e ▸ cr_all hc
theorem ix_listK (e : X.K = K := by rfl) : IxR X (rIxL K) := e ▸ ix_list
theorem ix_tupK (e : X.K = K := by rfl) : IxR X (rIxT K) := e ▸ ix_tup
theorem sl_listK (e : X.K = K := by rfl) : SlR X (rSlL K) := e ▸ sl_list
theorem sl_tupAK (e : X.K = K := by rfl) : SlR X (rSlA K) := e ▸ sl_tupA
theorem op_in_seqK (e : X.K = K := by rfl) : OpR X (compareOp .In) (rIn K false) := e ▸ op_in_seq
theorem op_notIn_seqK (e : X.K = K := by rfl) : OpR X (compareOp .NotIn) (rIn K true) := e ▸ op_notIn_seq
theorem op_eqDK (hu : X.A.units + 64 < cLine) (e : X.K = K := by rfl) : OpR X (compareOp .Eq) (rEqD K) := e ▸ op_eqD hu
theorem op_neDK (hu : X.A.units + 64 < cLine) (e : X.K = K := by rfl) : OpR X (compareOp .NotEq) (rNeD K) := e ▸ op_neD hu
theorem op_inDK (hu : X.A.units + 65 < cLine) (e : X.K = K := by rfl) : OpR X (compareOp .In) (rInD K) := e ▸ op_inD hu
theorem op_notInDK (hu : X.A.units + 65 < cLine) (e : X.K = K := by rfl) : OpR X (compareOp .NotIn) (rNotInD K) := e ▸ op_notInD hu
theorem op_catLK (e : X.K = K := by rfl) : OpR X (binaryOp .Add) (rCatL K) := e ▸ op_catL
theorem op_catAK (e : X.K = K := by rfl) : OpR X (binaryOp .Add) (rCatA K) := e ▸ op_catA
theorem op_repTK (e : X.K = K := by rfl) : OpR X (binaryOp .Mult) (rRepT K) := e ▸ op_repT
theorem mt_indexK (e : X.K = K := by rfl) : MtR X "list.index" (rIndex K) := e ▸ mt_index
theorem pe_fldK {e : Expr} {ta : TE} {f : Str} {pos : Pos} (he : PE X e ta) (hb : attributeBase e f X.env (eval e X.env) = eval e X.env) (h : X.K = K := by rfl) : PE X (.Attribute e f pos) (tFld K ta f) := h ▸ pe_fld he hb
theorem pi_listK {tg l : Expr} {tl : TE} (hl : PE X l tl) (h : X.K = K := by rfl) : PI X tg l (iList K tl) := h ▸ pi_list hl
theorem pi_tupK {tg l : Expr} {tl : TE} (hl : PE X l tl) (h : X.K = K := by rfl) : PI X tg l (iTup K tl) := h ▸ pi_tup hl
theorem pg_tupK {es : List Expr} {k : Nat} {t : TGs} {n : Nat} {pos : Pos} (hc : X.calm = true) (h : PGs X es t) (e : X.K = K := by rfl)
    (hn : (assignEach es X.env).length = n := by rfl) (hst : (assignEach es X.env).findIdx? (·.1) = none := by rfl) : PG X (.Tuple es k pos) (gTup K n t) := e ▸ pg_tup hc h hn hst
theorem pe_bmK {o e : Expr} {es : List Expr} {to : TE} {t : TA} {name : Str} {apos cpos : Pos} {T id : String} {r : V → List V → Hp → VK → Prop} (pa : PlainAttrs T) (slot : Slot T name id) (hty : typeOf (.builtin id) = pure (.type "method_descriptor")) (hm : MtR X id r) (ho : PE X o to) (ha : PA X (e :: es) t)
    (h : X.K = K := by rfl) (hbase : attributeBase o name X.env (eval o X.env) = eval o X.env := by rfl)
    (hfew : ((backTo cpos (starEach (e :: es) X.env)).all (fun x => !x.1) && (backToKw cpos (keywordEach [] X.env)).all (fun x => x.1.isSome)
      && decide ((e :: es).length + ([] : List Keyword).length + (if ([] : List Keyword).isEmpty then 0 else 1) < 30)) = true := by rfl)
    (hline : (apos.endLine == cpos.line) = true := by rfl) (hs : starEach (e :: es) X.env = (false, eval e X.env) :: starEach es X.env := by rfl) (hplain : (backTo cpos (starEach es X.env)).any (·.1) = false := by rfl) :
    PE X (.Call (.Attribute o name apos) (e :: es) [] cpos) (tBM K T r to t) := h ▸ pe_bm pa slot hty hm ho ha hbase hfew hline hs hplain
end
end NX

local macro_rules | `(tactic| walk_at "go1") => `(tactic| first
  | with_reducible refine NX.s_seq ?_
  | with_reducible refine NX.s_asg ?_
  | with_reducible refine NX.s_name ?_
  | with_reducible refine NX.s_ret ?_
  | with_reducible refine NX.s_if ?_
  | with_reducible refine NX.s_next ?_
  | with_reducible refine NX.s_drop ?_
  | with_reducible refine NX.s_brk ?_
  | with_reducible refine NX.s_cont ?_
  | with_reducible refine NX.s_par ?_
  | with_reducible refine NX.s_two ?_
  | with_reducible refine NX.s_sub ?_
  | with_reducible refine NX.s_gcons ?_
  | with_reducible refine NX.s_gnil ?_
  | with_reducible refine NX.g_c ?_
  | ((with_reducible refine' NX.g_var ?gv ?gk); (case gv => exact rfl))
  | with_reducible refine NX.g_op ?_
  | with_reducible refine NX.g_un ?_
  | with_reducible refine NX.g_U ?_
  | with_reducible refine NX.g_I0 ?_
  | with_reducible refine NX.g_cb ?_
  | with_reducible refine NX.g_call ?_
  | with_reducible refine NX.g_cal ?_
  | with_reducible refine NX.g_calN ?_
  | with_reducible refine NX.g_nil ?_
  | with_reducible refine NX.g_cons ?_
  | with_reducible refine NX.g_test ?_
  | with_reducible refine NX.g_B ?_
  | with_reducible refine NX.g_bl ?_
  | with_reducible refine NX.g_exV ?_
  | with_reducible refine NX.g_exI ?_
  | with_reducible refine NX.g_and ?_
  | with_reducible refine NX.g_or ?_
  | with_reducible refine NX.g_not ?_
  | with_reducible refine NX.g_andV ?_
  | with_reducible refine NX.g_orV ?_
  | with_reducible refine NX.g_notV ?_
  | with_reducible refine NX.g_if ?_
  | with_reducible refine NX.g_chain ?_
  | with_reducible refine NX.g_chain3 ?_
  | with_reducible refine NX.g_tup ?_
  | with_reducible refine NX.g_lst ?_
  | with_reducible refine NX.g_sl ?_
  | with_reducible refine NX.g_noPart ?_
  | with_reducible refine NX.g_part ?_
  | with_reducible refine NX.g_bm ?_
  | with_reducible refine NX.g_bm0 ?_
  | with_reducible refine NX.g_eqI ?_
  | with_reducible refine NX.g_neI ?_
  | with_reducible refine NX.g_eqB ?_
  | with_reducible refine NX.g_neB ?_
  | with_reducible refine NX.s_ipI ?_
  | ((with_reducible refine' NX.s_aug ?gv ?gk); (case gv => exact rfl))
  | with_reducible refine NX.s_for ?_
  | with_reducible refine NX.g_lc ?_
  | with_reducible refine NX.g_iList ?_
  | with_reducible refine NX.g_iTup ?_
  | with_reducible refine NX.g_iRng1 ?_
  | with_reducible refine NX.g_iRng2 ?_
  | with_reducible refine NX.g_iEnum ?_
  | with_reducible refine NX.g_yes ?_
  | with_reducible refine NX.n_int ?_
  | with_reducible refine NX.n_intB ?_
  | with_reducible refine NX.n_min ?_
  | with_reducible refine NX.n_max ?_
  | with_reducible refine NX.n_isN ?_
  | with_reducible refine NX.n_notN ?_
  | with_reducible refine NX.g_lrg ?_
  | with_reducible refine NX.g_rg1 ?_
  | with_reducible refine NX.g_rg2 ?_
  | with_reducible refine NX.g_ex2I ?_
  | with_reducible refine NX.g_mth ?_
  | with_reducible refine NX.g_new ?_
  | with_reducible refine NX.g_fld ?_
  | with_reducible refine NX.s_fld ?_
  | with_reducible refine NX.if_nt ?_
  | with_reducible refine NX.if_nf ?_
  | with_reducible refine L2.iteT ?_
  | with_reducible refine L2.iteF ?_)
local macro_rules | `(tactic| walk_at "go") => `(tactic| repeat (walk_at "go1"))

/-! the text by places -/
namespace NX
open PySem PySem.Spec PyProof.Rows L2
def top (i : Nat) : Stmt := PySem.Challenge.pw_nextchannel_k32_whole_no_smaller_network.main.body.getD i (.Pass ⟨0, 0, 0, 0⟩)
/-- what the top leaves of built-ins and constants -/
structure Txt (mg : Str → Option Value) : Prop where
  n_all : mg "all" = none
  n_bool : mg "bool" = none
  n_enumerate : mg "enumerate" = none
  n_int : mg "int" = none
  n_isinstance : mg "isinstance" = none
  n_len : mg "len" = none
  n_list : mg "list" = none
  n_max : mg "max" = none
  n_min : mg "min" = none
  n_range : mg "range" = none
  n_sorted : mg "sorted" = none
  n_tuple : mg "tuple" = none
  m_MAX_CHANNEL : ∃ t, mg "MAX_CHANNEL" = some (.int 60 t)
  m_MAX_STATIONS : ∃ t, mg "MAX_STATIONS" = some (.int 60 t)
end NX

namespace NX
/-! ### chains and tables, no program in sight -/
def cge (ns : List Int) (j : Int) : Nat := ns.countP fun x => decide (j ≤ x)
/-- k of the numbers are at least 1, 2 .. k, each another one -/
def Has (ns : List Int) (k : Int) : Prop := ∀ j : Int, 1 ≤ j → j ≤ k → k - j + 1 ≤ (cge ns j : Int)
def IsCh (ns : List Int) (g : Int) : Prop := 0 ≤ g ∧ ∀ k : Int, k ≤ g ↔ Has ns k
theorem Has.down {ns : List Int} {k l : Int} (h : Has ns k) (e : l ≤ k) : Has ns l := fun j h1 h2 => by have := h j h1 (by omega); omega
theorem IsCh.uniq {ns : List Int} {g g' : Int} (h : IsCh ns g) (h' : IsCh ns g') : g = g' := by
  have h1 := (h'.2 g).mpr ((h.2 g).mp (Int.le_refl _))
  have h2 := (h.2 g').mpr ((h'.2 g').mp (Int.le_refl _))
  omega
theorem cge_perm {ns ms : List Int} (p : ns.Perm ms) (j : Int) : cge ns j = cge ms j := p.countP_eq _
theorem IsCh.perm {ns ms : List Int} {g : Int} (h : IsCh ns g) (p : ns.Perm ms) : IsCh ms g :=
  ⟨h.1, fun k => (h.2 k).trans ⟨fun a j h1 h2 => by rw [← cge_perm p]; exact a j h1 h2, fun a j h1 h2 => by rw [cge_perm p]; exact a j h1 h2⟩⟩
theorem cge_app (ns ms : List Int) (j : Int) : cge (ns ++ ms) j = cge ns j + cge ms j := List.countP_append ..
theorem cge_one (x j : Int) : cge [x] j = if j ≤ x then 1 else 0 := by unfold cge; simp
theorem cge_cons (x : Int) (ns : List Int) (j : Int) : cge (x :: ns) j = cge [x] j + cge ns j := cge_app [x] ns j
theorem cge_len (ns : List Int) (j : Int) : cge ns j ≤ ns.length := List.countP_le_length
theorem IsCh.nil : IsCh [] 0 := ⟨Int.le_refl _, fun k => ⟨fun h j h1 h2 => by omega, fun h => by
  by_cases c : k ≤ 0
  · exact c
  · have := h k (by omega) (Int.le_refl _)
    unfold cge at this
    simp at this⟩⟩
theorem IsCh.snoc {ns : List Int} {g x : Int} (h : IsCh ns g) (hx : ∀ y ∈ ns, y ≤ x) : IsCh (ns ++ [x]) (if x > g then g + 1 else g) := by
  obtain ⟨h0, h⟩ := h
  by_cases c : x > g
  · rw [if_pos c]
    refine ⟨by omega, fun k => ⟨fun hk j h1 h2 => ?_, fun hk => ?_⟩⟩
    · rw [cge_app, cge_one, if_pos (by omega)]
      by_cases e : j ≤ k - 1
      · have := (h (k - 1)).mp (by omega) j h1 e
        omega
      · omega
    · have : Has ns (k - 1) := fun j h1 h2 => by
        have := hk j h1 (by omega)
        rw [cge_app, cge_one] at this
        split at this <;> omega
      have := (h (k - 1)).mpr this
      omega
  · rw [if_neg c]
    refine ⟨h0, fun k => ⟨fun hk j h1 h2 => ?_, fun hk => ?_⟩⟩
    · have := (h k).mp hk j h1 h2
      rw [cge_app]
      omega
    · by_cases e : k ≤ g
      · exact e
      · have := hk.down (show g + 1 ≤ k by omega) (g + 1) (by omega) (Int.le_refl _)
        rw [cge_app, cge_one, if_neg (by omega)] at this
        have z : cge ns (g + 1) = 0 := by
          unfold cge
          refine List.countP_eq_zero.mpr fun y hy => ?_
          have := hx y hy
          simp
          omega
        rw [z] at this
        omega
theorem IsCh.le_len {ns : List Int} {g : Int} (h : IsCh ns g) : g ≤ (ns.length : Int) := by
  by_cases c : g ≤ 0
  · omega
  · have := (h.2 g).mp (Int.le_refl _) 1 (Int.le_refl _) (by omega)
    have z := cge_len ns 1
    omega
/-- more and greater numbers: a longer chain -/
theorem cge_mono {α : Type} {f g : α → Int} : ∀ {l m : List α}, l.Sublist m → (∀ x ∈ l, f x ≤ g x) → ∀ j, cge (l.map f) j ≤ cge (m.map g) j
  | _, _, .slnil, _, j => Nat.le_refl _
  | _, _, .cons a s, h, j => by
    have := cge_mono s h j
    rw [List.map_cons]
    rw [cge_cons]
    omega
  | _, _, .cons₂ a s, h, j => by
    have := cge_mono s (fun x hx => h x (List.mem_cons_of_mem _ hx)) j
    rw [List.map_cons, List.map_cons]
    rw [cge_cons (f a), cge_cons (g a), cge_one, cge_one]
    have := h a List.mem_cons_self
    split <;> split <;> omega
theorem IsCh.mono {α : Type} {f g : α → Int} {l m : List α} {c d : Int} (s : l.Sublist m) (h : ∀ x ∈ l, f x ≤ g x) (hc : IsCh (l.map f) c) (hd : IsCh (m.map g) d) : c ≤ d :=
  (hd.2 c).mpr fun j h1 h2 => by
    have := (hc.2 c).mp (Int.le_refl _) j h1 h2
    have := cge_mono s h j
    omega
/-- a value that is smaller somewhere: a station that shows it -/
theorem cge_less {α : Type} {f g : α → Int} {j : Int} : ∀ {l m : List α}, l.Sublist m → cge (m.map g) j < cge (l.map f) j → ∃ x ∈ l, g x < j ∧ j ≤ f x
  | _, _, .slnil, h => absurd h (Nat.lt_irrefl _)
  | _, _, .cons a s, h => by
    rw [List.map_cons, cge_cons (g a)] at h
    exact cge_less s (by omega)
  | _, _, .cons₂ a s, h => by
    rw [List.map_cons, List.map_cons] at h
    rw [cge_cons (f a), cge_cons (g a), cge_one, cge_one] at h
    by_cases c : g a < j ∧ j ≤ f a
    · exact ⟨a, List.mem_cons_self, c⟩
    · obtain ⟨x, hx, hh⟩ := cge_less (f := f) (g := g) s (j := j) (by split at h <;> split at h <;> omega)
      exact ⟨x, List.mem_cons_of_mem _ hx, hh⟩
/-- a table: each station's number by those of its neighbours; V, N: stations, neighbours -/
def Tab {α : Type} (V : α → Prop) (N : α → List α) (t : α → Int) : Prop := ∀ v, V v → IsCh ((N v).map t) (t v - 1)
/-- tables compared: b's stations are sent into a's, their neighbours (but for the order) among the neighbours there -/
theorem tab_le {α β : Type} {V : α → Prop} {V' : β → Prop} {N : α → List α} {N' : β → List β} {a : α → Int} {b : β → Int} (ha : Tab V N a) (hb : Tab V' N' b) (φ : β → α) (hV : ∀ v, V' v → V (φ v)) (hN' : ∀ v, V' v → ∀ u ∈ N' v, V' u)
    (hN : ∀ v, V' v → ∃ m : List α, m.Perm (N (φ v)) ∧ ((N' v).map φ).Sublist m) : ∀ v, V' v → b v ≤ a (φ v) := by
  have key : ∀ (n : Nat) v, V' v → (a (φ v)).toNat = n → b v ≤ a (φ v) := by
    intro n
    induction n using Nat.strongRecOn with
    | ind n ih =>
      intro v hv hn
      by_cases c : b v ≤ a (φ v)
      · exact c
      · have h1 := ha _ (hV v hv)
        have h2 := hb v hv
        have no : ¬ Has ((N (φ v)).map a) (a (φ v)) := fun z => by
          have := (h1.2 _).mpr z
          omega
        have yes : Has ((N' v).map b) (a (φ v)) := (h2.2 _).mp (by omega)
        obtain ⟨m, hm, hs⟩ := hN v hv
        have : ∃ j : Int, 1 ≤ j ∧ j ≤ a (φ v) ∧ (cge ((N (φ v)).map a) j : Int) < a (φ v) - j + 1 := Classical.byContradiction fun z => no fun j h1 h2 => Classical.byContradiction fun y => z ⟨j, h1, h2, by omega⟩
        obtain ⟨j, hj1, hj2, hlt⟩ := this
        have hy := yes j hj1 hj2
        have hm' : cge ((N (φ v)).map a) j = cge (m.map a) j := (cge_perm (hm.map a) j).symm
        -- as values: b on N' against a along φ
        have : ∃ u ∈ N' v, a (φ u) < j ∧ j ≤ b u := by
          have hlt' : cge (m.map a) j < cge ((N' v).map b) j := by omega
          have sub : cge (((N' v).map φ).map a) j ≤ cge (m.map a) j := by
            have := cge_mono (f := a) (g := a) hs (fun _ _ => Int.le_refl _) j
            exact this
          rw [List.map_map] at sub
          exact cge_less (f := b) (g := a ∘ φ) (List.Sublist.refl (N' v)) (by omega)
        obtain ⟨u, hu, hu1, hu2⟩ := this
        have hvu := hN' v hv u hu
        have := ih (a (φ u)).toNat (by omega) u hvu rfl
        omega
  exact fun v hv => key _ v hv rfl
end NX

namespace NX
open PySem PySem.Spec PyProof.Rows L2
open Evl (Ex ex_l ex_t fresh_back)
/-! ### lists of whole numbers -/
theorem dp_ints {K : PySem.W.Frag} {H : Hp} : ∀ ns : List Int, DpAll K H (ns.map V.int) (ns.map PyData.int)
  | [] => .nil
  | n :: ns => .cons (.int n) (dp_ints ns)
theorem lay_ints : ∀ ns : List Int, PyData.canLayAll0 (ns.map PyData.int) = true
  | [] => by rw [List.map_nil]; unfold PyData.canLayAll0; rfl
  | n :: ns => by
    rw [List.map_cons]
    unfold PyData.canLayAll0
    rw [lay_ints ns]
    simp only [PyData.canLay0, Bool.and_self]
theorem depth_ints : ∀ ns : List Int, PyData.depthAll (ns.map PyData.int) = 0
  | [] => by rw [List.map_nil]; unfold PyData.depthAll; rfl
  | n :: ns => by
    rw [List.map_cons]
    unfold PyData.depthAll
    rw [depth_ints ns]
    simp [PyData.depth]
theorem shaped_ints (ns : List Int) : SeqAt.shaped (.list (ns.map PyData.int)) = true := by
  unfold SeqAt.shaped
  rw [Bool.and_eq_true]
  refine ⟨?_, decide_eq_true ?_⟩
  · simp only [PyData.canLay0]
    exact lay_ints ns
  · simp only [PyData.depth]
    rw [depth_ints]
    omega
theorem shaped_intsT (ns : List Int) : SeqAt.shaped (.tuple (ns.map PyData.int)) = true := by
  unfold SeqAt.shaped
  rw [Bool.and_eq_true]
  refine ⟨?_, decide_eq_true ?_⟩
  · simp only [PyData.canLay0]
    exact lay_ints ns
  · simp only [PyData.depth]
    rw [depth_ints]
    omega
theorem eqvAll_ints : ∀ ns ms : List Int, PyData.eqvAll (ns.map PyData.int) (ms.map PyData.int) = decide (ns = ms)
  | [], [] => by simp [PyData.eqvAll]
  | [], q :: qs => by simp [PyData.eqvAll]
  | p :: ps, [] => by simp [PyData.eqvAll]
  | p :: ps, q :: qs => by
    rw [List.map_cons, List.map_cons, PyData.eqvAll, eqvAll_ints ps qs, Bool.eq_iff_iff]
    simp [PyData.eqv]
theorem eqv_ints (ns ms : List Int) : PyData.eqv (.list (ns.map PyData.int)) (.list (ms.map PyData.int)) = decide (ns = ms) := by
  rw [PyData.eqv]; exact eqvAll_ints ns ms
theorem eqv_intsT (ns ms : List Int) : PyData.eqv (.tuple (ns.map PyData.int)) (.tuple (ms.map PyData.int)) = decide (ns = ms) := by
  rw [PyData.eqv]; exact eqvAll_ints ns ms
section
variable {K : PySem.W.Frag} {G H : Hp} {L : List (Addr × HO)} {p q : Addr} {xs : List V} {v : V} {Q : VK} {ns ms : List Int}
theorem n_neIL (h1 : SqL K H p (ns.map V.int)) (h2 : SqL K H q (ms.map V.int)) (k : Q (.bl (!decide (ns = ms))) H) : rNeD K (.ref p) (.ref q) H Q :=
  ⟨_, _, .lst h1 (dp_ints ns), .lst h2 (dp_ints ms), shaped_ints ns, shaped_ints ms, by rw [eqv_ints]; exact k⟩
theorem n_eqIL (h1 : SqL K H p (ns.map V.int)) (h2 : SqL K H q (ms.map V.int)) (k : Q (.bl (decide (ns = ms))) H) : rEqD K (.ref p) (.ref q) H Q :=
  ⟨_, _, .lst h1 (dp_ints ns), .lst h2 (dp_ints ms), shaped_ints ns, shaped_ints ms, by rw [eqv_ints]; exact k⟩
theorem n_neIT (h1 : SqT K H p (ns.map V.int)) (h2 : SqT K H q (ms.map V.int)) (k : Q (.bl (!decide (ns = ms))) H) : rNeD K (.ref p) (.ref q) H Q :=
  ⟨_, _, .tup h1 (dp_ints ns), .tup h2 (dp_ints ms), shaped_intsT ns, shaped_intsT ms, by rw [eqv_intsT]; exact k⟩
theorem n_eqIT (h1 : SqT K H p (ns.map V.int)) (h2 : SqT K H q (ms.map V.int)) (k : Q (.bl (decide (ns = ms))) H) : rEqD K (.ref p) (.ref q) H Q :=
  ⟨_, _, .tup h1 (dp_ints ns), .tup h2 (dp_ints ms), shaped_intsT ns, shaped_intsT ms, by rw [eqv_intsT]; exact k⟩
/-- sorted(a list of numbers), read from now on -/
theorem n_sortI (S : Own G L H) (h : SqL K H p (ns.map V.int)) (k : ∀ (ms : List Int) q G1 H1, ms.Perm ns → ms.Pairwise (· ≤ ·) → H q = none → Ex G G1 → Ex H H1 → G1 q = some (.lst (ms.map V.int)) → Own G1 L H1 → Q (.ref q) H1) : rSortedI K [.ref p] H Q :=
  ⟨p, ns, rfl, h, fun ms q h1 h2 hq => k ms q _ _ h1 h2 hq (S.still hq).2.1 (Ex.new hq) (S.still hq).2.2 (S.still hq).1⟩
/-! ### results that are new -/
def Ret (o : HO) (H : Hp) (Q : VK) : Prop := ∀ p H', H p = none → Ex H H' → H' p = some o → Q (.ref p) H'
theorem n_retO {o : HO} (S : Own G L H) (ht : noTup o = true) (k : ∀ p H1, H p = none → Ex H H1 → Own G ((p, o) :: L) H1 → Q (.ref p) H1) : Ret o H Q :=
  fun p H' hp e h => k p H' hp e (S.new e hp h ht)
theorem n_retG {o : HO} (S : Own G L H) (k : ∀ p G1 H1, H p = none → Ex G G1 → Ex H H1 → G1 p = some o → Own G1 L H1 → Q (.ref p) H1) : Ret o H Q :=
  fun p H' hp e h => by
    obtain ⟨S1, e1, e2⟩ := S.absorb e
    exact k p _ H' hp e1 e (e2 _ _ ((nw_new hp).trans h)) S1
theorem Own.pure (S : Own G [] H) : Ex G H := S.ex
end
/-- what stood still may be changed from now on -/
theorem Own.thaw {G H : Hp} {L : List (Addr × HO)} {p : Addr} {o : HO} (S : Own G L H) (h : G p = some o) (ht : noTup o = true := by rfl) : Own (cut G [(p, o)]) ((p, o) :: L) H ∧ ∀ a u, a ≠ p → G a = some u → cut G [(p, o)] a = some u :=
  ⟨⟨fun a u e => by
      by_cases m : a ∈ ([(p, o)] : List (Addr × HO)).map Prod.fst
      · rw [cut_in m] at e; cases e
      · rw [cut_out m] at e; exact S.ex _ _ e, fun x hx => by
      rcases List.mem_cons.mp hx with rfl | hx
      · exact ⟨cut_in (by simp), S.ex _ _ h⟩
      · have z := S.at_ x hx
        refine ⟨?_, z.2⟩
        have ne : x.1 ≠ p := fun e => by rw [e, h] at z; cases z.1
        rw [cut_out (by simpa using ne)]
        exact z.1, by
      rw [List.map_cons, List.nodup_cons]
      refine ⟨fun m => ?_, S.nd⟩
      obtain ⟨x, hx, e⟩ := List.mem_map.mp m
      have z := (S.at_ x hx).1
      rw [e, h] at z
      exact (nomatch z), fun x hx => by
      rcases List.mem_cons.mp hx with rfl | hx
      · exact ht
      · exact S.nt x hx⟩, fun a u ne e => by rw [cut_out (by simpa using ne)]; exact e⟩
/-! ### one number of a list -/
def tv (t : List Int) (j : Int) : Int := t.getD j.toNat 0
theorem tv_nat (t : List Int) (i : Nat) : tv t (i : Int) = t.getD i 0 := by unfold tv; rw [Int.toNat_natCast]
theorem tv_get {t : List Int} {i : Nat} {x : Int} (h : t[i]? = some x) : tv t (i : Int) = x := by rw [tv_nat, List.getD_eq_getElem?_getD, h] <;> rfl
theorem get_tv {t : List Int} {i : Nat} (h : i < t.length) : t[i]? = some (tv t (i : Int)) := by
  rw [tv_nat, List.getD_eq_getElem?_getD, List.getElem?_eq_getElem h] <;> rfl
theorem at_tv {t : List Int} {j : Int} (h0 : 0 ≤ j) (h : j < (t.length : Int)) : atI (t.map V.int) j = some (.int (tv t j)) := by
  obtain ⟨i, rfl⟩ : ∃ i : Nat, j = (i : Int) := ⟨j.toNat, by omega⟩
  exact atI_nat (by rw [List.getElem?_map, get_tv (by omega)] <;> rfl)
theorem tv_app1 {t : List Int} {x : Int} {j : Int} (h : j < (t.length : Int)) (h0 : 0 ≤ j) : tv (t ++ [x]) j = tv t j := by
  unfold tv
  rw [List.getD_eq_getElem?_getD, List.getD_eq_getElem?_getD, List.getElem?_append_left (by omega)]
theorem tv_app2 {t : List Int} {x : Int} : tv (t ++ [x]) (t.length : Int) = x := tv_get (by simp)
theorem tv_ext {s t : List Int} (hl : s.length = t.length) (h : ∀ i : Nat, i < s.length → tv s (i : Int) = tv t (i : Int)) : s = t := by
  refine List.ext_getElem? fun i => ?_
  by_cases c : i < s.length
  · rw [get_tv c, get_tv (by omega), h i c]
  · rw [List.getElem?_eq_none (by omega), List.getElem?_eq_none (by omega)]
theorem tv_out {t : List Int} {j : Int} (h : (t.length : Int) ≤ j) : tv t j = 0 := by
  unfold tv
  rw [List.getD_eq_getElem?_getD, List.getElem?_eq_none (by omega)] <;> rfl
theorem tv_cons (x : Int) (t : List Int) (i : Nat) : tv (x :: t) ((i + 1 : Nat) : Int) = tv t (i : Int) := by
  rw [tv_nat, tv_nat] <;> rfl
theorem tv_zero (x : Int) (t : List Int) : tv (x :: t) 0 = x := rfl
theorem sum_le : ∀ {s t : List Int}, s.length = t.length → (∀ i : Nat, i < s.length → tv s (i : Int) ≤ tv t (i : Int)) → s.sum ≤ t.sum ∧ (s ≠ t → s.sum < t.sum)
  | [], [], _, _ => ⟨Int.le_refl _, fun h => absurd rfl h⟩
  | [], _ :: _, h, _ => absurd h (by simp)
  | _ :: _, [], h, _ => absurd h (by simp)
  | a :: s, b :: t, hl, h => by
    have ih := sum_le (s := s) (t := t) (by simpa using hl) fun i hi => by
      have := h (i + 1) (by simp; omega)
      rw [tv_cons, tv_cons] at this
      exact this
    have h0 := h 0 (by simp)
    have h0 : a ≤ b := h0
    rw [List.sum_cons, List.sum_cons]
    refine ⟨by omega, fun ne => ?_⟩
    by_cases c : s = t
    · have : a ≠ b := fun e => ne (by rw [e, c])
      have := ih.1
      omega
    · have := ih.2 c
      omega
theorem sum_nn : ∀ {s : List Int}, (∀ i : Nat, i < s.length → 0 ≤ tv s (i : Int)) → 0 ≤ s.sum
  | [], _ => Int.le_refl _
  | a :: s, h => by
    have ih := sum_nn (s := s) fun i hi => by
      have := h (i + 1) (by simp; omega)
      rw [tv_cons] at this
      exact this
    have h0 : 0 ≤ a := h 0 (by simp)
    rw [List.sum_cons]
    omega
theorem rep_flat (m : Nat) (x : V) : (List.replicate m [x]).flatten = List.replicate m x := by
  induction m with
  | zero => rfl
  | succ m ih => rw [List.replicate_succ, List.flatten_cons, ih, List.replicate_succ] <;> rfl
theorem tv_rep {m i : Nat} {x : Int} (h : i < m) : tv (List.replicate m x) (i : Int) = x := tv_get (by rw [List.getElem?_replicate, if_pos h])
/-- [x] * m -/
theorem n_rep {H G : Hp} {L : List (Addr × HO)} {p : Addr} {x : Int} {m : Int} {Q : VK} (S : Own G ((p, .lst [.int x]) :: L) H) (h0 : 0 ≤ m) (hz : m ≤ 100000) (k : ∀ q G1 H1, H q = none → Ex G G1 → Ex H H1 → G1 q = some (.lst ((List.replicate m.toNat x).map V.int)) → Own G1 L H1 → Q (.ref q) H1) : rRep (.ref p) (.int m) H Q :=
  ⟨p, m, _, rfl, rfl, S.get0, by omega, by omega, small (by simp; omega), fun q hq => by
    have T := S.forget.still (o := .lst (List.replicate m.toNat [V.int x]).flatten) hq
    refine k q _ _ hq T.2.1 (Ex.new hq) ?_ T.1
    rw [T.2.2, rep_flat, List.map_replicate]⟩
end NX

namespace NX
open PySem PySem.Spec PyProof.Rows L2
open Evl (Ex ex_l ex_t fresh_back)
abbrev s_is_int : Stmt := top 8
theorem sc_is_int : FnScope ["value"] ["value"] (defScope s_is_int) := ⟨rfl, rfl, rfl, by decide +kernel, rfl, by decide +kernel, by decide +kernel⟩
/-- the types of the values that the law hands around -/
def okTy (t : String) : Bool := t == "int" || t == "bool" || t == "str" || t == "NoneType" || t == "list" || t == "tuple" || t == "dict"
/-- x is of the built-in type t -/
def IsT (K : PySem.W.Frag) (H : Hp) (x : V) (t : String) : Prop := TyX K H x (.type t) ∧ okTy t = true
theorem IsT.int {K : PySem.W.Frag} {H : Hp} {i : Int} : IsT K H (.int i) "int" := ⟨.base (.int i), by decide +kernel⟩
/-- is_int(x): whether x is an int and no bool -/
def spIsInt (K : PySem.W.Frag) : Sp := fun vs H Q _ => ∃ x t, vs = [x] ∧ IsT K H x t ∧ Q (.bl (t == "int")) H
theorem g_isint {K : PySem.W.Frag} {H : Hp} {Q : VK} {E : XK} {i : Int} (k : Q (.bl true) H) : spIsInt K [.int i] H Q E := ⟨_, _, rfl, IsT.int, k⟩
theorem kit_int {t : String} (h : okTy t = true) : kitB t "int" = some (t == "int" || t == "bool") ∧ kitB t "bool" = some (t == "bool") ∧ kitB t "tuple" = some (t == "tuple") ∧ kitB t "list" = some (t == "list") := by
  unfold okTy at h
  simp only [Bool.or_eq_true, beq_iff_eq] at h
  rcases h with (((((h | h) | h) | h) | h) | h) | h <;> subst h <;> exact ⟨by decide +kernel, by decide +kernel, by decide +kernel, by decide +kernel⟩
section
variable {P : Program} {w : World} {K : PySem.W.Frag} {mg : Str → Option Value} {base : Heap}
theorem ok_is_int {f : Addr} {fd : FuncData} (F : Fun K "is_int" "is_int" s_is_int f fd) (T : Txt mg) : FnOk P w K mg base CX0 1 f fd ["value"] (spIsInt K) := by
  refine F.ok sc_is_int (fun vs H Q E h => ?_) (fun cdv A outer s H vs Q E hr h => ?_)
  · obtain ⟨x, t, rfl, _⟩ := h
    rfl
  · obtain ⟨x, t, rfl, ⟨ty, ok⟩, k⟩ := h
    obtain ⟨k1, k2, _, _⟩ := kit_int ok
    refine ⟨_, (pss_one (ps_ret (pe_and (pe_callB call_isi (by rfl) T.n_isinstance (by decide +kernel) (pa_cons (pv 0) (pa_cons (pe_bltn (v := .ty "int") (by rfl) T.n_int (by decide +kernel) rfl) pa_nil))) (pe_one (pe_not (pe_callB call_isi (by rfl) T.n_isinstance (by decide +kernel) (pa_cons (pv 0) (pa_cons (pe_bltn (v := .ty "bool") (by rfl) T.n_bool (by decide +kernel) rfl) pa_nil)))))))), ?_⟩
    walk_at "go"
    refine ⟨x, _, _, _, _, rfl, .ty _, ty, kit_ty k1, ?_⟩
    walk_at "go"
    by_cases c : t = "int"
    · subst c
      refine iteT ?_
      walk_at "go"
      refine ⟨x, _, _, _, _, rfl, .ty _, ty, kit_ty k2, ?_⟩
      walk_at "go"
      exact k
    · by_cases c2 : t = "bool"
      · subst c2
        refine iteT ?_
        walk_at "go"
        refine ⟨x, _, _, _, _, rfl, .ty _, ty, kit_ty k2, ?_⟩
        walk_at "go"
        exact k
      · have e : (t == "int" || t == "bool") = false := by simp [c, c2]
        have e2 : (t == "int") = false := by simp [c]
        rw [e]
        refine iteF ?_
        rw [e2] at k
        exact k
end
end NX

namespace NX
open PySem PySem.Spec PyProof.Rows L2
open Evl (Ex ex_l ex_t fresh_back)
/-! ### lists of pairs of numbers -/
def isPr (H : Hp) (x : V) (q : Int × Int) : Prop := ∃ t, x = .ref t ∧ H t = some (.tup [.int q.1, .int q.2])
abbrev Lks (H : Hp) : List V → List (Int × Int) → Prop := Paired (isPr H)
theorem Lks.mono {G H : Hp} (e : Ex G H) {xs : List V} {ps : List (Int × Int)} (h : Lks G xs ps) : Lks H xs ps := Paired.mapP h fun _ _ ⟨t, a, b⟩ => ⟨t, a, e _ _ b⟩
theorem pr_snoc {α β : Type} {F : α → β → Prop} : ∀ {xs : List α} {ys : List β} {a : α} {b : β}, Paired F xs ys → F a b → Paired F (xs ++ [a]) (ys ++ [b])
  | _, _, _, _, .nil, h => .cons h .nil
  | _, _, _, _, .cons r t, h => .cons r (pr_snoc t h)
theorem pr_len {α β : Type} {F : α → β → Prop} {xs : List α} {ys : List β} (h : Paired F xs ys) : xs.length = ys.length := Paired.length h
theorem pr_get {α β : Type} {F : α → β → Prop} : ∀ {xs : List α} {ys : List β} {i : Nat} {a : α}, Paired F xs ys → xs[i]? = some a → ∃ b, ys[i]? = some b ∧ F a b
  | _, _, _, _, .nil, e => by simp at e
  | _, _, 0, _, .cons r _, e => by simp at e; subst e; exact ⟨_, rfl, r⟩
  | _, _, i + 1, _, .cons _ t, e => by
    obtain ⟨b, h1, h2⟩ := pr_get (i := i) t (by simpa using e)
    exact ⟨b, by simpa using h1, h2⟩
theorem take_snoc {α : Type} : ∀ {l : List α} {i : Nat} {x : α}, l[i]? = some x → l.take (i + 1) = l.take i ++ [x]
  | [], i, x, h => by simp at h
  | a :: l, 0, x, h => by
    have e : a = x := Option.some.inj h
    subst e
    rfl
  | a :: l, i + 1, x, h => by
    have ih := take_snoc (l := l) (i := i) (x := x) h
    show a :: l.take (i + 1) = a :: l.take i ++ [x]
    rw [ih]
    rfl
theorem get_map {α β : Type} {f : α → β} {l : List α} {i : Nat} {y : β} (h : (l.map f)[i]? = some y) : ∃ x, l[i]? = some x ∧ y = f x := by
  rw [List.getElem?_map] at h
  cases e : l[i]? with
  | none => rw [e] at h; cases h
  | some x => rw [e] at h; exact ⟨x, rfl, (Option.some.inj h).symm⟩
/-- range(a, b) -/
def rgI (a b : Int) : List Int := (List.range (b - a).toNat).map fun (i : Nat) => a + (i : Int)
theorem rgV_eq (a b : Int) : rgV a b = (rgI a b).map V.int := by
  unfold rgV rgI
  rw [List.map_map]
  rfl
theorem mem_rgI {a b k : Int} (h : k ∈ rgI a b) : a ≤ k ∧ k < b := by
  obtain ⟨i, hi, rfl⟩ := List.mem_map.mp h
  have := List.mem_range.mp hi
  omega
theorem pr_app {α β : Type} {F : α → β → Prop} : ∀ {xs xs' : List α} {ys ys' : List β}, Paired F xs ys → Paired F xs' ys' → Paired F (xs ++ xs') (ys ++ ys')
  | _, _, _, _, .nil, h => h
  | _, _, _, _, .cons r t, h => .cons r (pr_app t h)
end NX

/-! pairs in order; neighbours: plain Lean -/
namespace NX
abbrev Pr := Int × Int
def leP (x y : Pr) : Bool := decide (x.1 < y.1 ∨ (x.1 = y.1 ∧ x.2 ≤ y.2))
theorem leP_iff {x y : Pr} : leP x y = true ↔ (x.1 < y.1 ∨ (x.1 = y.1 ∧ x.2 ≤ y.2)) := by unfold leP; exact decide_eq_true_iff
theorem leP_total (x y : Pr) : leP x y = true ∨ leP y x = true := by
  rw [leP_iff, leP_iff]; omega
theorem leP_anti {x y : Pr} (h : leP x y = true) (h' : leP y x = true) : x = y := by
  rw [leP_iff] at h h'
  obtain ⟨a, b⟩ := x; obtain ⟨c, d⟩ := y
  simp only at h h'
  have h1 : a = c := by omega
  have h2 : b = d := by omega
  rw [h1, h2]
theorem leP_trans {x y z : Pr} (h : leP x y = true) (h' : leP y z = true) : leP x z = true := by
  rw [leP_iff] at *; omega
def insP (x : Pr) : List Pr → List Pr
  | [] => [x]
  | y :: l => if leP x y then x :: y :: l else y :: insP x l
def sortP : List Pr → List Pr
  | [] => []
  | x :: l => insP x (sortP l)
theorem insP_perm (x : Pr) : ∀ l, (insP x l).Perm (x :: l)
  | [] => List.Perm.refl _
  | y :: l => by
    unfold insP
    split
    · exact List.Perm.refl _
    · exact ((insP_perm x l).cons y).trans (List.Perm.swap x y l)
theorem sortP_perm : ∀ l, (sortP l).Perm l
  | [] => List.Perm.refl _
  | x :: l => (insP_perm x _).trans ((sortP_perm l).cons x)
abbrev Up (l : List Pr) : Prop := l.Pairwise fun x y => leP x y = true
theorem insP_up (x : Pr) : ∀ l, Up l → Up (insP x l)
  | [], _ => List.pairwise_singleton _ _
  | y :: l, h => by
    unfold insP
    split
    · rename_i c
      refine List.pairwise_cons.mpr ⟨fun z hz => ?_, h⟩
      rcases List.mem_cons.mp hz with rfl | hz
      · exact c
      · exact leP_trans c ((List.pairwise_cons.mp h).1 z hz)
    · rename_i c
      have c' : leP y x = true := (leP_total x y).resolve_left c
      refine List.pairwise_cons.mpr ⟨fun z hz => ?_, insP_up x l (List.pairwise_cons.mp h).2⟩
      rcases List.mem_cons.mp ((insP_perm x l).mem_iff.mp hz) with rfl | hz
      · exact c'
      · exact (List.pairwise_cons.mp h).1 z hz
theorem sortP_up : ∀ l, Up (sortP l)
  | [] => List.Pairwise.nil
  | x :: l => insP_up x _ (sortP_up l)
theorem up_uniq : ∀ {l m : List Pr}, Up l → Up m → l.Perm m → l = m
  | [], m, _, _, h => (List.Perm.nil_eq h)
  | x :: l, [], _, _, h => absurd h.length_eq (by simp)
  | x :: l, y :: m, hl, hm, h => by
    have hx : x ∈ y :: m := h.mem_iff.mp List.mem_cons_self
    have hy : y ∈ x :: l := h.mem_iff.mpr List.mem_cons_self
    have e : x = y := by
      rcases List.mem_cons.mp hx with e | hx
      · exact e
      · rcases List.mem_cons.mp hy with e | hy
        · exact e.symm
        · exact leP_anti ((List.pairwise_cons.mp hl).1 y hy) ((List.pairwise_cons.mp hm).1 x hx)
    subst e
    rw [up_uniq (List.pairwise_cons.mp hl).2 (List.pairwise_cons.mp hm).2 h.cons_inv]
theorem sortP_eq {l m : List Pr} (h : Up l) (p : l.Perm m) : l = sortP m := up_uniq h (sortP_up m) (p.trans (sortP_perm m).symm)
theorem sortP_congr {l m : List Pr} (p : l.Perm m) : sortP l = sortP m := up_uniq (sortP_up l) (sortP_up m) (((sortP_perm l).trans p).trans (sortP_perm m).symm)
theorem sortP_id {l : List Pr} (h : Up l) : sortP l = l := (sortP_eq h (List.Perm.refl l)).symm
theorem sortP_len (l : List Pr) : (sortP l).length = l.length := (sortP_perm l).length_eq
theorem mem_sortP {l : List Pr} {q : Pr} : q ∈ sortP l ↔ q ∈ l := (sortP_perm l).mem_iff
/-- the neighbours of i, in the order of the links -/
def nb (ks : List Pr) (i : Int) : List Int := ks.filterMap fun q => if q.1 = i then some q.2 else if q.2 = i then some q.1 else none
theorem nb_app (ks ls : List Pr) (i : Int) : nb (ks ++ ls) i = nb ks i ++ nb ls i := by unfold nb; rw [List.filterMap_append]
theorem nb_one (q : Pr) (i : Int) : nb [q] i = if q.1 = i then [q.2] else if q.2 = i then [q.1] else [] := by
  show (([q] : List Pr).filterMap fun q => if q.1 = i then some q.2 else if q.2 = i then some q.1 else none) = _
  rw [List.filterMap_cons]
  by_cases h : q.1 = i
  · simp [h]
  · by_cases h2 : q.2 = i
    · simp [h, h2]
    · simp [h, h2]
theorem mem_nb {ks : List Pr} {i j : Int} : j ∈ nb ks i ↔ (i, j) ∈ ks ∨ (j, i) ∈ ks ∧ j ≠ i := by
  unfold nb
  rw [List.mem_filterMap]
  constructor
  · rintro ⟨⟨a, b⟩, hq, h⟩
    simp only at h
    by_cases h1 : a = i
    · rw [if_pos h1] at h
      cases h
      subst h1
      exact .inl hq
    · rw [if_neg h1] at h
      by_cases h2 : b = i
      · rw [if_pos h2] at h
        cases h
        subst h2
        exact .inr ⟨hq, h1⟩
      · rw [if_neg h2] at h
        cases h
  · rintro (h | ⟨h, ne⟩)
    · exact ⟨(i, j), h, by simp⟩
    · exact ⟨(j, i), h, by simp [ne]⟩
/-- a network's links: each the smaller station first -/
def Okl (n : Nat) (ks : List Pr) : Prop := ∀ q ∈ ks, 0 ≤ q.1 ∧ q.1 < q.2 ∧ q.2 < (n : Int)
theorem mem_nb' {n : Nat} {ks : List Pr} (h : Okl n ks) {i j : Int} : j ∈ nb ks i ↔ (i, j) ∈ ks ∨ (j, i) ∈ ks := by
  rw [mem_nb]
  constructor
  · rintro (a | a)
    · exact .inl a
    · exact .inr a.1
  · rintro (a | a)
    · exact .inl a
    · exact .inr ⟨a, by have := h _ a; simp only at this; omega⟩
theorem nb_sym {n : Nat} {ks : List Pr} (h : Okl n ks) {i j : Int} : j ∈ nb ks i ↔ i ∈ nb ks j := by
  rw [mem_nb' h, mem_nb' h]
  exact ⟨fun a => a.symm, fun a => a.symm⟩
theorem nb_rng {n : Nat} {ks : List Pr} (h : Okl n ks) {i j : Int} (m : j ∈ nb ks i) : 0 ≤ j ∧ j < n ∧ j ≠ i ∧ 0 ≤ i ∧ i < n := by
  rw [mem_nb' h] at m
  rcases m with m | m
  · have := h _ m; simp only at this; omega
  · have := h _ m; simp only at this; omega
theorem Okl.sort {n : Nat} {ks : List Pr} (h : Okl n ks) : Okl n (sortP ks) := fun q hq => h q (mem_sortP.mp hq)
/-- the neighbours of a sorted list of links are in ascending order -/
theorem nb_up {n : Nat} : ∀ {ks : List Pr}, Okl n ks → Up ks → ks.Nodup → ∀ i, (nb ks i).Pairwise (· < ·)
  | [], _, _, _, _ => List.Pairwise.nil
  | q :: ks, h, u, d, i => by
    have h' : Okl n ks := fun q hq => h q (List.mem_cons_of_mem _ hq)
    have u' := List.pairwise_cons.mp u
    have d' := List.nodup_cons.mp d
    have ih := nb_up h' u'.2 d'.2 i
    have e : nb (q :: ks) i = nb [q] i ++ nb ks i := nb_app [q] ks i
    rw [e, nb_one]
    have hq := h q List.mem_cons_self
    obtain ⟨a, b⟩ := q
    simp only at hq ⊢
    by_cases h1 : a = i
    · rw [if_pos h1]
      refine List.pairwise_cons.mpr ⟨fun z hz => ?_, ih⟩
      subst h1
      rcases (mem_nb' h').mp hz with m | m
      · have c := leP_iff.mp (u'.1 _ m)
        simp only at c
        have ne : b ≠ z := fun z' => by subst z'; exact d'.1 m
        omega
      · have c := leP_iff.mp (u'.1 _ m)
        have c2 := h' _ m
        simp only at c c2
        omega
    · rw [if_neg h1]
      by_cases h2 : b = i
      · rw [if_pos h2]
        refine List.pairwise_cons.mpr ⟨fun z hz => ?_, ih⟩
        subst h2
        rcases (mem_nb' h').mp hz with m | m
        · have c := h' _ m
          have c2 := leP_iff.mp (u'.1 _ m)
          simp only at c c2
          omega
        · have c := leP_iff.mp (u'.1 _ m)
          simp only at c
          have ne : a ≠ z := fun z' => by subst z'; exact d'.1 m
          omega
      · rw [if_neg h2]
        exact ih
theorem nb_nodup {n : Nat} {ks : List Pr} (h : Okl n ks) (u : Up ks) (d : ks.Nodup) (i : Int) : (nb ks i).Nodup :=
  (nb_up h u d i).imp fun {a b} (c : a < b) => by omega
/-- not more neighbours than stations -/
theorem up_len : ∀ {l : List Int} {lo hi : Int}, l.Pairwise (· < ·) → (∀ x ∈ l, lo ≤ x ∧ x < hi) → l = [] ∨ (l.length : Int) ≤ hi - lo
  | [], _, _, _, _ => .inl rfl
  | x :: l, lo, hi, h, b => by
    have h' := List.pairwise_cons.mp h
    have bx := b x List.mem_cons_self
    refine .inr ?_
    rcases up_len (lo := x + 1) (hi := hi) h'.2 (fun y hy => ⟨by have := h'.1 y hy; omega, (b y (List.mem_cons_of_mem _ hy)).2⟩) with e | e
    · subst e
      show ((0 + 1 : Nat) : Int) ≤ _
      omega
    · rw [List.length_cons]
      omega
theorem I_len {n : Nat} {ks : List Pr} (h : Okl n ks) (u : Up ks) (d : ks.Nodup) (i : Int) : (nb ks i).length ≤ n := by
  rcases up_len (lo := 0) (hi := (n : Int)) (nb_up h u d i) (fun x hx => by have := nb_rng h hx; omega) with e | e
  · rw [e]; exact Nat.zero_le _
  · omega
end NX

namespace NX
open PySem PySem.Spec PyProof.Rows L2
open Evl (Ex ex_l ex_t fresh_back)
/-! ### pairs as data -/
def pd (q : Pr) : PyData := .tuple [.int q.1, .int q.2]
theorem dp_pr {K : PySem.W.Frag} {H : Hp} {x : V} {q : Pr} (h : isPr H x q) : Dp K H x (pd q) := by
  obtain ⟨t, rfl, ht⟩ := h
  exact .tup (SqT.of ht) (.cons (.int _) (.cons (.int _) .nil))
theorem dp_lks {K : PySem.W.Frag} {H : Hp} : ∀ {xs : List V} {ps : List Pr}, Lks H xs ps → DpAll K H xs (ps.map pd)
  | _, _, .nil => .nil
  | _, _, .cons r t => .cons (dp_pr r) (dp_lks t)
theorem lay_lks : ∀ ps : List Pr, PyData.canLayAll0 (ps.map pd) = true
  | [] => by rw [List.map_nil]; unfold PyData.canLayAll0; rfl
  | q :: ps => by
    rw [List.map_cons]
    unfold PyData.canLayAll0
    rw [lay_lks ps]
    show (PyData.canLay0 (.tuple [.int q.1, .int q.2]) && true) = true
    simp only [PyData.canLay0, PyData.canLayAll0, Bool.and_self]
theorem depth_lks : ∀ ps : List Pr, PyData.depthAll (ps.map pd) ≤ 1
  | [] => by rw [List.map_nil]; unfold PyData.depthAll; omega
  | q :: ps => by
    rw [List.map_cons]
    unfold PyData.depthAll
    have h := depth_lks ps
    have e : PyData.depth (pd q) = 1 := by
      show PyData.depth (.tuple [.int q.1, .int q.2]) = 1
      simp [PyData.depth, PyData.depthAll]
    rw [e]
    omega
theorem shaped_lks (ps : List Pr) : SeqAt.shaped (.list (ps.map pd)) = true := by
  unfold SeqAt.shaped
  have h := depth_lks ps
  rw [Bool.and_eq_true]
  refine ⟨?_, decide_eq_true ?_⟩
  · simp only [PyData.canLay0]
    exact lay_lks ps
  · simp only [PyData.depth]
    omega
theorem shaped_pd (q : Pr) : SeqAt.shaped (pd q) = true := by
  unfold SeqAt.shaped pd
  simp [PyData.canLay0, PyData.canLayAll0, PyData.depth, PyData.depthAll]
theorem eqv_pd (z q : Pr) : PyData.eqv (pd z) (pd q) = decide (z = q) := by
  unfold pd
  simp only [PyData.eqv, PyData.eqvAll, Bool.and_true]
  obtain ⟨a, b⟩ := z; obtain ⟨c, d⟩ := q
  rw [Bool.eq_iff_iff]
  simp
theorem any_pd (ps : List Pr) (q : Pr) : ((ps.map pd).any fun z => PyData.eqv z (pd q)) = decide (q ∈ ps) := by
  rw [List.any_map, Bool.eq_iff_iff, List.any_eq_true]
  simp only [Function.comp, eqv_pd, decide_eq_true_eq]
  exact ⟨fun ⟨x, hx, e⟩ => e ▸ hx, fun h => ⟨q, h, rfl⟩⟩
theorem eqvAll_lks : ∀ ps qs : List Pr, PyData.eqvAll (ps.map pd) (qs.map pd) = decide (ps = qs)
  | [], [] => by simp [PyData.eqvAll]
  | [], q :: qs => by simp [PyData.eqvAll]
  | p :: ps, [] => by simp [PyData.eqvAll]
  | p :: ps, q :: qs => by
    rw [List.map_cons, List.map_cons, PyData.eqvAll, eqv_pd, eqvAll_lks ps qs, Bool.eq_iff_iff]
    simp
theorem eqv_lks (ps qs : List Pr) : PyData.eqv (.list (ps.map pd)) (.list (qs.map pd)) = decide (ps = qs) := by
  rw [PyData.eqv]; exact eqvAll_lks ps qs
/-- the pair that a tuple holds -/
def kOf (H : Hp) (x : V) : Pr := match x with
  | .ref t => (match H t with
    | some (.tup [.int i, .int j]) => (i, j)
    | _ => (0, 0))
  | _ => (0, 0)
theorem kOf_pr {H : Hp} {x : V} {q : Pr} (h : isPr H x q) : kOf H x = q := by
  obtain ⟨t, rfl, ht⟩ := h
  unfold kOf
  simp only [ht]
theorem lks_k {H : Hp} : ∀ {xs : List V} {ps : List Pr}, Lks H xs ps → xs.map (kOf H) = ps ∧ ∀ x ∈ xs, isPr H x (kOf H x)
  | _, _, .nil => ⟨rfl, fun _ h => nomatch h⟩
  | _, _, .cons r t => by
    obtain ⟨h1, h2⟩ := lks_k t
    refine ⟨by rw [List.map_cons, kOf_pr r, h1], fun x hx => ?_⟩
    rcases List.mem_cons.mp hx with rfl | hx
    · rw [kOf_pr r]; exact r
    · exact h2 x hx
theorem lks_of {H : Hp} : ∀ {ys : List V}, (∀ x ∈ ys, isPr H x (kOf H x)) → Lks H ys (ys.map (kOf H))
  | [], _ => .nil
  | y :: ys, h => .cons (h y List.mem_cons_self) (lks_of fun x hx => h x (List.mem_cons_of_mem _ hx))
/-- sorted(links) -/
theorem n_sortP {K : PySem.W.Frag} {G H : Hp} {L : List (Addr × HO)} {a : Addr} {xs : List V} {ps : List Pr} {Q : VK} {G0 : Hp} (S : Own G L H) (hx : SqL K H a xs) (e0 : Ex G0 H) (hl : Lks G0 xs ps)
    (k : ∀ p ys G1 H1, H p = none → Ex G G1 → Ex H H1 → G1 p = some (.lst ys) → Lks G0 ys (sortP ps) → Own G1 L H1 → Q (.ref p) H1) : rSortedPO K [.ref a] H Q := by
  obtain ⟨h1, h2⟩ := lks_k hl
  refine ⟨a, xs, kOf G0, rfl, hx, fun x m => ?_, fun ys p hs hb hp => ?_⟩
  · obtain ⟨t, e, ht⟩ := h2 x m
    exact ⟨t, e, e0 _ _ ht⟩
  · have hy : Lks G0 ys (ys.map (kOf G0)) := lks_of fun x m => h2 x (hb.perm.mem_iff.mp m)
    have e : ys.map (kOf G0) = sortP ps := by
      refine sortP_eq ?_ ?_
      · refine List.pairwise_map.mpr (hs.imp fun {x y} (c : ltP (kOf G0) y x = false) => ?_)
        have z := SrtO.lexB_no.mp c
        rw [leP_iff]
        omega
      · rw [← h1]
        exact hb.perm.map _
    rw [e] at hy
    exact k p ys _ _ hp (S.still hp).2.1 (Ex.new hp) (S.still hp).2.2 hy (S.still hp).1
/-! ### a network in the heap -/
def NF (kp np : Addr) : List (Str × V) := putF "near" (.ref np) (putF "kept" (.ref kp) [])
theorem nf_near (kp np : Addr) : (NF kp np).lookup ("near" : Str) = some (.ref np) := by unfold NF; rw [lookup_putF, if_pos rfl]
theorem nf_kept (kp np : Addr) : (NF kp np).lookup ("kept" : Str) = some (.ref kp) := by
  unfold NF
  rw [lookup_putF, if_neg (by decide +kernel), lookup_putF, if_pos rfl]
theorem nf_no (kp np : Addr) {m : Str} (h1 : ¬ m = "near") (h2 : ¬ m = "kept") : (NF kp np).lookup m = none := by
  unfold NF
  rw [lookup_putF, if_neg h1, lookup_putF, if_neg h2]
  all_goals rfl
/-- what stands at a network's addresses -/
structure NetO (C : Addr) (H : Hp) (a : Addr) (dx kp np : Addr) (xs : List V) (nps : List Addr) (n : Nat) (ks : List Pr) : Prop where
  ins : H a = some (.ins C dx (NF kp np))
  kept : H kp = some (.lst xs)
  lks : Lks H xs ks
  near : H np = some (.lst (nps.map V.ref))
  len : nps.length = n
  each : ∀ (i : Nat) (p : Addr), nps[i]? = some p → H p = some (.lst ((nb ks (i : Int)).map V.int))
structure NetAt (C : Addr) (H : Hp) (a : Addr) (n : Nat) (ks : List Pr) : Prop where
  at_ : ∃ dx kp np xs nps, NetO C H a dx kp np xs nps n ks
  ok : Okl n ks
  up : Up ks
  nd : ks.Nodup
  sz : 1 ≤ n ∧ n ≤ 60
theorem NetO.mono {C : Addr} {G H : Hp} {a dx kp np : Addr} {xs : List V} {nps : List Addr} {n : Nat} {ks : List Pr} (h : NetO C G a dx kp np xs nps n ks) (e : Ex G H) : NetO C H a dx kp np xs nps n ks :=
  ⟨e _ _ h.ins, e _ _ h.kept, h.lks.mono e, e _ _ h.near, h.len, fun i p q => e _ _ (h.each i p q)⟩
theorem NetAt.mono {C : Addr} {G H : Hp} {a : Addr} {n : Nat} {ks : List Pr} (h : NetAt C G a n ks) (e : Ex G H) : NetAt C H a n ks :=
  ⟨let ⟨dx, kp, np, xs, nps, o⟩ := h.at_; ⟨dx, kp, np, xs, nps, o.mono e⟩, h.ok, h.up, h.nd, h.sz⟩
/-- what the text says of the class -/
structure NetC (K : PySem.W.Frag) (C : Addr) : Prop where
  cl : Cls K C
  nK : NoAttr K C "kept"
  nN : NoAttr K C "near"
  ha : PySem.W.findIn K (.ref C) "__class__" = some (some (.builtin "object.__class__"))
  hn : PySem.W.specialIn K (.builtin "object.__class__") "__get__" = some (some (.builtin "getset_descriptor.__get__"))
  ht : PySem.W.takesIn K (.builtin "object.__class__") = some true
  hm : PySem.W.mroIn K C (.type "object") = some true
  kit : PySem.W.kitOne K (.ref C) (.ref C) = some true
  ne : PySem.W.findIn K (.ref C) "__ne__" = some (some (.builtin "object.__ne__"))
end NX

namespace NX
open PySem PySem.Spec PyProof.Rows L2
open Evl (Ex ex_l ex_t fresh_back)
/-- a well of draws -/
def wl (a b c : Int) : HO := .lst [.int a, .int b, .int c]
theorem n_setLi {H : Hp} {W : Addr} {xs : List V} {i : Int} {j : Nat} {v : V} {Q : Hp → Prop} (h : H W = some (.lst xs)) (hi : ixN xs.length i = some j) (k : Q (upd H W (.lst (xs.set j v)))) : rSetL (.ref W) (.int i) v H Q := ⟨W, xs, i, j, rfl, rfl, h, hi, k⟩
theorem mod_rng {a m : Int} (h : 0 < m) : 0 ≤ a % m ∧ a % m < m := ⟨Int.emod_nonneg a (by omega), Int.emod_lt_of_pos a h⟩
theorem Own.weak {G G' H : Hp} {L : List (Addr × HO)} (e : Ex G G') (S : Own G' L H) : Own G L H := ⟨e.trans S.ex, fun p hp => ⟨fresh_back e (S.at_ p hp).1, (S.at_ p hp).2⟩, S.nd, S.nt⟩
/-- xs.pop(i) -/
theorem n_popAt {G H : Hp} {L : List (Addr × HO)} {p : Addr} {xs : List V} {i : Int} {Q : VK} (S : Own G ((p, .lst xs) :: L) H) (h0 : 0 ≤ i) (h1 : i < (xs.length : Int)) (hz : xs.length ≤ 1000000)
    (k : ∀ y H1, xs[i.toNat]? = some y → Own G ((p, .lst (xs.eraseIdx i.toNat)) :: L) H1 → Q y H1) : rPopAt (.ref p) [.int i] H Q := by
  have hl : i.toNat < xs.length := by omega
  have hy : xs[i.toNat]? = some xs[i.toNat] := List.getElem?_eq_getElem hl
  refine ⟨p, xs, i, i.toNat, _, rfl, rfl, S.get0, by omega, by omega, ?_, hy, k _ _ hy S.put0⟩
  unfold seqIndex?
  have h3 : ¬ i < 0 := by omega
  simp [h3, h1]
  try omega
/-- a list whose items are data: for == and != -/
def DataOk (K : PySem.W.Frag) (G : Hp) (xs : List V) : Prop := ∀ H, Ex G H → ∀ ys : List V, (∀ y ∈ ys, y ∈ xs) → ∃ ds, DpAll K H ys ds ∧ SeqAt.shaped (.list ds) = true ∧ ds.length = ys.length
theorem ints_of_sub {ns : List Int} : ∀ {ys : List V}, (∀ y ∈ ys, y ∈ ns.map V.int) → ∃ ms : List Int, ys = ms.map V.int
  | [], _ => ⟨[], rfl⟩
  | y :: ys, h => by
    obtain ⟨ms, rfl⟩ := ints_of_sub (ys := ys) fun y hy => h y (List.mem_cons_of_mem _ hy)
    obtain ⟨m, _, rfl⟩ := List.mem_map.mp (h y List.mem_cons_self)
    exact ⟨m :: ms, rfl⟩
theorem data_ints (K : PySem.W.Frag) (G : Hp) (ns : List Int) : DataOk K G (ns.map V.int) := fun H _ ys h => by
  obtain ⟨ms, rfl⟩ := ints_of_sub h
  exact ⟨_, dp_ints ms, shaped_ints ms, by simp⟩
theorem data_lks {K : PySem.W.Frag} {G : Hp} {xs : List V} {ps : List Pr} (h : Lks G xs ps) : DataOk K G xs := fun H e ys hy => by
  have z : Lks G ys (ys.map (kOf G)) := lks_of fun x hx => (lks_k h).2 x (hy x hx)
  exact ⟨_, dp_lks (z.mono e), shaped_lks _, by simp⟩
theorem eqv_nil (ds : List PyData) : PyData.eqv (.list ds) (.list []) = decide (ds = []) := by
  cases ds with
  | nil => simp [PyData.eqv, PyData.eqvAll]
  | cons d ds => simp [PyData.eqv, PyData.eqvAll]
theorem n_neNil {K : PySem.W.Frag} {G H : Hp} {p q : Addr} {xs ys : List V} {Q : VK} (d : DataOk K G xs) (e : Ex G H) (sub : ∀ y ∈ ys, y ∈ xs) (h1 : SqL K H p ys) (h2 : SqL K H q []) (k : Q (.bl (!decide (ys = []))) H) : rNeD K (.ref p) (.ref q) H Q := by
  obtain ⟨ds, h3, h4, h5⟩ := d H e ys sub
  refine ⟨_, _, .lst h1 h3, .lst h2 .nil, h4, shaped_ints [], ?_⟩
  rw [eqv_nil]
  have z : decide (ds = []) = decide (ys = []) := by
    rw [Bool.eq_iff_iff, decide_eq_true_eq, decide_eq_true_eq, ← List.length_eq_zero_iff, ← List.length_eq_zero_iff, h5]
  rw [z]
  exact k
theorem erase_perm {α : Type} : ∀ {l : List α} {i : Nat} (h : i < l.length), (l[i] :: l.eraseIdx i).Perm l
  | [], _, h => absurd h (Nat.not_lt_zero _)
  | a :: l, 0, _ => List.Perm.refl _
  | a :: l, i + 1, h => by
    have ih := erase_perm (l := l) (i := i) (by simpa using h)
    exact (List.Perm.swap a _ _).trans (ih.cons a)
theorem DataOk.mono {K : PySem.W.Frag} {G H : Hp} {xs : List V} (h : DataOk K G xs) (e : Ex G H) : DataOk K H xs := fun H' e' => h H' (e.trans e')
def spMixed (K : PySem.W.Frag) : Sp := fun vs H Q _ => ∃ (W p : Addr) (a b c : Int) (xs : List V), vs = [.ref W, .ref p] ∧ H W = some (wl a b c) ∧ SqL K (cut H [(W, wl a b c)]) p xs ∧ DataOk K (cut H [(W, wl a b c)]) xs ∧ xs.length ≤ 100000 ∧
  ∀ ys q H' a' b' c', ys.Perm xs → H q = none → Own (cut H [(W, wl a b c)]) [(W, wl a' b' c'), (q, .lst ys)] H' → Q (.ref q) H'
theorem n_mixed {K : PySem.W.Frag} {H G : Hp} {L : List (Addr × HO)} {W p : Addr} {a b c : Int} {xs : List V} {Q : VK} {E : XK} (S : Own G ((W, wl a b c) :: L) H) (hp : SqL K G p xs) (hd : DataOk K G xs) (hz : xs.length ≤ 100000)
    (k : ∀ ys q H1 a' b' c', ys.Perm xs → H q = none → Own G ((W, wl a' b' c') :: (q, .lst ys) :: L) H1 → Q (.ref q) H1) : spMixed K [.ref W, .ref p] H Q E :=
  ⟨W, p, a, b, c, xs, rfl, S.get0, ex_l S.keep hp, hd.mono S.keep, hz, fun ys q H' a' b' c' hy hq T => k ys q H' a' b' c' hy hq (S.back T)⟩
end NX

namespace NX
open PySem PySem.Spec PyProof.Rows L2
open Evl (Ex ex_l ex_t fresh_back)
/-- a draw below n: some number, the well in some other state -/
def spDraw : Sp := fun vs H Q _ => ∃ (W : Addr) (a b c n : Int), vs = [.ref W, .int n] ∧ H W = some (wl a b c) ∧ 0 < n ∧ n < 1073741824 ∧ ∀ r a' b' c', 0 ≤ r → r < n → Q (.int r) (upd H W (wl a' b' c'))
theorem n_draw {H G : Hp} {L : List (Addr × HO)} {W : Addr} {a b c n : Int} {Q : VK} {E : XK} (S : Own G ((W, wl a b c) :: L) H) (h : 0 < n ∧ n < 1073741824) (k : ∀ r a' b' c' H1, 0 ≤ r → r < n → Own G ((W, wl a' b' c') :: L) H1 → Q (.int r) H1) : spDraw [.ref W, .int n] H Q E :=
  ⟨W, a, b, c, n, rfl, S.get0, h.1, h.2, fun r a' b' c' h1 h2 => k r a' b' c' _ h1 h2 S.put0⟩
abbrev s__law_draw : Stmt := top 30
theorem sc__law_draw : FnScope ["_law_well", "_law_limit", "_law_found", "_law_number"] ["_law_well", "_law_limit"] (defScope s__law_draw) := ⟨rfl, rfl, rfl, by decide +kernel, rfl, by decide +kernel, by decide +kernel⟩
section
variable {P : Program} {w : World} {K : PySem.W.Frag} {mg : Str → Option Value} {base : Heap}
theorem ok_draw {f : Addr} {fd : FuncData} (F : Fun K "_law_draw" "_law_draw" s__law_draw f fd) : FnOk P w K mg base CX0 1 f fd ["_law_well", "_law_limit"] spDraw := by
  refine F.ok sc__law_draw (fun vs H Q E h => ?_) (fun cdv A outer s H vs Q E hr h => ?_)
  · obtain ⟨W, a, b, c, n, rfl, _⟩ := h
    rfl
  · obtain ⟨W, a, b, c, n, rfl, hW, h1, h2, k⟩ := h
    refine ⟨_, (pss_cons (ps_if (pt_cmpR op_gt (pe_ix ix_list (pv 0) pe_int (fun _ _ => rfl)) pe_int (nomark _)) (pss_cons (ps_set (i := 2) sc__law_draw.nd rfl (Or.inl rfl) (pe_op op_mod (pe_ix ix_list (pv 0) pe_int (fun _ _ => rfl)) (pv 1)))
      (pss_cons (ps_asg (pe_op op_fdiv (pe_ix ix_list (pv 0) pe_int (fun _ _ => rfl)) (pv 1)) (pg_sub (pv 0) pe_int set_list))
      (pss_one (ps_ret (pv 2))))) pss_nil)
      (pss_cons (ps_asg (pe_op op_add (pe_ix ix_list (pv 0) pe_int (fun _ _ => rfl)) pe_int) (pg_sub (pv 0) pe_int set_list))
      (pss_cons (ps_set (i := 3) sc__law_draw.nd rfl (Or.inl rfl) (pe_op op_mod (pe_op op_mul (pe_op op_add (pe_op op_add (pe_ix ix_list (pv 0) pe_int (fun _ _ => rfl)) (pe_op op_mul pe_int (pe_ix ix_list (pv 0) pe_int (fun _ _ => rfl)))) pe_int) pe_int) pe_int))
      (pss_cons (ps_set (i := 3) sc__law_draw.nd rfl (Or.inl rfl) (pe_op op_mod (pe_op op_mul (pv 3) (pe_op op_add (pe_op op_fdiv (pv 3) pe_int) pe_int)) pe_int))
      (pss_one (ps_ret (pe_op op_mod (pe_op op_mod (pe_op op_mul (pv 3) (pe_op op_add (pe_op op_fdiv (pv 3) pe_int) pe_int)) pe_int) (pv 1)))))))), ?_⟩
    have hS : SqL K H W [.int a, .int b, .int c] := SqL.of hW
    walk_at "go"
    refine g_ixL (i := 0) hS rfl ?_
    walk_at "go"
    refine if_2 (fun e => ?_) (fun e => ?_)
    · walk_at "go"
      refine g_ixL (i := 0) hS rfl ?_
      walk_at "go"
      refine g_I h1 ?_
      walk_at "go"
      refine g_ixL (i := 0) hS rfl ?_
      walk_at "go"
      refine g_I ⟨h1, h2⟩ ?_
      walk_at "go"
      refine n_setLi (i := 0) hW rfl ?_
      walk_at "go"
      exact k _ _ _ _ (mod_rng h1).1 (mod_rng h1).2
    · walk_at "go"
      refine g_ixL (i := 2) hS rfl ?_
      walk_at "go"
      refine n_setLi (i := 2) hW rfl ?_
      have hS2 : SqL K (upd H W (.lst [.int a, .int b, .int (c + 1)])) W [.int a, .int b, .int (c + 1)] := SqL.of upd_same
      walk_at "go"
      refine g_ixL (i := 1) hS2 rfl ?_
      walk_at "go"
      refine g_ixL (i := 2) hS2 rfl ?_
      walk_at "go"
      refine g_I (.inl ⟨by decide, by decide⟩) ?_
      walk_at "go"
      refine g_I (.inr ⟨by decide, by decide⟩) ?_
      walk_at "go"
      refine g_I (by decide) ?_
      walk_at "go"
      have z1 := mod_rng (a := (b + 104729 * (c + 1) + 1) * 48271) (m := 2147483647) (by decide)
      generalize (b + 104729 * (c + 1) + 1) * 48271 % 2147483647 = x at z1 ⊢
      refine g_I ⟨by decide, by decide⟩ ?_
      walk_at "go"
      refine g_I (.inl ⟨by omega, by omega⟩) ?_
      walk_at "go"
      refine g_I (by decide) ?_
      walk_at "go"
      have z2 := mod_rng (a := x * (x / 1009 + 69621)) (m := 2147483647) (by decide)
      generalize x * (x / 1009 + 69621) % 2147483647 = y at z2 ⊢
      refine g_I ⟨by decide, by decide⟩ ?_
      walk_at "go"
      refine g_I (.inl ⟨by omega, by omega⟩) ?_
      walk_at "go"
      refine g_I (by decide) ?_
      walk_at "go"
      refine g_I h1 ?_
      exact k _ _ _ _ (mod_rng h1).1 (mod_rng h1).2
end
end NX

namespace NX
open PySem PySem.Spec PyProof.Rows L2
open Evl (Ex ex_l ex_t fresh_back)
abbrev s__law_shuffled : Stmt := top 31
theorem sc__law_shuffled : FnScope ["_law_well", "_law_items", "_law_left", "_law_found"] ["_law_well", "_law_items"] (defScope s__law_shuffled) := ⟨rfl, rfl, rfl, by decide +kernel, rfl, by decide +kernel, by decide +kernel⟩
section
variable {P : Program} {w : World} {K : PySem.W.Frag} {mg : Str → Option Value} {base : Heap}
theorem ok_shuffled {f : Addr} {fd : FuncData} (F : Fun K "_law_shuffled" "_law_shuffled" s__law_shuffled f fd) (T : Txt mg) (c__law_draw : Cal P w K mg base 1 "_law_draw" ["_law_well", "_law_limit"] [] spDraw) : FnOk P w K mg base CX0 2 f fd ["_law_well", "_law_items"] (spMixed K) := by
  refine F.ok sc__law_shuffled (fun vs H Q E h => ?_) (fun cdv A outer s H vs Q E hr h => ?_)
  · obtain ⟨W, p, a, b, c, xs, rfl, _⟩ := h
    rfl
  · obtain ⟨W, p, a, b, c, xs, rfl, hW, hp, hd, hz, k⟩ := h
    have hu65 : ∀ X : Cx, X.A = A.deeper (envOfC "_law_shuffled" (defScope s__law_shuffled) s.heap.objs.size f cdv) → X.A.units + 65 < cLine := fun X e => by rw [e]; have := hr.un; omega
    have S0 := Own.give (o := wl a b c) hW
    have hG : ∀ x u, x ≠ W → H x = some u → cut H [(W, wl a b c)] x = some u := fun x u ne e => by rw [cut_out (by simpa using ne)]; exact e
    generalize cut H [(W, wl a b c)] = G at hp hd S0 k hG
    refine ⟨_, (pss_cons (ps_set (i := 2) sc__law_shuffled.nd rfl (Or.inl rfl) (pe_callTy call_listN (by rfl) T.n_list (by decide +kernel) (pa_cons (pv 1) pa_nil)))
      (pss_cons (ps_set (i := 3) sc__law_shuffled.nd rfl (Or.inl rfl) (pe_lst pa_nil))
      (pss_cons (ps_while PassesOwn.never (pt_cmpR (op_neD (Nat.lt_of_succ_lt (hu65 _ rfl))) (pv 2) (pe_lst pa_nil) (nomark _)) (pss_one (ps_expr (pe_bm PySem.F.plainAttrs_list PySem.F.slot_list_append PySem.F.type_list_append mt_append (pv 3) (pa_cons (pe_bm PySem.F.plainAttrs_list PySem.F.slot_list_pop PySem.F.type_list_pop mt_popAt (pv 2) (pa_cons (pe_cal c__law_draw (hr.mono (by first | decide | omega)) passN (pa_cons (pv 0) (pa_cons (pe_callB call_lenN (by rfl) T.n_len (by decide +kernel) (pa_cons (pv 2) pa_nil)) pa_nil))) pa_nil)) pa_nil)))))
      (pss_one (ps_ret (pv 3)))))), ?_⟩
    walk_at "go"
    refine n_list S0 (S0.sl hp) fun l H1 hl S1 => ?_
    walk_at "go"
    refine n_lst S1 (by decide) fun q H2 hq S2 => ?_
    walk_at "go"
    have hq0 : H q = none := by
      cases hh : H q with
      | none => rfl
      | some u =>
        by_cases e : q = W
        · rw [e, S1.get1] at hq; cases hq
        · have z := S1.ex _ _ (hG q u e hh)
          rw [hq] at z
          exact z.symm
    refine s_while (fun m σ' H' => ∃ (fs ls : List V) (a' b' c' : Int), σ' = [some (.ref W), some (.ref p), some (.ref l), some (.ref q)] ∧ m = ls.length ∧ (fs ++ ls).Perm xs ∧ Own G [(q, .lst fs), (l, .lst ls), (W, wl a' b' c')] H') _ ⟨[], xs, a, b, c, rfl, rfl, List.Perm.refl _, S2⟩ ?_
    rintro m σ' H' ⟨fs, ls, a', b', c', rfl, rfl, hperm, S⟩
    have hlen : fs.length + ls.length = xs.length := by rw [← List.length_append]; exact hperm.length_eq
    have hsub : ∀ y ∈ ls, y ∈ xs := fun y hy => hperm.mem_iff.mp (List.mem_append_right _ hy)
    walk_at "go"
    refine n_lst S (by decide) fun r H3 hr3 S3 => ?_
    walk_at "go"
    refine n_neNil hd S3.ex hsub (SqL.of S3.get2) S3.l0 ?_
    walk_at "go"
    have S4 := S3.forget
    refine if_2 (fun e => ?_) (fun e => ?_)
    · have hne : ls ≠ [] := fun z => by rw [dtrue z] at e; cases e
      have hpos : 0 < ls.length := List.length_pos_iff.mpr hne
      refine s_turn ?_
      walk_at "go"
      refine ⟨tyL S4.l0, ?_⟩
      walk_at "go"
      refine ⟨tyL S4.l1, ?_⟩
      walk_at "go"
      refine n_len S4.l1 ?_
      walk_at "go"
      refine n_draw S4.rot ⟨by omega, by omega⟩ fun i a2 b2 c2 H5 h0 h1 S5 => ?_
      walk_at "go"
      refine n_popAt S5.unrot.swap h0 h1 (by omega) fun y H6 hy S6 => ?_
      walk_at "go"
      refine n_app S6.swap (by omega) fun H7 S7 => ?_
      refine ⟨(ls.eraseIdx i.toNat).length, ?_, fs ++ [y], ls.eraseIdx i.toNat, a2, b2, c2, rfl, rfl, ?_, S7⟩
      · rw [List.length_eraseIdx_of_lt (by omega)]
        omega
      · obtain ⟨hi, ey⟩ := List.getElem?_eq_some_iff.mp hy
        have pe := erase_perm (l := ls) hi
        rw [ey] at pe
        rw [List.append_assoc]
        exact (pe.append_left fs).trans hperm
    · have hnil : ls = [] := Classical.byContradiction fun z => by rw [dfalse z] at e; cases e
      subst hnil
      walk_at "go"
      rw [List.append_nil] at hperm
      exact k fs q _ a' b' c' hperm hq0 ((S4.swap.forget).swap)
end
end NX

namespace NX
open PySem PySem.Spec PyProof.Rows L2
open Evl (Ex ex_l ex_t fresh_back)
theorem IsT.tup {K : PySem.W.Frag} {H : Hp} {t : Addr} {xs : List V} (h : H t = some (.tup xs)) : IsT K H (.ref t) "tuple" := ⟨.base (.tup h), by decide +kernel⟩
theorem IsT.lst {K : PySem.W.Frag} {H : Hp} {t : Addr} {xs : List V} (h : H t = some (.lst xs)) : IsT K H (.ref t) "list" := ⟨.base (.lst h), by decide +kernel⟩
theorem n_isiTup {K : PySem.W.Frag} {H : Hp} {t : Addr} {xs : List V} {Q : VK} (h : H t = some (.tup xs)) (k : Q (.bl true) H) : rIsi K [.ref t, .ty "tuple"] H Q := ⟨_, _, _, _, _, rfl, .ty _, .base (.tup h), kit_ty (by decide +kernel), k⟩
theorem n_isiLst {K : PySem.W.Frag} {H : Hp} {t : Addr} {xs : List V} {Q : VK} (h : H t = some (.lst xs)) (k : Q (.bl true) H) : rIsi K [.ref t, .ty "list"] H Q := ⟨_, _, _, _, _, rfl, .ty _, .base (.lst h), kit_ty (by decide +kernel), k⟩
abbrev s_is_link : Stmt := top 9
theorem sc_is_link : FnScope ["value", "stations", "part"] ["value", "stations"] (defScope s_is_link) := ⟨rfl, rfl, rfl, by decide +kernel, rfl, by decide +kernel, by decide +kernel⟩
def spIsLink : Sp := fun vs H Q _ => ∃ (t : Addr) (a b n : Int), vs = [.ref t, .int n] ∧ H t = some (.tup [.int a, .int b]) ∧ (0 ≤ a ∧ a < b ∧ b < n) ∧ ∀ H', Ex H H' → Q (.bl true) H'
section
variable {P : Program} {w : World} {K : PySem.W.Frag} {mg : Str → Option Value} {base : Heap}
theorem ok_is_link {f : Addr} {fd : FuncData} (F : Fun K "is_link" "is_link" s_is_link f fd) (T : Txt mg) (c_is_int : Cal P w K mg base 1 "is_int" ["value"] [] (spIsInt K)) : FnOk P w K mg base CX0 2 f fd ["value", "stations"] spIsLink := by
  refine F.ok sc_is_link (fun vs H Q E h => ?_) (fun cdv A outer s H vs Q E hr h => ?_)
  · obtain ⟨t, a, b, n, rfl, _⟩ := h
    rfl
  · obtain ⟨t, a, b, n, rfl, ht, hb, k⟩ := h
    refine ⟨_, (pss_cons (ps_if (PW.pt (pw_or (pt_not (pt_val (pe_callB call_isi (by rfl) T.n_isinstance (by decide +kernel) (pa_cons (pv 0) (pa_cons (pe_bltn (v := .ty "tuple") (by rfl) T.n_tuple (by decide +kernel) rfl) pa_nil))))) (pw_or (pt_cmpR op_ne (pe_callB call_lenN (by rfl) T.n_len (by decide +kernel) (pa_cons (pv 0) pa_nil)) pe_int (nomark _)) (pw_or1 (pt_not (pt_val (pe_callB (cr_all rfl) (by rfl) T.n_all (by decide +kernel) (pa_cons (pe_lc (own := [("part", 2)]) (by rfl) sc_is_link.nd (pi_tup (pv 0)) (blkOk_by (own := [("part", 2)]) (N := ["value", "stations", "part"]) (sc := defScope s_is_link) (by decide +kernel)) (fun _ _ _ _ _ => (pg_name (i := 2) sc_is_link.nd rfl (Or.inl rfl))) (fun _ _ _ _ _ => pts_nil) (fun _ _ _ _ _ => (pe_cal c_is_int (hr.mono (by first | decide | omega)) passN (pa_cons (pv 2) pa_nil)))) pa_nil)))))))) (pss_one (ps_ret pe_bl)) pss_nil)
      (pss_one (ps_ret (pe_chain3 op_le op_lt op_lt pe_int (pe_ix ix_tup (pv 0) pe_int (fun _ _ => rfl)) (pe_ix ix_tup (pv 0) pe_int (fun _ _ => rfl)) (pv 1))))), ?_⟩
    walk_at "go"
    refine n_isiTup ht ?_
    walk_at "go"
    refine n_lenT (SqT.of ht) ?_
    walk_at "go"
    refine if_ff (by rfl) ?_
    walk_at "go"
    refine v_tup (xs := [.int a, .int b]) (fun i acc G' L' => G' = H ∧ L' = [] ∧ acc = List.replicate i (.bl true)) (Own.start H) (SqT.of ht) (by show 2 ≤ 1000000; decide) ⟨rfl, rfl, rfl⟩ ?_ ?_
    · rintro D i x acc G1 L1 H1 hx hi e hl ⟨rfl, rfl, rfl⟩ S
      obtain ⟨z, rfl⟩ : ∃ z : Int, x = .int z := by
        match i, hx with
        | 0, hx => exact ⟨a, (Option.some.inj hx).symm⟩
        | 1, hx => exact ⟨b, (Option.some.inj hx).symm⟩
        | i + 2, hx => simp at hx
      walk_at "go"
      refine ⟨rfl, ?_⟩
      walk_at "go"
      refine g_isint ?_
      exact c_yes S e hl hi ⟨rfl, rfl, List.replicate_succ'.symm⟩
    · rintro p acc G1 L1 H1 e hl ⟨rfl, rfl, rfl⟩ S
      walk_at "go"
      refine ⟨p, [true, true], rfl, S.l0, ?_⟩
      walk_at "go"
      refine if_ff (by rfl) ?_
      walk_at "go"
      refine g_ixT (i := 0) (S.st (SqT.of ht)) rfl ?_
      walk_at "go"
      refine if_tt (dtrue hb.1) ?_
      walk_at "go"
      refine g_ixT (i := 1) (S.st (SqT.of ht)) rfl ?_
      walk_at "go"
      refine if_tt (dtrue hb.2.1) ?_
      walk_at "go"
      rw [dtrue hb.2.2]
      exact k _ S.ex
end
end NX

namespace NX
open PySem PySem.Spec PyProof.Rows L2
open Evl (Ex ex_l ex_t fresh_back)
/-! ### lists of lists: near -/
def nearL (nps : List Addr) (g : Nat → List Int) : List (Addr × HO) := nps.zipIdx.map fun x => (x.1, .lst ((g x.2).map V.int))
theorem nearL_get {nps : List Addr} {g : Nat → List Int} {i : Nat} {p : Addr} (h : nps[i]? = some p) : (nearL nps g)[i]? = some (p, .lst ((g i).map V.int)) := by
  unfold nearL
  rw [List.getElem?_map, List.getElem?_zipIdx, h]
  simp
theorem nearL_none {nps : List Addr} {g : Nat → List Int} {i : Nat} (h : nps[i]? = none) : (nearL nps g)[i]? = none := by
  unfold nearL
  rw [List.getElem?_map, List.getElem?_zipIdx, h]
  simp
theorem nearL_set {nps : List Addr} {g g' : Nat → List Int} {i : Nat} {p : Addr} (h : nps[i]? = some p) (hg : ∀ j, j ≠ i → g' j = g j) : (nearL nps g).set i (p, .lst ((g' i).map V.int)) = nearL nps g' := by
  refine List.ext_getElem? fun j => ?_
  by_cases c : i = j
  · subst c
    have hl : i < (nearL nps g).length := (List.getElem?_eq_some_iff.mp (nearL_get h)).1
    rw [List.getElem?_set_self hl, nearL_get h]
  · rw [List.getElem?_set_ne c]
    cases q : nps[j]? with
    | none => rw [nearL_none q, nearL_none q]
    | some r => rw [nearL_get q, nearL_get q, hg j (Ne.symm c)]
theorem nearL_snoc (nps : List Addr) (p : Addr) (g : Nat → List Int) : nearL (nps ++ [p]) g = nearL nps g ++ [(p, .lst ((g nps.length).map V.int))] := by
  unfold nearL
  rw [List.zipIdx_append, List.map_append]
  simp
theorem nearL_len (nps : List Addr) (g : Nat → List Int) : (nearL nps g).length = nps.length := by unfold nearL; simp
theorem nb_one_n {n : Nat} {q : Pr} {a b : Nat} (ha : q.1 = (a : Int)) (hb : q.2 = (b : Int)) (hne : a ≠ b) (ks : List Pr) (j : Nat) :
    nb (ks ++ [q]) (j : Int) = if j = a then nb ks (j : Int) ++ [(b : Int)] else if j = b then nb ks (j : Int) ++ [(a : Int)] else nb ks (j : Int) := by
  rw [nb_app, nb_one, ha, hb]
  by_cases h1 : j = a
  · subst h1; simp
  · have h1' : ¬ (a : Int) = (j : Int) := by omega
    rw [if_neg h1', if_neg h1]
    by_cases h2 : j = b
    · subst h2; simp
    · have h2' : ¬ (b : Int) = (j : Int) := by omega
      rw [if_neg h2', if_neg h2, List.append_nil]
theorem pr_take {α β : Type} {F : α → β → Prop} : ∀ {xs : List α} {ys : List β}, Paired F xs ys → ∀ i, Paired F (xs.take i) (ys.take i)
  | _, _, _, 0 => .nil
  | _, _, .nil, i + 1 => .nil
  | _, _, .cons r t, i + 1 => .cons r (pr_take t i)
theorem nodup_take {α : Type} {l : List α} (h : l.Nodup) {i : Nat} {q : α} (e : l[i]? = some q) : q ∉ l.take i := fun m => by
  obtain ⟨j, hj, e2⟩ := List.mem_iff_getElem.mp m
  have hj' : j < i ∧ j < l.length := by rw [List.length_take] at hj; omega
  have e3 : l[j]? = some q := by rw [← e2, List.getElem_take, List.getElem?_eq_getElem hj'.2]
  obtain ⟨h1, q1⟩ := List.getElem?_eq_some_iff.mp e
  obtain ⟨h2, q2⟩ := List.getElem?_eq_some_iff.mp e3
  have z := (List.getElem_inj h).mp (q1.trans q2.symm)
  omega
theorem perm_mid {α : Type} (a b c : α) (l : List α) : (b :: c :: (l ++ [a])).Perm (a :: b :: c :: l) :=
  ((List.perm_append_singleton a (b :: c :: l)))
abbrev s_Network___init__ : Stmt := inClass (top 10) 0
theorem sc_Network___init__ : FnScope ["self", "stations", "links", "index", "link", "one", "other", "station"] ["self", "stations", "links"] (defScope s_Network___init__) := ⟨rfl, rfl, rfl, by decide +kernel, rfl, by decide +kernel, by decide +kernel⟩
def spInit (C : Addr) : Sp := fun vs H Q _ => ∃ (x lp dx : Addr) (n : Nat) (xs : List V) (ps : List Pr) (G : Hp), vs = [.ref x, .int (n : Int), .ref lp] ∧ Own G [(x, .ins C dx [])] H ∧ G lp = some (.lst xs) ∧ Lks G xs ps ∧
  Okl n ps ∧ ps.Nodup ∧ 1 ≤ n ∧ n ≤ 60 ∧ ps.length ≤ 10000 ∧ ∀ H', Ex G H' → NetAt C (nw G H') x n (sortP ps) → Q .non H'
section
variable {P : Program} {w : World} {K : PySem.W.Frag} {mg : Str → Option Value} {base : Heap}
theorem ok_init {f C : Addr} {fd : FuncData} (F : Fun K "__init__" "Network.__init__" s_Network___init__ f fd) (T : Txt mg) (N : NetC K C) (c_is_int : Cal P w K mg base 1 "is_int" ["value"] [] (spIsInt K))
    (c_is_link : Cal P w K mg base 2 "is_link" ["value", "stations"] [] spIsLink) : FnOk P w K mg base CX0 3 f fd ["self", "stations", "links"] (spInit C) := by
  refine F.ok sc_Network___init__ (fun vs H Q E h => ?_) (fun cdv A outer s H vs Q E hr h => ?_)
  · obtain ⟨x, lp, dx, n, xs, ps, G, rfl, _⟩ := h
    rfl
  · obtain ⟨x, lp, dx, n, xs, ps, G, rfl, S0, hlp, hl, hok, hnd, h1, h60, hz, k⟩ := h
    have hu65 : ∀ X : Cx, X.A = A.deeper (envOfC "Network.__init__" (defScope s_Network___init__) s.heap.objs.size f cdv) → X.A.units + 65 < cLine := fun X e => by rw [e]; have := hr.un; omega
    refine ⟨_, (pss_cons (ps_if (PW.pt (pw_or (pt_not (pt_val (pe_cal c_is_int (hr.mono (by first | decide | omega)) passN (pa_cons (pv 1) pa_nil)))) (pw_or (pt_not (pt_chain op_le op_le pe_int (pv 1) (pe_cst (by rfl) T.m_MAX_STATIONS))) (pw_or1 (pt_not (pt_val (pe_callB call_isi (by rfl) T.n_isinstance (by decide +kernel) (pa_cons (pv 2) (pa_cons (pe_bltn (v := .ty "list") (by rfl) T.n_list (by decide +kernel) rfl) pa_nil))))))))) (pss_one ps_never) pss_nil)
      (pss_cons (ps_for PassesOwn.never rfl (pi_enum (by rfl) T.n_enumerate (pa_cons (pv 2) pa_nil)) (pg_tup (n := 2) rfl (pgs_cons (pg_name (i := 3) sc_Network___init__.nd rfl (Or.inl rfl)) (pgs_cons (pg_name (i := 4) sc_Network___init__.nd rfl (Or.inl rfl)) pgs_nil))) (pss_one (ps_if (PW.pt (pw_or (pt_not (pt_val (pe_cal c_is_link (hr.mono (by first | decide | omega)) passN (pa_cons (pv 4) (pa_cons (pv 1) pa_nil))))) (pw_or1 (pt_cmpR (op_inD (hu65 _ rfl)) (pv 4) (pe_slice sl_list (pv 2) po_none (po_some (pv 3))) rfl)))) (pss_one ps_never) pss_nil)))
      (pss_cons (ps_fld (pv 0) (pe_callB cr_sortedPO (by rfl) T.n_sorted (by decide +kernel) (pa_cons (pv 2) pa_nil)) rfl)
      (pss_cons (ps_fld (pv 0) (pe_lc (own := [("station", 7)]) (by rfl) sc_Network___init__.nd (pi_range1 (by rfl) T.n_range (pa_cons (pv 1) pa_nil)) (blkOk_by (own := [("station", 7)]) (N := ["self", "stations", "links", "index", "link", "one", "other", "station"]) (sc := defScope s_Network___init__) (by decide +kernel)) (fun _ _ _ _ _ => (pg_name (i := 7) sc_Network___init__.nd rfl (Or.inl rfl))) (fun _ _ _ _ _ => pts_nil) (fun _ _ _ _ _ => (pe_lst pa_nil))) rfl)
      (pss_one (ps_for PassesOwn.never rfl (pi_list (pe_fld (pv 0) rfl)) (pg_tup (n := 2) rfl (pgs_cons (pg_name (i := 5) sc_Network___init__.nd rfl (Or.inl rfl)) (pgs_cons (pg_name (i := 6) sc_Network___init__.nd rfl (Or.inl rfl)) pgs_nil))) (pss_cons (ps_expr (pe_bm PySem.F.plainAttrs_list PySem.F.slot_list_append PySem.F.type_list_append mt_append (pe_ix ix_list (pe_fld (pv 0) rfl) (pv 5) (fun _ _ => rfl)) (pa_cons (pv 6) pa_nil)))
      (pss_one (ps_expr (pe_bm PySem.F.plainAttrs_list PySem.F.slot_list_append PySem.F.type_list_append mt_append (pe_ix ix_list (pe_fld (pv 0) rfl) (pv 6) (fun _ _ => rfl)) (pa_cons (pv 5) pa_nil))))))))))), ?_⟩
    walk_at "go"
    refine g_isint ?_
    walk_at "go"
    refine if_tt (dtrue (by omega)) ?_
    walk_at "go"
    refine if_ff (ntrue (by omega)) ?_
    walk_at "go"
    refine n_isiLst (S0.ex _ _ hlp) ?_
    walk_at "go"
    refine w_enum (fun i σ' H' => (∃ x1 x2 x3 x4 x5, σ' = [some (.ref x), some (.int (n : Int)), some (.ref lp), x1, x2, x3, x4, x5]) ∧ ∃ G', Ex G G' ∧ Own G' [(x, .ins C dx [])] H') (SqL.of (S0.ex _ _ hlp)) ⟨⟨_, _, _, _, _, rfl⟩, G, Ex.refl G, S0⟩ (fun i σ' H' ⟨_, G', e, S⟩ => SqL.of (S.ex _ _ (e _ _ hlp))) ?_ ?_
    · rintro i y T σ' H' hy ⟨⟨x1, x2, x3, x4, x5, rfl⟩, G', e, S⟩ hT
      obtain ⟨q, hq, t, rfl, ht⟩ := pr_get hl hy
      have hb := hok q (List.mem_of_getElem? hq)
      have S1 := (S.still (o := .tup [.int (i : Int), .ref t]) hT).1
      have e1 := e.trans (S.still (o := .tup [.int (i : Int), .ref t]) hT).2.1
      refine s_gtup (SqT.of upd_same) rfl ?_
      walk_at "go"
      refine ⟨t, q.1, q.2, n, rfl, S1.ex _ _ (e1 _ _ ht), hb, fun H2 e2 => ?_⟩
      have S2 := S1.grow e2
      walk_at "go"
      refine n_sl S2 (SqL.of (S2.ex _ _ (e1 _ _ hlp))) fun p G3 H3 _ e3 _ hp S3 => ?_
      have e13 := e1.trans e3
      rw [cutV_to] at hp
      have hlt : Lks G (xs.take i) (ps.take i) := by
        have z := hl
        exact pr_take z i
      refine ⟨pd q, (ps.take i).map pd, dp_pr ⟨t, rfl, S3.ex _ _ (e13 _ _ ht)⟩, .lst (SqL.of (S3.ex _ _ hp)) (dp_lks (hlt.mono (e13.trans S3.ex))), shaped_pd q, shaped_lks _, ?_⟩
      rw [any_pd, dfalse (nodup_take hnd hq)]
      walk_at "go"
      exact ⟨⟨_, _, _, _, _, rfl⟩, G3, e13, S3⟩
    · rintro σ' H' ⟨⟨x1, x2, x3, x4, x5, rfl⟩, G1, e1, S1⟩
      walk_at "go"
      refine n_sortP S1 (SqL.of (S1.ex _ _ (e1 _ _ hlp))) (e1.trans S1.ex) hl fun kp ys G2 H2 hkp e2 e2' hk2 hl2 S2 => ?_
      walk_at "go"
      refine n_setF S2 N.cl N.nK (by decide) fun H3 S3 => ?_
      walk_at "go"
      refine v_rng1 (j := (n : Int)) (fun i acc G' L' => G' = G2 ∧ ∃ nps : List Addr, nps.length = i ∧ acc = nps.map V.ref ∧ L' = (x, .ins C dx (putF "kept" (.ref kp) [])) :: nearL nps fun _ => []) S3 (by omega) ⟨rfl, [], rfl, rfl, rfl⟩ ?_ ?_
      · rintro D i acc G' L' H4 hi hi' e4 hl4 ⟨rfl, nps, rfl, rfl, rfl⟩ S4
        walk_at "go"
        refine ⟨rfl, ?_⟩
        walk_at "go"
        refine n_lst S4 (by decide) fun p H5 hp S5 => ?_
        refine c_yes (acc := nps.map V.ref) (L1 := (x, .ins C dx (putF "kept" (.ref kp) [])) :: nearL (nps ++ [p]) fun _ => []) (S5.perm ?_) e4 (by rw [List.length_map]; exact Nat.le_refl _) hi' ⟨rfl, nps ++ [p], by rw [List.length_append]; rfl, by rw [List.map_append] <;> rfl, rfl⟩
        rw [nearL_snoc]
        exact (perm_mid _ _ _ _)
      · rintro np acc G' L' H4 e4 _ ⟨rfl, nps, hlen, rfl, rfl⟩ S4
        have hlen : nps.length = n := by omega
        walk_at "go"
        refine n_setF S4.swap N.cl N.nN (by show 1 < 1000; decide) fun H5 S5 => ?_
        obtain ⟨S6, e6, hnp⟩ := S5.swap.freeze
        have hnG : Ex G (upd G' np (.lst (nps.map V.ref))) := (e1.trans e2).trans e6
        generalize upd G' np (.lst (nps.map V.ref)) = G6 at S6 e6 hnp hnG
        have hkp6 := e6 _ _ hk2
        walk_at "go"
        refine n_fld S6.get0 N.cl N.nK (nf_kept kp np) ?_
        refine w_list (xs := ys) (fun i σ' H' => (∃ x1 x2 x3 x4 x5, σ' = [some (.ref x), some (.int (n : Int)), some (.ref lp), x1, x2, x3, x4, x5]) ∧ Own G6 ((x, .ins C dx (NF kp np)) :: nearL nps fun j => nb ((sortP ps).take i) (j : Int)) H') (SqL.of (S6.ex _ _ hkp6)) ⟨⟨_, _, _, _, _, rfl⟩, S6⟩ (fun i σ' H' h => SqL.of (h.2.ex _ _ hkp6)) ?_ ?_
        · rintro i y σ' H' hy ⟨⟨x1, x2, x3, x4, x5, rfl⟩, S⟩
          obtain ⟨q, hq, t, rfl, ht⟩ := pr_get hl2 hy
          have hb := (hok.sort) q (List.mem_of_getElem? hq)
          have ht6 : G6 t = some (.tup [.int q.1, .int q.2]) := hnG _ _ ht
          obtain ⟨a, ha⟩ : ∃ a : Nat, q.1 = (a : Int) := ⟨q.1.toNat, by omega⟩
          obtain ⟨b, hbq⟩ : ∃ b : Nat, q.2 = (b : Int) := ⟨q.2.toNat, by omega⟩
          have hab : a ≠ b := by omega
          obtain ⟨pa, hpa⟩ : ∃ p, nps[a]? = some p := ⟨_, List.getElem?_eq_getElem (by omega)⟩
          obtain ⟨pb, hpb⟩ : ∃ p, nps[b]? = some p := ⟨_, List.getElem?_eq_getElem (by omega)⟩
          have hz2 : ∀ j : Nat, (nb ((sortP ps).take i) (j : Int)).length ≤ 10000 := fun j => Nat.le_trans (List.length_filterMap_le _ _) (by rw [List.length_take, sortP_len]; omega)
          refine s_gtup (S.st (SqT.of ht6)) rfl ?_
          walk_at "go"
          refine n_fld S.get0 N.cl N.nN (nf_near kp np) ?_
          walk_at "go"
          rw [ha]
          refine g_ixL (SqL.of (S.ex _ _ hnp)) (atI_nat (j := a) (v := .ref pa) (by rw [List.getElem?_map, hpa] <;> rfl)) ?_
          have ea : ((x, HO.ins C dx (NF kp np)) :: nearL nps fun j => nb ((sortP ps).take i) (j : Int))[a + 1]? = some (pa, .lst ((nb ((sortP ps).take i) (a : Int)).map V.int)) := nearL_get hpa
          refine ⟨tyL (SqL.of (S.getM (List.mem_of_getElem? ea))), ?_⟩
          walk_at "go"
          refine n_appM S ea (by rw [List.length_map]; have := hz2 a; omega) fun H7 S7 => ?_
          have eset : ((x, HO.ins C dx (NF kp np)) :: nearL nps fun j => nb ((sortP ps).take i) (j : Int)).set (a + 1) (pa, .lst ((nb ((sortP ps).take i) (a : Int)).map V.int ++ [.int q.2])) =
              (x, HO.ins C dx (NF kp np)) :: nearL nps fun j => if j = a then nb ((sortP ps).take i) (j : Int) ++ [q.2] else nb ((sortP ps).take i) (j : Int) := by
            show (x, HO.ins C dx (NF kp np)) :: (nearL nps fun j => nb ((sortP ps).take i) (j : Int)).set a _ = _
            have e := nearL_set (g := fun j => nb ((sortP ps).take i) (j : Int)) (g' := fun j => if j = a then nb ((sortP ps).take i) (j : Int) ++ [q.2] else nb ((sortP ps).take i) (j : Int)) hpa (fun j hj => if_neg hj)
            rw [← e]
            simp
          rw [eset] at S7
          walk_at "go"
          refine n_fld S7.get0 N.cl N.nN (nf_near kp np) ?_
          walk_at "go"
          rw [hbq]
          refine g_ixL (SqL.of (S7.ex _ _ hnp)) (atI_nat (j := b) (v := .ref pb) (by rw [List.getElem?_map, hpb] <;> rfl)) ?_
          have eb : ((x, HO.ins C dx (NF kp np)) :: nearL nps fun j => if j = a then nb ((sortP ps).take i) (j : Int) ++ [q.2] else nb ((sortP ps).take i) (j : Int))[b + 1]? = some (pb, .lst ((nb ((sortP ps).take i) (b : Int)).map V.int)) := by
            have z := nearL_get (g := fun j => if j = a then nb ((sortP ps).take i) (j : Int) ++ [q.2] else nb ((sortP ps).take i) (j : Int)) hpb
            rw [if_neg (Ne.symm hab)] at z
            exact z
          refine ⟨tyL (SqL.of (S7.getM (List.mem_of_getElem? eb))), ?_⟩
          walk_at "go"
          refine n_appM S7 eb (by rw [List.length_map]; have := hz2 b; omega) fun H8 S8 => ?_
          have etk : (sortP ps).take (i + 1) = (sortP ps).take i ++ [q] := take_snoc hq
          have eset2 : ((x, HO.ins C dx (NF kp np)) :: nearL nps fun j => if j = a then nb ((sortP ps).take i) (j : Int) ++ [q.2] else nb ((sortP ps).take i) (j : Int)).set (b + 1) (pb, .lst ((nb ((sortP ps).take i) (b : Int)).map V.int ++ [.int q.1])) =
              (x, HO.ins C dx (NF kp np)) :: nearL nps fun j => nb ((sortP ps).take (i + 1)) (j : Int) := by
            show (x, HO.ins C dx (NF kp np)) :: (nearL nps fun j => if j = a then nb ((sortP ps).take i) (j : Int) ++ [q.2] else nb ((sortP ps).take i) (j : Int)).set b _ = _
            have e := nearL_set (g := fun j => if j = a then nb ((sortP ps).take i) (j : Int) ++ [q.2] else nb ((sortP ps).take i) (j : Int)) (g' := fun j => nb ((sortP ps).take (i + 1)) (j : Int)) hpb (fun j hj => by
              rw [etk, nb_one_n (n := n) ha hbq hab, if_neg hj, ← hbq])
            rw [← e]
            simp only [etk]
            rw [nb_one_n (n := n) ha hbq hab, if_neg (Ne.symm hab), if_pos rfl]
            simp [ha]
          rw [ha] at eset2
          rw [eset2] at S8
          walk_at "go"
          exact ⟨⟨_, _, _, _, _, rfl⟩, S8⟩
        · rintro σ' H' ⟨_, S⟩
          rw [(pr_len hl2), List.take_length] at S
          walk_at "go"
          have new : ∀ a : Addr, G a = none → nw G H' a = H' a := fun a h => nw_new h
          refine k H' (hnG.trans S.ex) ⟨⟨dx, kp, np, ys, nps, ?_⟩, hok.sort, sortP_up _, (sortP_perm ps).nodup_iff.mpr hnd, h1, h60⟩
          have hx0 : G x = none := S0.no0
          have hk0 : G kp = none := fresh_back (e1.trans S1.ex) hkp
          have hn0 : G np = none := fresh_back (e1.trans e2) S4.no0
          refine ⟨(new x hx0).trans S.get0, (new kp hk0).trans (S.ex _ _ hkp6), Paired.mapP hl2 fun y q ⟨t, e, ht⟩ => ⟨t, e, (nw_tup ht rfl).trans (S.ex _ _ (hnG _ _ ht))⟩, (new np hn0).trans (S.ex _ _ hnp), hlen, fun i p hp => ?_⟩
          have m := List.mem_cons_of_mem (x, HO.ins C dx (NF kp np)) (List.mem_of_getElem? (nearL_get (g := fun j => nb (sortP ps) (j : Int)) hp))
          exact (new p (fresh_back hnG (S.at_ _ m).1)).trans (S.at_ _ m).2
end
end NX

namespace NX
open PySem PySem.Spec PyProof.Rows L2
open Evl (Ex ex_l ex_t fresh_back)
/-! ### len, ==, != of networks -/
section
variable {X : Cx}
/-- a def runs below the running body -/
theorem run_at {A : Around} {CX : CXT} {k : Nat} {f : Addr} {fd : FuncData} {ps : List Str} {sp : Sp} {E : XK} {pins : List (Addr × Obj)} {σ : L2.St} {H : Hp} {s : Shared} {Q : VK} {us : List Value} {vs : List V} (sb : L2.Sub X k A)
    (F : FnOk X.prog X.w X.K X.mg X.base CX k f fd ps sp) (hb : Binds X.K fd ps []) (hx : Passes CX X E) (I : L2.Inv X pins σ H s) (r : Vals vs us) (h : sp vs H Q E) :
    wpAny (model X.prog X.w) A (call (.ref f) us) (EP X pins σ Q) X.xe s := by
  have e0 : Env0 X.prog X.w X.K X.mg X.base A X.stack s H := by
    have e := I.env0
    exact ⟨by rw [sb.fr]; exact e.frames, e.mod, e.bs, e.bsz, e.funs, e.frf, e.hok, e.bare⟩
  have hl := F.len _ _ _ _ h
  refine wpAny_call (codeAny_mono (F.run A X.stack s H ⟨us, []⟩ us vs Q E sb.room e0 (by
    have := hb s us I.kIn (by rw [List.append_nil, ← r.length]; exact hl)
    simpa using this) r h) fun r s' hq => ?_)
  cases r with
  | error e => exact hx pins σ H s e s' I hq
  | ok fl =>
    cases fl with
    | ret w => exact I.after hq
    | next => exact False.elim hq
    | brk => exact False.elim hq
    | cont => exact False.elim hq
def spLen (C : Addr) : Sp := fun vs H Q _ => ∃ (a : Addr) (n : Nat) (ks : List Pr), vs = [.ref a] ∧ NetAt C H a n ks ∧ Q (.int (n : Int)) H
def spEqN (C : Addr) : Sp := fun vs H Q _ => ∃ (a b : Addr) (n m : Nat) (ks ls : List Pr), vs = [.ref a, .ref b] ∧ NetAt C H a n ks ∧ NetAt C H b m ls ∧ ∀ H', Ex H H' → Q (.bl (decide (n = m ∧ ks = ls))) H'
def rLenNet (C : Addr) : List V → Hp → VK → Prop := fun xs H Q => ∃ (a : Addr) (n : Nat) (ks : List Pr), xs = [.ref a] ∧ NetAt C H a n ks ∧ Q (.int (n : Int)) H
def rEqNet (C : Addr) : R2 := fun x y H Q => ∃ (a b : Addr) (n m : Nat) (ks ls : List Pr), x = .ref a ∧ y = .ref b ∧ NetAt C H a n ks ∧ NetAt C H b m ls ∧ ∀ H', Ex H H' → Q (.bl (decide (n = m ∧ ks = ls))) H'
def rNeNet (C : Addr) : R2 := fun x y H Q => ∃ (a b : Addr) (n m : Nat) (ks ls : List Pr), x = .ref a ∧ y = .ref b ∧ NetAt C H a n ks ∧ NetAt C H b m ls ∧ ∀ H', Ex H H' → Q (.bl (!decide (n = m ∧ ks = ls))) H'
theorem inst_net {pins : List (Addr × Obj)} {σ : L2.St} {H : Hp} {s : Shared} {C a : Addr} {n : Nat} {ks : List Pr} (I : L2.Inv X pins σ H s) (N : NetAt C H a n ks) : ∃ dx od, PySem.W.InstAt s.heap a (PySem.W.instObj C dx) C od := by
  obtain ⟨dx, kp, np, xs, nps, o⟩ := N.at_
  obtain ⟨mA, J, _⟩ := ins_get I.hok o.ins
  obtain ⟨od, J, _⟩ := J.look
  exact ⟨_, _, J⟩
theorem call_lenNet {C : Addr} {k : Nat} (_NC : NetC X.K C) (M : Mth X.prog X.w X.K X.mg X.base k C "__len__" ["self"] (spLen C)) (hr : Room (k + 1) X.A) : CallR X (.builtin "len") (rLenNet C) := by
  intro pins s σ H xs us Q I r h
  obtain ⟨a, n, ks, rfl, N, q⟩ := h
  obtain ⟨f, fd, hm, F, hb⟩ := M
  obtain ⟨u, rfl, ru⟩ := vals1 r
  obtain rfl : u = Value.ref a := ru
  obtain ⟨dx, od, J⟩ := inst_net I N
  obtain ⟨m, hF⟩ := I.fr
  refine PySem.W.len_K hF I.ok.mod.kin J hm.at_ hm.fn (wpAny_mono (run_at (L2.Sub.in1 ⟨hr, rfl⟩) F hb passN I r (Q := fun v H' => v = .int (n : Int) ∧ Q (.int (n : Int)) H') ⟨a, n, ks, rfl, N, rfl, q⟩) (fun v s' z => ?_) fun _ _ z => z)
  obtain ⟨w, H', I', rv, rfl, q'⟩ := z
  obtain ⟨t, rfl⟩ := rv
  refine ⟨⟨by omega, ?_⟩, ⟨V.int (n : Int), H', I'.tok _, ⟨_, rfl⟩, q'⟩⟩
  have := N.sz.2
  omega
theorem notFirst_self {K : PySem.W.Frag} {C : Addr} : PySem.W.notFirst K C (.ref C) = true := by simp [PySem.W.notFirst]
theorem op_eqNet {C : Addr} {k : Nat} (_NC : NetC X.K C) (M : Mth X.prog X.w X.K X.mg X.base k C "__eq__" ["self", "other"] (spEqN C)) (hr : Room (k + 1) X.A) : OpR X (compareOp .Eq) (rEqNet C) := by
  intro pins s σ H x y v u Q I rx ry h
  obtain ⟨a, b, n, m, ks, ls, rfl, rfl, N1, N2, q⟩ := h
  cases rx
  cases ry
  obtain ⟨f, fd, hm, F, hb⟩ := M
  obtain ⟨dx, od, J⟩ := inst_net I N1
  obtain ⟨dy, oe, J'⟩ := inst_net I N2
  obtain ⟨mm, hF⟩ := I.fr
  show wpAny (model X.prog X.w) X.A (richCompare .Eq (.ref a) (.ref b)) (EP X pins σ Q) X.xe s
  have hr0 : Room k X.A := hr.mono (Nat.le_succ k)
  refine PySem.W.cmp_K (op := .Eq) (tb := .ref C) hr.units0 hF I.ok.mod.kin J J'.type notFirst_self hm.at_ hm.fn (wpAny_mono (run_at ⟨hr0, rfl⟩ F hb passN I (vs := [V.ref a, V.ref b]) (.cons rfl (.cons rfl .nil)) (Q := fun v H' => v = .bl (decide (n = m ∧ ks = ls)) ∧ Q v H')
    ⟨a, b, n, m, ks, ls, rfl, N1, N2, fun H' e => ⟨rfl, q H' e⟩⟩) (fun v s' z => ?_) fun _ _ z => z)
  obtain ⟨w, H', I', rv, rfl, q'⟩ := z
  cases rv
  exact ⟨V.bl (decide (n = m ∧ ks = ls)), H', I', rfl, q'⟩
theorem op_neNet {C : Addr} {k : Nat} (NC : NetC X.K C) (M : Mth X.prog X.w X.K X.mg X.base k C "__eq__" ["self", "other"] (spEqN C)) (hr : Room (k + 1) X.A) : OpR X (compareOp .NotEq) (rNeNet C) := by
  intro pins s σ H x y v u Q I rx ry h
  obtain ⟨a, b, n, m, ks, ls, rfl, rfl, N1, N2, q⟩ := h
  cases rx
  cases ry
  obtain ⟨f, fd, hm, F, hb⟩ := M
  obtain ⟨dx, od, J⟩ := inst_net I N1
  obtain ⟨dy, oe, J'⟩ := inst_net I N2
  obtain ⟨mm, hF⟩ := I.fr
  show wpAny (model X.prog X.w) X.A (richCompare .NotEq (.ref a) (.ref b)) (EP X pins σ Q) X.xe s
  refine ne_K (tb := .ref C) (hu_of hr) hF I.ok.mod.kin J J'.type notFirst_self NC.ne NC.hm hm.at_ hm.fn (wpAny_mono (run_at (L2.Sub.in1 ⟨hr, rfl⟩) F hb passN I (vs := [V.ref a, V.ref b]) (.cons rfl (.cons rfl .nil)) (Q := fun v H' => v = .bl (decide (n = m ∧ ks = ls)) ∧ Q (.bl (!decide (n = m ∧ ks = ls))) H')
    ⟨a, b, n, m, ks, ls, rfl, N1, N2, fun H' e => ⟨rfl, q H' e⟩⟩) (fun v s' z => ?_) fun _ _ z => z)
  obtain ⟨w, H', I', rv, rfl, q'⟩ := z
  cases rv
  exact ⟨_, rfl, ⟨V.bl (!decide (n = m ∧ ks = ls)), H', I', rfl, q'⟩⟩
end
section
variable {C a b lp : Addr} {n m : Nat} {ks ls ps : List Pr} {G H : Hp} {L : List (Addr × HO)} {Q : VK} {E : XK} {xs : List V}
theorem n_lenNet (N : NetAt C H a n ks) (k : Q (.int (n : Int)) H) : rLenNet C [.ref a] H Q := ⟨a, n, ks, rfl, N, k⟩
theorem n_eqNet (S : Own G L H) (N1 : NetAt C G a n ks) (N2 : NetAt C G b m ls) (k : ∀ H1, Own G L H1 → Q (.bl (decide (n = m ∧ ks = ls))) H1) : rEqNet C (.ref a) (.ref b) H Q := ⟨a, b, n, m, ks, ls, rfl, rfl, N1.mono S.ex, N2.mono S.ex, fun H' e => k H' (S.grow e)⟩
theorem n_neNet (S : Own G L H) (N1 : NetAt C G a n ks) (N2 : NetAt C G b m ls) (k : ∀ H1, Own G L H1 → Q (.bl (!decide (n = m ∧ ks = ls))) H1) : rNeNet C (.ref a) (.ref b) H Q := ⟨a, b, n, m, ks, ls, rfl, rfl, N1.mono S.ex, N2.mono S.ex, fun H' e => k H' (S.grow e)⟩
theorem NetAt.ins (N : NetAt C H a n ks) {m : Str} (h1 : ¬ m = "near") (h2 : ¬ m = "kept") : INS C m (.ref a) H := by
  obtain ⟨dx, kp, np, xs, nps, o⟩ := N.at_
  exact ⟨a, dx, _, rfl, o.ins, nf_no kp np h1 h2⟩
/-- Network(n, links) -/
theorem n_netN (hlp : H lp = some (.lst xs)) (hl : Lks H xs ps) (hok : Okl n ps) (hnd : ps.Nodup) (hn : 1 ≤ n ∧ n ≤ 60) (hz : ps.length ≤ 10000)
    (k : ∀ x H1, H x = none → Ex H H1 → NetAt C (nw H H1) x n (sortP ps) → Q (.ref x) H1) : MAKE C (spInit C) E [.int (n : Int), .ref lp] H Q := by
  intro x dx hx hdx ne
  have hx' : upd H dx (.own x) x = none := by rw [upd_ne (Ne.symm ne)]; exact hx
  have e1 : Ex H (upd H dx (.own x)) := Ex.new hdx
  exact ⟨x, lp, dx, n, xs, ps, upd H dx (.own x), rfl, (Own.start _).lay hx', e1 _ _ hlp, hl.mono e1, hok, hnd, hn.1, hn.2, hz, fun H' e N => ⟨rfl, k x H' hx (e1.trans e) (N.mono (nw_mono e1))⟩⟩
theorem n_net (S : Own G L H) (hlp : H lp = some (.lst xs)) (hl : Lks H xs ps) (hok : Okl n ps) (hnd : ps.Nodup) (hn : 1 ≤ n ∧ n ≤ 60) (hz : ps.length ≤ 10000)
    (k : ∀ x G1 H1, H x = none → Ex G G1 → Ex H H1 → Own G1 L H1 → NetAt C G1 x n (sortP ps) → Q (.ref x) H1) : MAKE C (spInit C) E [.int (n : Int), .ref lp] H Q :=
  n_netN hlp hl hok hnd hn hz fun x H1 hx e N => by
    obtain ⟨S1, e2, e3⟩ := S.absorb e
    exact k x _ H1 hx e2 e S1 (N.mono e3)
end
end NX

namespace NX
open PySem PySem.Spec PyProof.Rows L2
open Evl (Ex ex_l ex_t fresh_back)
theorem lks_nw {H H' : Hp} (e : Ex H H') {xs : List V} {ks : List Pr} (h : Lks H xs ks) : Lks (nw H H') xs ks := Paired.mapP h fun _ _ ⟨t, a, b⟩ => ⟨t, a, by rw [nw_tup b rfl]; exact e _ _ b⟩
abbrev s_Network_links : Stmt := inClass (top 10) 1
theorem sc_Network_links : FnScope ["self"] ["self"] (defScope s_Network_links) := ⟨rfl, rfl, rfl, by decide +kernel, rfl, by decide +kernel, by decide +kernel⟩
abbrev s_Network_check_station : Stmt := inClass (top 10) 5
theorem sc_Network_check_station : FnScope ["self", "station"] ["self", "station"] (defScope s_Network_check_station) := ⟨rfl, rfl, rfl, by decide +kernel, rfl, by decide +kernel, by decide +kernel⟩
def spLinks (C : Addr) : Sp := fun vs H Q _ => ∃ (a : Addr) (n : Nat) (ks : List Pr), vs = [.ref a] ∧ NetAt C H a n ks ∧ ∀ xs, Lks H xs ks → Ret (.lst xs) H Q
/-- the station is one -/
def spChk (C : Addr) : Sp := fun vs H Q _ => ∃ (a : Addr) (n : Nat) (ks : List Pr) (i : Int), vs = [.ref a, .int i] ∧ NetAt C H a n ks ∧ (0 ≤ i ∧ i < (n : Int)) ∧ ∀ H', Ex H H' → Q .non H'
section
variable {C : Addr} {G H : Hp} {L : List (Addr × HO)} {a : Addr} {n : Nat} {ks : List Pr} {Q : VK} {E : XK}
theorem n_links (S : Own G L H) (N : NetAt C G a n ks) (k : ∀ xs p G1 H1, Lks G1 xs ks → H p = none → Ex G G1 → Ex H H1 → G1 p = some (.lst xs) → Own G1 L H1 → Q (.ref p) H1) : spLinks C [.ref a] H Q E :=
  ⟨a, n, ks, rfl, N.mono S.ex, fun xs hx p H' hp e h => by
    obtain ⟨S1, e1, e2⟩ := S.absorb e
    exact k xs p _ H' ((lks_nw e hx).mono e2) hp e1 e (e2 _ _ ((nw_new hp).trans h)) S1⟩
theorem n_linksO (S : Own G L H) (N : NetAt C G a n ks) (k : ∀ xs p G1 H1, Lks G1 xs ks → H p = none → Ex G G1 → Ex H H1 → Own G1 ((p, .lst xs) :: L) H1 → Q (.ref p) H1) : spLinks C [.ref a] H Q E :=
  n_links S N fun xs p G1 H1 hl hp e1 e2 h S1 => by
    obtain ⟨S2, k2⟩ := S1.thaw h
    refine k xs p _ H1 (Paired.mapP hl fun _ _ ⟨t, b, c⟩ => ⟨t, b, k2 _ _ (fun z => ?_) c⟩) hp (fun b u hb => k2 _ _ (ne_of_none hb (fresh_back S.ex hp)) (e1 _ _ hb)) e2 S2
    rw [z, h] at c
    cases c
theorem n_chk {i : Int} (S : Own G L H) (N : NetAt C G a n ks) (h : 0 ≤ i ∧ i < (n : Int)) (k : ∀ H1, Ex H H1 → Own G L H1 → Q .non H1) : spChk C [.ref a, .int i] H Q E :=
  ⟨a, n, ks, i, rfl, N.mono S.ex, h, fun H' e => k H' e (S.grow e)⟩
end
section
variable {P : Program} {w : World} {K : PySem.W.Frag} {mg : Str → Option Value} {base : Heap} {C : Addr}
theorem ok_links {f : Addr} {fd : FuncData} (F : Fun K "links" "Network.links" s_Network_links f fd) (T : Txt mg) (NC : NetC K C) : FnOk P w K mg base CX0 1 f fd ["self"] (spLinks C) := by
  refine F.ok sc_Network_links (fun vs H Q E h => ?_) (fun cdv A outer s H vs Q E hr h => ?_)
  · obtain ⟨a, n, ks, rfl, _⟩ := h
    rfl
  · obtain ⟨a, n, ks, rfl, N, k⟩ := h
    obtain ⟨dx, kp, np, xs, nps, o⟩ := N.at_
    refine ⟨_, (pss_one (ps_ret (pe_callTy call_listN (by rfl) T.n_list (by decide +kernel) (pa_cons (pe_fld (pv 0) rfl) pa_nil)))), ?_⟩
    walk_at "go"
    refine n_fld o.ins NC.cl NC.nK (nf_kept kp np) ?_
    walk_at "go"
    exact ⟨kp, xs, rfl, .inl (SqL.of o.kept), fun p hp => k xs o.lks p _ hp (Ex.new hp) upd_same⟩
theorem ok_chk {f : Addr} {fd : FuncData} (F : Fun K "check_station" "Network.check_station" s_Network_check_station f fd) (T : Txt mg) (NC : NetC K C) (c_is_int : Cal P w K mg base 1 "is_int" ["value"] [] (spIsInt K)) : FnOk P w K mg base CX0 2 f fd ["self", "station"] (spChk C) := by
  refine F.ok sc_Network_check_station (fun vs H Q E h => ?_) (fun cdv A outer s H vs Q E hr h => ?_)
  · obtain ⟨a, n, ks, i, rfl, _⟩ := h
    rfl
  · obtain ⟨a, n, ks, i, rfl, N, hi, k⟩ := h
    obtain ⟨dx, kp, np, xs, nps, o⟩ := N.at_
    refine ⟨_, (pss_one (ps_if (PW.pt (pw_or (pt_not (pt_val (pe_cal c_is_int (hr.mono (by first | decide | omega)) passN (pa_cons (pv 1) pa_nil)))) (pw_or1 (pt_not (pt_chain op_le op_lt pe_int (pv 1) (pe_callB call_lenN (by rfl) T.n_len (by decide +kernel) (pa_cons (pe_fld (pv 0) rfl) pa_nil))))))) (pss_one ps_never) pss_nil)), ?_⟩
    walk_at "go"
    refine g_isint ?_
    walk_at "go"
    refine if_tt (dtrue (by omega)) ?_
    walk_at "go"
    refine n_fld o.ins NC.cl NC.nN (nf_near kp np) ?_
    walk_at "go"
    refine n_len (SqL.of o.near) ?_
    rw [List.length_map, o.len]
    walk_at "go"
    refine if_ff (ntrue (by omega)) ?_
    walk_at "go"
    exact k H (Ex.refl H)
end
end NX

namespace NX
/-! ### renamed, without: what becomes of the links -/
def mmP (a b : Int) : Pr := (min a b, max a b)
def renL (ns : List Int) (ks : List Pr) : List Pr := ks.map fun q => mmP (tv ns q.1) (tv ns q.2)
/-- new numbers of n stations -/
def IsNames (n : Nat) (ns : List Int) : Prop := ns.length = n ∧ ns.Nodup ∧ ∀ x ∈ ns, 0 ≤ x ∧ x < (n : Int)
theorem tv_mem {t : List Int} {j : Int} (h0 : 0 ≤ j) (h : j < (t.length : Int)) : tv t j ∈ t := by
  obtain ⟨i, rfl⟩ : ∃ i : Nat, j = (i : Int) := ⟨j.toNat, by omega⟩
  exact List.mem_of_getElem? (get_tv (by omega))
theorem tv_inj {t : List Int} (h : t.Nodup) {i j : Int} (hi : 0 ≤ i ∧ i < (t.length : Int)) (hj : 0 ≤ j ∧ j < (t.length : Int)) (e : tv t i = tv t j) : i = j := by
  obtain ⟨a, rfl⟩ : ∃ a : Nat, i = (a : Int) := ⟨i.toNat, by omega⟩
  obtain ⟨b, rfl⟩ : ∃ b : Nat, j = (b : Int) := ⟨j.toNat, by omega⟩
  have ha := get_tv (t := t) (i := a) (by omega)
  have hb := get_tv (t := t) (i := b) (by omega)
  obtain ⟨la, ea⟩ := List.getElem?_eq_some_iff.mp ha
  obtain ⟨lb, eb⟩ := List.getElem?_eq_some_iff.mp hb
  have := (List.getElem_inj h).mp (ea.trans (e.trans eb.symm))
  omega
theorem IsNames.rng {n : Nat} {ns : List Int} (h : IsNames n ns) {j : Int} (h0 : 0 ≤ j) (hj : j < (n : Int)) : 0 ≤ tv ns j ∧ tv ns j < (n : Int) := h.2.2 _ (tv_mem h0 (by rw [h.1]; exact hj))
theorem IsNames.inj {n : Nat} {ns : List Int} (h : IsNames n ns) {i j : Int} (hi : 0 ≤ i ∧ i < (n : Int)) (hj : 0 ≤ j ∧ j < (n : Int)) (e : tv ns i = tv ns j) : i = j := tv_inj h.2.1 (by rw [h.1]; exact hi) (by rw [h.1]; exact hj) e
theorem ren_ok {n : Nat} {ns : List Int} {ks : List Pr} (h : IsNames n ns) (ok : Okl n ks) : Okl n (renL ns ks) := fun q hq => by
  obtain ⟨p, hp, rfl⟩ := List.mem_map.mp hq
  have hb := ok p hp
  have h1 := h.rng (j := p.1) hb.1 (by omega)
  have h2 := h.rng (j := p.2) (by omega) hb.2.2
  have ne : tv ns p.1 ≠ tv ns p.2 := fun e => by
    have := h.inj ⟨hb.1, by omega⟩ ⟨by omega, hb.2.2⟩ e
    omega
  unfold mmP
  simp only
  omega
theorem nd_map {α β : Type} {f : α → β} : ∀ {l : List α}, l.Nodup → (∀ x ∈ l, ∀ y ∈ l, f x = f y → x = y) → (l.map f).Nodup
  | [], _, _ => List.Pairwise.nil
  | a :: l, h, inj => by
    have h' := List.nodup_cons.mp h
    rw [List.map_cons, List.nodup_cons]
    refine ⟨fun m => ?_, nd_map h'.2 fun x hx y hy => inj x (List.mem_cons_of_mem _ hx) y (List.mem_cons_of_mem _ hy)⟩
    obtain ⟨b, hb, e⟩ := List.mem_map.mp m
    have := inj b (List.mem_cons_of_mem _ hb) a List.mem_cons_self e
    rw [this] at hb
    exact h'.1 hb
theorem nd_filter {α : Type} {p : α → Bool} {l : List α} (h : l.Nodup) : (l.filter p).Nodup := h.sublist List.filter_sublist
theorem mm_eq {a b c d : Int} (h : mmP a b = mmP c d) : (a = c ∧ b = d) ∨ (a = d ∧ b = c) := by
  unfold mmP at h
  have h1 := congrArg Prod.fst h
  have h2 := congrArg Prod.snd h
  simp only at h1 h2
  omega
theorem ren_nd {n : Nat} {ns : List Int} {ks : List Pr} (h : IsNames n ns) (ok : Okl n ks) (nd : ks.Nodup) : (renL ns ks).Nodup := nd_map nd fun x hx y hy e => by
  have bx := ok x hx
  have by_ := ok y hy
  rcases mm_eq e with ⟨e1, e2⟩ | ⟨e1, e2⟩
  · have a := h.inj ⟨bx.1, by omega⟩ ⟨by_.1, by omega⟩ e1
    have b := h.inj ⟨by omega, bx.2.2⟩ ⟨by omega, by_.2.2⟩ e2
    exact Prod.ext a b
  · have a := h.inj ⟨bx.1, by omega⟩ ⟨by omega, by_.2.2⟩ e1
    have b := h.inj ⟨by omega, bx.2.2⟩ ⟨by_.1, by omega⟩ e2
    omega
def shf (s x : Int) : Int := x - (if s < x then 1 else 0)
theorem shf_inj {s x y : Int} (hx : x ≠ s) (hy : y ≠ s) (e : shf s x = shf s y) : x = y := by
  unfold shf at e
  split at e <;> split at e <;> omega
def woF (s : Int) (ks : List Pr) : List Pr := ks.filter fun q => !decide (s = q.1 ∨ s = q.2)
def woL (s : Int) (ks : List Pr) : List Pr := (woF s ks).map fun q => (shf s q.1, shf s q.2)
theorem mem_woF {s : Int} {ks : List Pr} {q : Pr} : q ∈ woF s ks ↔ q ∈ ks ∧ q.1 ≠ s ∧ q.2 ≠ s := by
  unfold woF
  rw [List.mem_filter]
  simp only [Bool.not_eq_true', decide_eq_false_iff_not, not_or]
  exact ⟨fun h => ⟨h.1, fun e => h.2.1 e.symm, fun e => h.2.2 e.symm⟩, fun h => ⟨h.1, fun e => h.2.1 e.symm, fun e => h.2.2 e.symm⟩⟩
theorem wo_ok {n : Nat} {s : Int} {ks : List Pr} (hs : 0 ≤ s ∧ s < (n : Int)) (ok : Okl n ks) : Okl (n - 1) (woL s ks) := fun q hq => by
  obtain ⟨p, hp, rfl⟩ := List.mem_map.mp hq
  obtain ⟨hp, n1, n2⟩ := mem_woF.mp hp
  have hb := ok p hp
  simp only
  unfold shf
  split <;> split <;> omega
theorem wo_nd {s : Int} {ks : List Pr} (nd : ks.Nodup) : (woL s ks).Nodup := nd_map (nd_filter nd) fun x hx y hy e => by
  obtain ⟨_, a1, a2⟩ := mem_woF.mp hx
  obtain ⟨_, b1, b2⟩ := mem_woF.mp hy
  have h1 := congrArg Prod.fst e
  have h2 := congrArg Prod.snd e
  exact Prod.ext (shf_inj a1 b1 h1) (shf_inj a2 b2 h2)
theorem wo_len {s : Int} {ks : List Pr} : (woL s ks).length ≤ ks.length := by
  unfold woL woF
  rw [List.length_map]
  exact List.length_filter_le ..
theorem ren_len {ns : List Int} {ks : List Pr} : (renL ns ks).length = ks.length := List.length_map ..
end NX

namespace NX
open PySem PySem.Spec PySem.Calls PyProof.Rows L2
open Evl (Ex ex_l ex_t fresh_back)
/-! ### min and max of a tuple of numbers -/
section
variable {prog : Program} {w : World} {A : Around} {E : Value → Shared → Prop} {s : Shared} {l : Addr} {its : List Value} {ns : List Int} {Q : Value → Shared → Prop}
theorem best_of {f : Nat → Nat → Bool} (ht : s.heap.IsTuple l its.toArray) {c : Addr} {h' : Heap}
    (hk : ∀ b o, b ∉ [s.heap.objs.size] → (s.heap.push { cls := .type "tuple_iterator", data := .fields #[.ref l, .int 0 0] }).get? b = some o → h'.get? b = some o) : ∀ b o, s.heap.get? b = some o → h'.get? b = some o := fun b o e =>
  hk b o (fun m => Nat.lt_irrefl _ ((List.mem_singleton.mp m) ▸ Heap.lt_size e)) (Heap.get?_push_of_some _ e)
theorem fp_ok (ht : s.heap.IsTuple l its.toArray) : ∀ b ∈ [s.heap.objs.size, l], b < (s.heap.push { cls := .type "tuple_iterator", data := .fields #[.ref l, .int 0 0] }).objs.size := fun b hb => by
  have hl : l < s.heap.objs.size := by obtain ⟨_, e, _⟩ := ht; exact Heap.lt_size e
  rw [Heap.size_push]
  simp only [List.mem_cons, List.not_mem_nil, or_false] at hb
  rcases hb with rfl | rfl
  · exact Nat.lt_succ_self _
  · exact Nat.lt_succ_of_lt hl
theorem minT_raw (hh : A.handled = none) (ht : s.heap.IsTuple l its.toArray) (hi : IntsAre its ns) (hne : 0 < ns.length)
    (h : ∀ h' tk M t', (∀ b o, s.heap.get? b = some o → h'.get? b = some o) → M ∈ ns → (∀ a, a ∈ ns → M ≤ a) → Q (.int M t') { s with heap := h', toks := tk }) : wpAny (model prog w) A (call (.builtin "min") [.ref l]) Q E s := by
  have hl : l ≠ s.heap.objs.size := by obtain ⟨_, e, _⟩ := ht; exact Nat.ne_of_lt (Heap.lt_size e)
  have fp := fp_ok ht
  have ht0 := ht
  obtain ⟨xs, e⟩ := (hi.allInts).items
  have hn : numsOf (intItems xs).toList = ns := e ▸ hi.numsOf
  rw [nums_intItems] at hn
  rw [e] at ht
  subst hn
  have hsz : 0 < (intItems xs).size := by unfold intItems; simpa using hne
  refine call_min_walk (wpAny_pyIter_tuple ht ⟨_, _, _, _, _, _, _, rfl, Walks.tuple (A := A.in1) hh _ l hl (intItems xs), ⟨⟨_, Heap.get?_push_size _ rfl, rfl, rfl⟩, ht.push _⟩, fp, hsz, CmpOf.ints_lt (numAt xs) (fun _ _ => intItems_at), fun v h' tk hP hk => ?_⟩)
  obtain ⟨t, rfl⟩ := intItems_at hP
  have hsz2 : (intItems xs).size = xs.size := by unfold intItems; simp
  rw [hsz2] at hsz ⊢
  have hb := argBest_lt (numAt xs) (xs.size - 1)
  refine h h' tk _ t (best_of (f := fun _ _ => true) (c := l) ht0 hk) ?_ fun a ha => ?_
  · rw [numAt_eq]
    refine PySem.getD_mem ?_
    rw [List.length_map, Array.length_toList]
    have := hb.1
    omega
  · obtain ⟨j, hj, rfl⟩ := mem_getD ha
    have hj2 : j < xs.size := by simpa using hj
    have := hb.2 j (by omega)
    rw [← numAt_eq]
    exact this
theorem maxT_raw (hh : A.handled = none) (ht : s.heap.IsTuple l its.toArray) (hi : IntsAre its ns) (hne : 0 < ns.length)
    (h : ∀ h' tk M t', (∀ b o, s.heap.get? b = some o → h'.get? b = some o) → M ∈ ns → (∀ a, a ∈ ns → a ≤ M) → Q (.int M t') { s with heap := h', toks := tk }) : wpAny (model prog w) A (call (.builtin "max") [.ref l]) Q E s := by
  have hl : l ≠ s.heap.objs.size := by obtain ⟨_, e, _⟩ := ht; exact Nat.ne_of_lt (Heap.lt_size e)
  have fp := fp_ok ht
  have ht0 := ht
  obtain ⟨xs, e⟩ := (hi.allInts).items
  have hn : numsOf (intItems xs).toList = ns := e ▸ hi.numsOf
  rw [nums_intItems] at hn
  rw [e] at ht
  subst hn
  have hsz : 0 < (intItems xs).size := by unfold intItems; simpa using hne
  refine call_max_walk (wpAny_pyIter_tuple ht ⟨_, _, _, _, _, _, _, rfl, Walks.tuple (A := A.in1) hh _ l hl (intItems xs), ⟨⟨_, Heap.get?_push_size _ rfl, rfl, rfl⟩, ht.push _⟩, fp, hsz, CmpOf.ints_gt (numAt xs) (fun _ _ => intItems_at), fun v h' tk hP hk => ?_⟩)
  obtain ⟨t, rfl⟩ := intItems_at hP
  have hsz2 : (intItems xs).size = xs.size := by unfold intItems; simp
  rw [hsz2] at hsz ⊢
  have hb := argBest_gt (numAt xs) (xs.size - 1)
  refine h h' tk _ t (best_of (f := fun _ _ => true) (c := l) ht0 hk) ?_ fun a ha => ?_
  · rw [numAt_eq]
    refine PySem.getD_mem ?_
    rw [List.length_map, Array.length_toList]
    have := hb.1
    omega
  · obtain ⟨j, hj, rfl⟩ := mem_getD ha
    have hj2 : j < xs.size := by simpa using hj
    have := hb.2 j (by omega)
    rw [← numAt_eq]
    exact this
end
def rMinT (K : PySem.W.Frag) : List V → Hp → VK → Prop := fun vs H Q => ∃ (a : Addr) (ns : List Int), vs = [V.ref a] ∧ SqT K H a (ns.map V.int) ∧ 0 < ns.length ∧ ∀ m, m ∈ ns → (∀ y, y ∈ ns → m ≤ y) → Q (.int m) H
def rMaxT (K : PySem.W.Frag) : List V → Hp → VK → Prop := fun vs H Q => ∃ (a : Addr) (ns : List Int), vs = [V.ref a] ∧ SqT K H a (ns.map V.int) ∧ 0 < ns.length ∧ ∀ m, m ∈ ns → (∀ y, y ∈ ns → y ≤ m) → Q (.int m) H
section
variable {X : Cx} {K : PySem.W.Frag}
theorem cr_minT (hc : X.calm = true) (e : X.K = K := by rfl) : CallR X (.builtin "min") (rMinT K) := by
  subst e
  intro pins s σ H vs us Q I r h
  obtain ⟨a, ns, rfl, hs, hne, q⟩ := h
  obtain ⟨its, rv, ht, _⟩ := I.tuple hs
  rw [Vals.ref1 r]
  exact minT_raw (I.ok.hd hc) ht rv.ints hne fun h' tk m t' hk h1 h2 => ⟨.int _, H, I.kept hk, ⟨_, rfl⟩, q m h1 h2⟩
theorem cr_maxT (hc : X.calm = true) (e : X.K = K := by rfl) : CallR X (.builtin "max") (rMaxT K) := by
  subst e
  intro pins s σ H vs us Q I r h
  obtain ⟨a, ns, rfl, hs, hne, q⟩ := h
  obtain ⟨its, rv, ht, _⟩ := I.tuple hs
  rw [Vals.ref1 r]
  exact maxT_raw (I.ok.hd hc) ht rv.ints hne fun h' tk m t' hk h1 h2 => ⟨.int _, H, I.kept hk, ⟨_, rfl⟩, q m h1 h2⟩
end
theorem n_minT2 {K : PySem.W.Frag} {H : Hp} {t : Addr} {a b : Int} {Q : VK} (h : H t = some (.tup [.int a, .int b])) (k : Q (.int (min a b)) H) : rMinT K [.ref t] H Q :=
  ⟨t, [a, b], rfl, SqT.of h, Nat.succ_pos _, fun m hm hy => by
    have h1 := hy a (by simp)
    have h2 := hy b (by simp)
    simp only [List.mem_cons, List.not_mem_nil, or_false] at hm
    have e : m = min a b := by omega
    rw [e]
    exact k⟩
theorem n_maxT2 {K : PySem.W.Frag} {H : Hp} {t : Addr} {a b : Int} {Q : VK} (h : H t = some (.tup [.int a, .int b])) (k : Q (.int (max a b)) H) : rMaxT K [.ref t] H Q :=
  ⟨t, [a, b], rfl, SqT.of h, Nat.succ_pos _, fun m hm hy => by
    have h1 := hy a (by simp)
    have h2 := hy b (by simp)
    simp only [List.mem_cons, List.not_mem_nil, or_false] at hm
    have e : m = max a b := by omega
    rw [e]
    exact k⟩
/-! ### set(a list of numbers) -/
/-- an empty set -/
def eSet (w : World) : Obj := { cls := .type "set", dict := none, data := .set #[] 0 (.fresh 0 0 (!w.params.followText "set-order")) }
def lIt (l : Addr) : Obj := { cls := .type "list_iterator", data := .fields #[.ref l, .int 0 0] }
section
variable {P : Program} {w : World} {A : Around} {E : Value → Shared → Prop} {s : Shared}
theorem setL_init {l : Addr} {items : Array Value} (ns : List Int) (hh : A.handled = none) (hl : s.heap.IsList l items) (hit : IntsAre items.toList ns) (hb : ns.length + 1 < scanBound) {R : Value → Shared → Prop}
    (h : ∀ (h' : Heap) (tk c : Nat), SetR w h' s.heap.objs.size (fun j => decide (j ∈ ns)) c → c ≤ ns.length → (∀ b o, s.heap.get? b = some o → h'.get? b = some o) → R .none { s with heap := h', toks := tk }) :
    wpAny (model P w) A (Builtin.«set.__init__» ⟨[.ref s.heap.objs.size, .ref l], []⟩) (fun r s' => ∃ v, r = .done (.ret v) ∧ R v s') E { s with heap := s.heap.push (eSet w) } := by
  have hisz : items.size = ns.length := by
    rw [← Array.length_toList]
    exact IntsAre.length hit
  have hlS : l < s.heap.objs.size := by obtain ⟨_, e, _⟩ := hl; exact Heap.lt_size e
  have hS : (s.heap.push (eSet w)).get? s.heap.objs.size = some (eSet w) := Heap.get?_push_size _ rfl
  have hl1 : (s.heap.push (eSet w)).IsList l items := hl.push _
  have hz1 : (s.heap.push (eSet w)).objs.size = s.heap.objs.size + 1 := Heap.size_push ..
  obtain ⟨ol, hol, hcl, nl, hdl⟩ := hl1
  obtain ⟨oc, od, odt, osl⟩ := ol
  simp only at hcl hdl
  subst hcl; subst hdl
  have hl1 : (s.heap.push (eSet w)).IsList l items := hl.push _
  have q1 := F.sub_list_set
  have q2 := F.sub_list_frozenset
  have q3 : (Value.type "list" == Value.type "dict") = false := by decide
  have hS' := hS
  unfold eSet at hS' hol
  have hh3 : A.in1.handled = none := hh
  unfold Builtin.«set.__init__»; unfold noKeywords Builtin.Frozenset.updateFrom
  generalize hPI : pyIter = PI
  unfold eSet
  wp_walk
  subst hPI
  have hneI : l ≠ (s.heap.push (eSet w)).objs.size := by
    rw [hz1]
    exact Nat.ne_of_lt (Nat.lt_succ_of_lt hlS)
  have hSf : s.heap.objs.size ∉ [(s.heap.push (eSet w)).objs.size, l] := fun m => by
    rw [hz1] at m
    simp only [List.mem_cons, List.not_mem_nil, or_false] at m
    rcases m with m | m
    · exact absurd m (by omega)
    · exact absurd m (Nat.ne_of_gt hlS)
  have hval : ∀ (i : Nat) (v : Value), items[i]? = some v → ∃ k t, ns[i]? = some k ∧ v = .int k t := fun i v hv => by
    obtain ⟨lt, _⟩ := Array.getElem?_eq_some_iff.mp hv
    rw [hisz] at lt
    obtain ⟨t, e⟩ := IntsAre.int_at hit i v ((Array.getElem?_toList ..).trans hv)
    have z : ns[i]? = some (ns.getD i 0) := by rw [List.getD_eq_getElem?_getD, List.getElem?_eq_getElem lt] <;> rfl
    exact ⟨_, t, z, e⟩
  have hp2 : ((s.heap.push (eSet w)).push (lIt l)).get? s.heap.objs.size = some (eSet w) := Heap.get?_push_of_some _ hS
  refine wpAny_pyIter_list hl1 (wpAny_bind (wpAny_runValue (set_update_ints ((Walks.list (A := A.in1) hh _ l hneI items).toS) s.heap.objs.size hSf ns hisz hb hval (items.size - 0) 0 _ rfl (Nat.zero_le _) ⟨⟨_, Heap.get?_push_size _ rfl, rfl, rfl⟩, hl1.push _⟩
    ⟨0, Nat.le_refl 0, setR_new_at hp2⟩ fun s' c hm hc hR => ?_)))
  obtain ⟨h1, g1, d1, k1, o1⟩ := s'
  have z1 : g1 = s.gens := hm.gens
  have z2 : d1 = s.drawn := hm.drawn
  have z3 : o1 = s.os := hm.os
  subst z1; subst z2; subst z3
  refine wpAny_pure (wpAny_pure ⟨_, rfl, h h1 k1 c hR (by rw [← hisz]; exact hc) fun b o e => ?_⟩)
  have lt := Heap.lt_size e
  have kk := hm.heap b o
  refine kk (fun m => ?_) (Heap.get?_push_of_some _ (Heap.get?_push_of_some _ e))
  simp only [List.mem_cons, List.not_mem_nil, or_false] at m
  rcases m with m | m
  · exact absurd m (Nat.ne_of_lt lt)
  · rw [hz1] at m
    exact absurd m (Nat.ne_of_lt (Nat.lt_succ_of_lt lt))
/-- set(a list of numbers) -/
theorem setL_call {l : Addr} {items : Array Value} (ns : List Int) {Q : Value → Shared → Prop} (hh : A.handled = none) (hl : s.heap.IsList l items) (hit : IntsAre items.toList ns) (hb : ns.length + 1 < scanBound)
    (h : ∀ (h' : Heap) (tk c : Nat), SetR w h' s.heap.objs.size (fun j => decide (j ∈ ns)) c → c ≤ ns.length → (∀ b o, s.heap.get? b = some o → h'.get? b = some o) → Q (.ref s.heap.objs.size) { s with heap := h', toks := tk }) :
    wpAny (model P w) A (call (.type "set") [.ref l]) Q E s := by
  have k1 := F.called_set.mro
  have k2 := F.called_set.made
  have k3 := F.called_set.sub
  have k4 := F.called_set.notType
  have k5 := F.called_set.canCreate
  have k6 := F.typeCall_set_1 (.ref l)
  have k7 := F.called_set.init.lookup
  have k8 := F.called_set.init.bind (.ref s.heap.objs.size)
  obtain ⟨c0, tl, k1⟩ := k1
  refine wpAny_call (codeAny_of_tree ?_); show wpAny _ _ (callAny (.type "set") _) _ _ _; refine wpAny_pure ⟨Code.quiet_builtin _ (by decide +kernel), codeAny_builtin F.entry_type_call ?_⟩; rw [Around.under_plain (weight_type_call_type "set" [.ref l] []) rfl]
  repeat any_goals (first | assumption | wp_step)
  refine codeAny_mono (code_set_led1 (.ref l) (E := E) (Q₁ := fun obj s₁ => obj = .ref s.heap.objs.size ∧ s₁ = { s with heap := s.heap.push (eSet w) }) ⟨rfl, rfl⟩) fun r s₁ hr => ?_
  have hT : Shared.TypeIs { s with heap := s.heap.push (eSet w) } (.ref s.heap.objs.size) "set" := ⟨_, Heap.get?_push_size _ rfl, rfl⟩
  match r, hr with
  | .error e, hr => exact hr
  | .ok .next, hr => exact hr.elim
  | .ok .brk, hr => exact hr.elim
  | .ok .cont, hr => exact hr.elim
  | .ok (.ret obj), hr =>
    obtain ⟨rfl, rfl⟩ := hr
    repeat any_goals (first | assumption | wp_step)
    refine codeAny_mono (codeAny_call_builtin (R := wants (fun r s₂ => r = .none ∧ ∃ h' tk c, s₂ = { s with heap := h', toks := tk } ∧ SetR w h' s.heap.objs.size (fun j => decide (j ∈ ns)) c ∧ c ≤ ns.length ∧ (∀ b o, s.heap.get? b = some o → h'.get? b = some o)) E)
      F.called_set.init.plain F.entry_set_init (check_set_init_1 hT (wpAny_mono (setL_init (R := fun r s₂ => r = .none ∧ ∃ h' tk c, s₂ = { s with heap := h', toks := tk } ∧ SetR w h' s.heap.objs.size (fun j => decide (j ∈ ns)) c ∧ c ≤ ns.length ∧ (∀ b o, s.heap.get? b = some o → h'.get? b = some o)) ns (A := _) (by exact hh) hl hit hb fun h' tk c R1 hc hk => ⟨rfl, h', tk, c, rfl, R1, hc, hk⟩) (fun fin s' hf => ?_) fun _ _ z => z))) fun r₂ s₂ h2 => ?_
    · obtain ⟨v, rfl, hv⟩ := hf
      exact hv
    · match r₂, h2 with
      | .error e, h2 => exact h2
      | .ok .next, h2 => exact h2.elim
      | .ok .brk, h2 => exact h2.elim
      | .ok .cont, h2 => exact h2.elim
      | .ok (.ret v), h2 =>
        obtain ⟨rfl, h', tk, c, rfl, R1, hc, hk⟩ := h2
        repeat any_goals (first | assumption | wp_step)
        exact h _ _ _ R1 hc hk
end
def rSetOf (K : PySem.W.Frag) (w : World) : List V → Hp → VK → Prop := fun vs H Q => ∃ (a : Addr) (ns : List Int), vs = [V.ref a] ∧ SqL K H a (ns.map V.int) ∧ ns.length + 1 < scanBound ∧ ∀ p c, H p = none → c ≤ ns.length → Q (.ref p) (upd H p (SetO w p (fun j => decide (j ∈ ns)) c))
theorem cr_setL {X : Cx} {K : PySem.W.Frag} (hc : X.calm = true) (e : X.K = K := by rfl) : CallR X (.type "set") (rSetOf K X.w) := by
  subst e
  intro pins s σ H vs us Q I r h
  obtain ⟨a, ns, rfl, hs, hb, q⟩ := h
  obtain ⟨its, rv, hl, _⟩ := I.list hs
  rw [Vals.ref1 r]
  refine setL_call ns (I.ok.hd hc) hl.isList (by simpa using rv.ints) hb fun h' tk c R1 hc' hk => ?_
  have lt := R1.lt
  exact ⟨.ref _, _, I.laid (t' := tk) hk (Nat.le_refl _) (setO_new R1), rfl, q _ c (I.hok.fresh (Nat.le_refl _)) hc'⟩
/-- sorted(set(a list)) -/
theorem n_setL {K : PySem.W.Frag} {w : World} {G H : Hp} {L : List (Addr × HO)} {p : Addr} {ns : List Int} {Q : VK} (S : Own G L H) (h : SqL K H p (ns.map V.int)) (hb : ns.length < 60)
    (k : ∀ q c H1, H q = none → c ≤ ns.length → Own G ((q, SetO w q (fun j => decide (j ∈ ns)) c) :: L) H1 → Q (.ref q) H1) : rSetOf K w [.ref p] H Q :=
  ⟨p, ns, rfl, h, by unfold scanBound; omega, fun q c hq hc => k q c _ hq hc (S.lay hq)⟩
theorem n_sortSet {w : World} {G H : Hp} {L : List (Addr × HO)} {p : Addr} {ns : List Int} {c : Nat} {Q : VK} (S : Own G ((p, SetO w p (fun j => decide (j ∈ ns)) c) :: L) H) (hb : c < 64)
    (k : ∀ (ms : List Int) q G1 H1, ms.Pairwise (· < ·) → (∀ x, x ∈ ms ↔ x ∈ ns) → H q = none → Ex G G1 → Ex H H1 → G1 q = some (.lst (ms.map V.int)) → Own G1 L H1 → Q (.ref q) H1) : rSortedSet w [.ref p] H Q :=
  ⟨p, _, c, rfl, S.get0, hb, fun ms q h1 h2 h3 hq => by
    have T := S.forget.still (o := .lst (ms.map V.int)) hq
    exact k ms q _ _ h1 (fun x => by rw [h2, decide_eq_true_eq]) hq T.2.1 (Ex.new hq) T.2.2 T.1⟩
end NX

namespace NX
open PySem PySem.Spec PyProof.Rows L2
open Evl (Ex ex_l ex_t fresh_back)
theorem all_flat (ns : List Int) : (ns.map V.int).all flatV = true := by
  rw [List.all_eq_true]
  intro x hx
  obtain ⟨n, _, rfl⟩ := List.mem_map.mp hx
  rfl
theorem inV_ints (x : Int) (ns : List Int) : inV (.int x) (ns.map V.int) = decide (x ∈ ns) := by
  unfold inV
  rw [List.any_map, Bool.eq_iff_iff, List.any_eq_true]
  simp only [Function.comp, eqV, beq_iff_eq, decide_eq_true_eq]
  exact ⟨fun ⟨y, hy, e⟩ => e ▸ hy, fun h => ⟨x, h, rfl⟩⟩
section
variable {K : PySem.W.Frag} {H : Hp} {p : Addr} {ns : List Int} {x : Int} {Q : VK}
theorem n_inIL (h : SqL K H p (ns.map V.int)) (k : Q (.bl (decide (x ∈ ns))) H) : rIn K false (.int x) (.ref p) H Q := ⟨p, _, rfl, .inl h, rfl, all_flat ns, by rw [inV_ints]; exact k⟩
theorem n_ninIL (h : SqL K H p (ns.map V.int)) (k : Q (.bl (!decide (x ∈ ns))) H) : rIn K true (.int x) (.ref p) H Q := ⟨p, _, rfl, .inl h, rfl, all_flat ns, by rw [inV_ints]; exact k⟩
theorem n_inIT (h : SqT K H p (ns.map V.int)) (k : Q (.bl (decide (x ∈ ns))) H) : rIn K false (.int x) (.ref p) H Q := ⟨p, _, rfl, .inr h, rfl, all_flat ns, by rw [inV_ints]; exact k⟩
theorem n_ninIT (h : SqT K H p (ns.map V.int)) (k : Q (.bl (!decide (x ∈ ns))) H) : rIn K true (.int x) (.ref p) H Q := ⟨p, _, rfl, .inr h, rfl, all_flat ns, by rw [inV_ints]; exact k⟩
end
def spNet (C : Addr) (n : Nat) (ls : List Pr) (H : Hp) (Q : VK) : Prop := ∀ x H', H x = none → Ex H H' → NetAt C (nw H H') x n (sortP ls) → Q (.ref x) H'
theorem n_spNet {C : Addr} {G H : Hp} {L : List (Addr × HO)} {n : Nat} {ls : List Pr} {Q : VK} (S : Own G L H) (k : ∀ x G1 H1, H x = none → Ex G G1 → Ex H H1 → Own G1 L H1 → NetAt C G1 x n (sortP ls) → Q (.ref x) H1) : spNet C n ls H Q := fun x H' hx e N => by
  obtain ⟨S1, e2, e3⟩ := S.absorb e
  exact k x _ H' hx e2 e S1 (N.mono e3)
def spWo (C : Addr) : Sp := fun vs H Q _ => ∃ (a : Addr) (n : Nat) (ks : List Pr) (i : Int), vs = [.ref a, .int i] ∧ NetAt C H a n ks ∧ (0 ≤ i ∧ i < (n : Int)) ∧ 2 ≤ n ∧ spNet C (n - 1) (woL i ks) H Q
def spRen (K : PySem.W.Frag) (C : Addr) : Sp := fun vs H Q _ => ∃ (a p : Addr) (n : Nat) (ks : List Pr) (ns : List Int), vs = [.ref a, .ref p] ∧ NetAt C H a n ks ∧ H p = some (.lst (ns.map V.int)) ∧ IsNames n ns ∧ spNet C n (renL ns ks) H Q
theorem n_wo {C : Addr} {G H : Hp} {L : List (Addr × HO)} {a : Addr} {n : Nat} {ks : List Pr} {i : Int} {Q : VK} {E : XK} (S : Own G L H) (N : NetAt C G a n ks) (hi : 0 ≤ i ∧ i < (n : Int)) (hn : 2 ≤ n)
    (k : ∀ x G1 H1, H x = none → Ex G G1 → Ex H H1 → Own G1 L H1 → NetAt C G1 x (n - 1) (sortP (woL i ks)) → Q (.ref x) H1) : spWo C [.ref a, .int i] H Q E := ⟨a, n, ks, i, rfl, N.mono S.ex, hi, hn, n_spNet S k⟩
theorem n_ren {K : PySem.W.Frag} {C : Addr} {G H : Hp} {L : List (Addr × HO)} {a p : Addr} {n : Nat} {ks : List Pr} {ns : List Int} {Q : VK} {E : XK} (S : Own G L H) (N : NetAt C G a n ks) (hp : H p = some (.lst (ns.map V.int))) (hn : IsNames n ns)
    (k : ∀ x G1 H1, H x = none → Ex G G1 → Ex H H1 → Own G1 L H1 → NetAt C G1 x n (sortP (renL ns ks)) → Q (.ref x) H1) : spRen K C [.ref a, .ref p] H Q E := ⟨a, p, n, ks, ns, rfl, N.mono S.ex, hp, hn, n_spNet S k⟩
theorem ks_len2 {n : Nat} {ks : List Pr} (ok : Okl n ks) (u : Up ks) (d : ks.Nodup) (hn : n ≤ 60) : ks.length ≤ 4000 := by
  -- the links as numbers, all different, below 3600
  have h : (ks.map fun q => q.1 * 60 + q.2).Pairwise (· < ·) := by
    rw [List.pairwise_map]
    have hh := List.pairwise_iff_getElem.mp u
    refine List.pairwise_iff_getElem.mpr fun i j hi hj hij => ?_
    have c := leP_iff.mp (hh i j hi hj hij)
    have b1 := ok _ (List.getElem_mem hi)
    have b2 := ok _ (List.getElem_mem hj)
    have ne : ks[i] ≠ ks[j] := fun e => by have := (List.getElem_inj d).mp e; omega
    have ne' : ¬ (ks[i].1 = ks[j].1 ∧ ks[i].2 = ks[j].2) := fun e => ne (Prod.ext e.1 e.2)
    omega
  have := up_len (lo := 0) (hi := 3660) h fun x hx => by
    obtain ⟨q, hq, rfl⟩ := List.mem_map.mp hx
    have := ok q hq
    omega
  rcases this with e | e
  · have z := congrArg List.length e
    rw [List.length_map] at z
    simp only [List.length_nil] at z
    omega
  · rw [List.length_map] at e
    omega
theorem ks_len {n : Nat} {ks : List Pr} (ok : Okl n ks) (u : Up ks) (d : ks.Nodup) (hn : n ≤ 60) : ks.length ≤ 10000 := Nat.le_trans (ks_len2 ok u d hn) (by decide)
theorem NetAt.len {C : Addr} {H : Hp} {a : Addr} {n : Nat} {ks : List Pr} (N : NetAt C H a n ks) : ks.length ≤ 10000 := ks_len N.ok N.up N.nd N.sz.2
end NX

namespace NX
open PySem PySem.Spec PyProof.Rows L2
open Evl (Ex ex_l ex_t fresh_back)
/-! ### _law_links -/
theorem s_join {ts : TS} {n b c : L2.St → Hp → Prop} {rt : VK} {σ : L2.St} {H : Hp} (J : L2.St → Hp → Prop) (hj : ∀ σ' H', J σ' H' → n σ' H') (h : ∀ n' : L2.St → Hp → Prop, (∀ σ' H', J σ' H' → n' σ' H') → ts ⟨n', rt, b, c⟩ σ H) : ts ⟨n, rt, b, c⟩ σ H := h n hj
/-- behind a call that may change the object at p, where what stands still has grown -/
theorem Own.backG {G G' H H' : Hp} {L L' : List (Addr × HO)} {p : Addr} {o o' : HO} (S : Own G ((p, o) :: L) H) (e : Ex (cut H [(p, o)]) G') (T : Own G' ((p, o') :: L') H') :
    Own (cut G' L) ((p, o') :: L' ++ L) H' ∧ Ex G (cut G' L) ∧ ∀ a u, noTup u = false → G' a = some u → cut G' L a = some u := by
  have hL : ∀ x ∈ L, G' x.1 = some x.2 := fun x hx => e _ _ (by
    have ne : x.1 ≠ p := fun z => S.nin (z ▸ List.mem_map_of_mem hx)
    rw [cut_out (by simpa using ne)]
    exact (S.at_ x (List.mem_cons_of_mem _ hx)).2)
  refine ⟨⟨fun a u h => ?_, fun x hx => ?_, ?_, fun x hx => (List.mem_append.mp hx).elim (T.nt x) (S.forget.nt x)⟩, fun a u h => ?_, fun a u t h => ?_⟩
  · by_cases m : a ∈ L.map Prod.fst
    · rw [cut_in m] at h; cases h
    · rw [cut_out m] at h; exact T.ex _ _ h
  · rcases List.mem_append.mp hx with hx | hx
    · refine ⟨?_, (T.at_ x hx).2⟩
      have z := (T.at_ x hx).1
      by_cases m : x.1 ∈ L.map Prod.fst
      · exact cut_in m
      · rw [cut_out m]; exact z
    · exact ⟨cut_in (List.mem_map_of_mem hx), T.ex _ _ (hL x hx)⟩
  · rw [List.map_append, List.nodup_append]
    refine ⟨T.nd, S.forget.nd, fun a ha b hb z => ?_⟩
    subst z
    obtain ⟨x, hx, ex⟩ := List.mem_map.mp ha
    obtain ⟨y, hy, ey⟩ := List.mem_map.mp hb
    have z := (T.at_ x hx).1
    rw [ex, ← ey, hL y hy] at z
    cases z
  · have ne : a ≠ p := ne_of_none h S.no0
    have m : a ∉ L.map Prod.fst := fun m => by
      obtain ⟨y, hy, ey⟩ := List.mem_map.mp m
      have z := (S.forget.at_ y hy).1
      rw [ey, h] at z
      cases z
    rw [cut_out m]
    exact e _ _ (by rw [cut_out (by simpa using ne)]; exact S.ex _ _ h)
  · have m : a ∉ L.map Prod.fst := fun m => by
      obtain ⟨y, hy, ey⟩ := List.mem_map.mp m
      have z := hL y hy
      rw [ey, h] at z
      have := S.forget.nt y hy
      rw [← Option.some.inj z, t] at this
      cases this
    rw [cut_out m]
    exact h
/-- l.extend(b) -/
theorem n_ext {G H : Hp} {L : List (Addr × HO)} {l b : Addr} {xs zs : List V} {Q : VK} (S : Own G ((l, .lst xs) :: L) H) (hb : H b = some (.lst zs)) (hz : xs.length + zs.length ≤ 1000000) (k : ∀ H1, Own G ((l, .lst (xs ++ zs)) :: L) H1 → Q .non H1) : rExtend (.ref l) [.ref b] H Q :=
  ⟨l, b, xs, zs, rfl, rfl, S.get0, hb, small (by omega), k _ S.put0⟩
/-- links by places: below first -/
def RawL (m : Int) (ips : List Pr) : Prop := ips.Nodup ∧ ∀ q ∈ ips, 0 ≤ q.1 ∧ q.1 < q.2 ∧ q.2 < m
theorem raw_okl {n : Nat} {ips : List Pr} (h : RawL (n : Int) ips) : Okl n ips := h.2
theorem okl_len {n : Nat} {ls : List Pr} (ok : Okl n ls) (nd : ls.Nodup) (hn : n ≤ 60) : ls.length ≤ 10000 := by
  rw [← sortP_len]
  exact ks_len ok.sort (sortP_up _) ((sortP_perm ls).nodup_iff.mpr nd) hn
theorem raw_len {m : Int} {ips : List Pr} (h : RawL m ips) (hm : m ≤ 60) : ips.length ≤ 10000 := okl_len (n := 60) (fun q hq => by have := h.2 q hq; omega) h.1 (Nat.le_refl _)
theorem raw_add {m : Int} {ips : List Pr} {cs : List Int} (h : RawL m ips) (nd : cs.Nodup) (hc : ∀ c ∈ cs, 0 ≤ c ∧ c < m) : RawL (m + 1) (ips ++ cs.map fun c => (c, m)) := by
  refine ⟨List.nodup_append.mpr ⟨h.1, nd_map nd fun x _ y _ e => congrArg Prod.fst e, fun a ha b hb e => ?_⟩, fun q hq => ?_⟩
  · obtain ⟨c, _, rfl⟩ := List.mem_map.mp hb
    have := (h.2 a ha).2.2
    rw [e] at this
    simp only at this
    omega
  · rcases List.mem_append.mp hq with hq | hq
    · have := h.2 q hq
      omega
    · obtain ⟨c, hc', rfl⟩ := List.mem_map.mp hq
      have := hc c hc'
      simp only
      omega
theorem mm_swap (a b : Int) : mmP a b = mmP b a := by unfold mmP; exact Prod.ext (Int.min_comm _ _) (Int.max_comm _ _)
def swP (ns : List Int) (q : Pr) : Pr := (tv ns q.2, tv ns q.1)
theorem names_of {n : Nat} {ms ns : List Int} (hp : ns.Perm ms) (hm : ms = rgI 0 (n : Int)) : IsNames n ns := by
  subst hm
  have hl : (rgI 0 (n : Int)).length = n := by unfold rgI; rw [List.length_map, List.length_range]; omega
  have hnd : (rgI 0 (n : Int)).Nodup := by
    unfold rgI
    exact nd_map List.nodup_range fun x _ y _ e => by omega
  refine ⟨hp.length_eq.trans hl, hp.nodup_iff.mpr hnd, fun x hx => ?_⟩
  have := mem_rgI (hp.mem_iff.mp hx)
  omega
theorem ints_perm {ys : List V} {ms : List Int} (h : ys.Perm (ms.map V.int)) : ∃ ns : List Int, ys = ns.map V.int ∧ ns.Perm ms := by
  obtain ⟨ns, rfl⟩ := ints_of_sub (ns := ms) fun y hy => h.mem_iff.mp hy
  refine ⟨ns, rfl, ?_⟩
  have e := h.map (fun v : V => match v with | .int i => i | _ => 0)
  rw [List.map_map, List.map_map] at e
  have f : ((fun v : V => match v with | .int i => i | _ => 0) ∘ V.int) = (id : Int → Int) := rfl
  rw [f, List.map_id, List.map_id] at e
  exact e
theorem lks_perm {G : Hp} {xs ys : List V} {ps : List Pr} (hl : Lks G xs ps) (h : ys.Perm xs) : ∃ qs, Lks G ys qs ∧ qs.Perm ps := by
  obtain ⟨h1, h2⟩ := lks_k hl
  refine ⟨ys.map (kOf G), lks_of fun x hx => h2 x (h.mem_iff.mp hx), ?_⟩
  rw [← h1]
  exact h.map _
end NX

namespace NX
open PySem PySem.Spec PyProof.Rows L2
open Evl (Ex ex_l ex_t fresh_back)
/-! ### is_forest, ring_of, check_forest where there is no ring -/
/-- each link is a bridge -/
def Brg (ks : List Pr) : Prop := ∃ sd : Pr → Int → Bool, ∀ q ∈ ks, sd q q.1 ≠ sd q q.2 ∧ ∀ r ∈ ks, r ≠ q → sd q r.1 = sd q r.2
theorem Brg.perm {ks ls : List Pr} (h : Brg ks) (p : ks.Perm ls) : Brg ls := by
  obtain ⟨sd, h⟩ := h
  exact ⟨sd, fun q hq => ⟨(h q (p.mem_iff.mpr hq)).1, fun r hr ne => (h q (p.mem_iff.mpr hq)).2 r (p.mem_iff.mpr hr) ne⟩⟩
abbrev s_is_forest : Stmt := top 11
theorem sc_is_forest : FnScope ["network", "marks", "one", "other", "low", "high", "mark"] ["network"] (defScope s_is_forest) := ⟨rfl, rfl, rfl, by decide +kernel, rfl, by decide +kernel, by decide +kernel⟩
abbrev s_ring_of : Stmt := top 12
theorem sc_ring_of : FnScope ["network", "left", "thin", "walk", "before", "station", "one", "other"] ["network"] (defScope s_ring_of) := ⟨rfl, rfl, rfl, by decide +kernel, rfl, by decide +kernel, by decide +kernel⟩
abbrev s_check_forest : Stmt := top 13
theorem sc_check_forest : FnScope ["network", "ring"] ["network"] (defScope s_check_forest) := ⟨rfl, rfl, rfl, by decide +kernel, rfl, by decide +kernel, by decide +kernel⟩
def spForest (C : Addr) : Sp := fun vs H Q _ => ∃ (a : Addr) (n : Nat) (ks : List Pr), vs = [.ref a] ∧ NetAt C H a n ks ∧ Brg ks ∧ ∀ H', Ex H H' → Q (.bl true) H'
def spNoRing (C : Addr) : Sp := fun vs H Q _ => ∃ (a : Addr) (n : Nat) (ks : List Pr), vs = [.ref a] ∧ NetAt C H a n ks ∧ Brg ks ∧ ∀ H', Ex H H' → Q .non H'
section
variable {C : Addr} {G H : Hp} {L : List (Addr × HO)} {a : Addr} {n : Nat} {ks : List Pr} {Q : VK} {E : XK}
theorem n_noRing (S : Own G L H) (N : NetAt C G a n ks) (b : Brg ks) (k : ∀ H1, Ex H H1 → Own G L H1 → Q .non H1) : spNoRing C [.ref a] H Q E := ⟨a, n, ks, rfl, N.mono S.ex, b, fun H' e => k H' e (S.grow e)⟩
end
section
variable {P : Program} {w : World} {K : PySem.W.Frag} {mg : Str → Option Value} {base : Heap} {C : Addr}
theorem ok_forest {f : Addr} {fd : FuncData} (F : Fun K "is_forest" "is_forest" s_is_forest f fd) (T : Txt mg) (NC : NetC K C) (M_len : Mth P w K mg base 1 C "__len__" ["self"] (spLen C)) : FnOk P w K mg base CX0 3 f fd ["network"] (spForest C) := by
  refine F.ok sc_is_forest (fun vs H Q E h => ?_) (fun cdv A outer s H vs Q E hr h => ?_)
  · obtain ⟨a, n, ks, rfl, _⟩ := h
    rfl
  · obtain ⟨a, n, ks, rfl, N, ⟨sd, hb⟩, k⟩ := h
    obtain ⟨dx, kp, np, xs, nps, o⟩ := N.at_
    have hn := N.sz
    refine ⟨_, (pss_cons (ps_set (i := 1) sc_is_forest.nd rfl (Or.inl rfl) (pe_listRg rfl (by rfl) T.n_list (prg_1 (by rfl) T.n_range (pe_callB (call_lenNet NC M_len (hr.mono (by first | decide | omega))) (by rfl) T.n_len (by decide +kernel) (pa_cons (pv 0) pa_nil)))))
      (pss_cons (ps_for PassesOwn.never rfl (pi_list (pe_fld (pv 0) rfl)) (pg_tup (n := 2) rfl (pgs_cons (pg_name (i := 2) sc_is_forest.nd rfl (Or.inl rfl)) (pgs_cons (pg_name (i := 3) sc_is_forest.nd rfl (Or.inl rfl)) pgs_nil))) (pss_cons (ps_asg (pe_tup (pa_cons (pe_ix ix_list (pv 1) (pv 2) (fun _ _ => rfl)) (pa_cons (pe_ix ix_list (pv 1) (pv 3) (fun _ _ => rfl)) pa_nil))) (pg_tup (n := 2) rfl (pgs_cons (pg_name (i := 4) sc_is_forest.nd rfl (Or.inr rfl)) (pgs_cons (pg_name (i := 5) sc_is_forest.nd rfl (Or.inr rfl)) pgs_nil))))
      (pss_cons (ps_if (pt_cmpR op_eq (pv 4) (pv 5) (nomark _)) (pss_one (ps_ret pe_bl)) pss_nil)
      (pss_one (ps_setLc (i := 1) (own := [("mark", 6)]) (by rfl) sc_is_forest.nd rfl rfl (sw_true rfl rfl rfl (by decide +kernel)) (pi_list (pv 1)) (blkOk_by (own := [("mark", 6)]) (N := ["network", "marks", "one", "other", "low", "high", "mark"]) (sc := defScope s_is_forest) (by decide +kernel)) (fun _ _ _ _ _ => (pg_name (i := 6) sc_is_forest.nd rfl (Or.inl rfl))) (fun _ _ _ _ _ => pts_nil) (fun _ _ _ _ _ => (pe_ifExp (pt_cmpR op_eq (pv 6) (pv 5) (nomark _)) (pv 4) (pv 6))))))))
      (pss_one (ps_ret pe_bl)))), ?_⟩
    walk_at "go"
    refine n_lenNet N ?_
    walk_at "go"
    refine n_rgG (Own.start H) (by omega) fun rp G1 H1 _ e1 _ hrp S1 => ?_
    rw [rgV_eq] at hrp
    have hrl : (rgI 0 (n : Int)).length = n := by unfold rgI; rw [List.length_map, List.length_range]; omega
    have hrv : ∀ i : Nat, i < n → tv (rgI 0 (n : Int)) (i : Int) = (i : Int) := fun i hi => tv_get (by
      unfold rgI
      rw [List.getElem?_map, List.getElem?_range (show i < ((n : Int) - 0).toNat by omega)]
      simp)
    walk_at "go"
    refine n_fld (S1.ex _ _ (e1 _ _ o.ins)) NC.cl NC.nK (nf_kept kp np) ?_
    refine w_list (xs := xs) (fun i σ' H' => ∃ (q : Addr) (ms : List Int) (G' : Hp), (∃ x1 x2 x3 x4 x5, σ' = [some (.ref a), some (.ref q), x1, x2, x3, x4, x5]) ∧ Ex H G' ∧ Own G' [] H' ∧ G' q = some (.lst (ms.map V.int)) ∧ ms.length = n ∧
      ∀ x y : Nat, x < n → y < n → tv ms (x : Int) = tv ms (y : Int) → ∀ q ∈ ks.drop i, sd q (x : Int) = sd q (y : Int)) (SqL.of (S1.ex _ _ (e1 _ _ o.kept))) ⟨rp, rgI 0 (n : Int), G1, ⟨_, _, _, _, _, rfl⟩, e1, S1, hrp, hrl, fun x y hx hy e => ?_⟩
      (fun i σ' H' ⟨_, _, G', _, e, S, _⟩ => SqL.of (S.ex _ _ (e _ _ o.kept))) ?_ ?_
    · rw [hrv x hx, hrv y hy] at e
      intro q _
      rw [e]
    · rintro i y σ' H' hy ⟨q, ms, G', ⟨x1, x2, x3, x4, x5, rfl⟩, eG, S, hq, hlen, hinv⟩
      obtain ⟨p, hp, t, rfl, ht⟩ := pr_get o.lks hy
      have hpm := List.mem_of_getElem? hp
      have hbd := N.ok p hpm
      obtain ⟨pa, hpa⟩ : ∃ m : Nat, p.1 = (m : Int) := ⟨p.1.toNat, by omega⟩
      obtain ⟨pb, hpb⟩ : ∃ m : Nat, p.2 = (m : Int) := ⟨p.2.toNat, by omega⟩
      have hdrop : p ∈ ks.drop i := by
        obtain ⟨hl, e⟩ := List.getElem?_eq_some_iff.mp hp
        rw [List.drop_eq_getElem_cons hl, e]
        exact List.mem_cons_self
      have hne : tv ms p.1 ≠ tv ms p.2 := fun e => by
        rw [hpa, hpb] at e
        have := hinv pa pb (by omega) (by omega) e p hdrop
        have z := (hb p hpm).1
        rw [hpa, hpb] at z
        exact z this
      refine s_gtup (SqT.of (S.ex _ _ (eG _ _ ht))) rfl ?_
      walk_at "go"
      refine g_ixL (SqL.of (S.ex _ _ hq)) (at_tv hbd.1 (by rw [hlen]; omega)) ?_
      walk_at "go"
      refine g_ixL (SqL.of (S.ex _ _ hq)) (at_tv (by omega) (by rw [hlen]; omega)) ?_
      walk_at "go"
      refine n_tup S (by show 2 ≤ 10000000; decide) fun t2 G2 H2 _ e2 _ ht2 S2 => ?_
      refine s_gtup (SqT.of (S2.ex _ _ ht2)) rfl ?_
      walk_at "go"
      refine if_ff (dfalse hne) ?_
      walk_at "go"
      refine v_list (xs := ms.map V.int) (fun j acc G3 L3 => L3 = [] ∧ acc = ((ms.take j).map fun z => if z = tv ms p.2 then tv ms p.1 else z).map V.int) S2 (SqL.of (e2 _ _ hq)) (by rw [List.length_map, hlen]; omega) ⟨rfl, rfl⟩ ?_ ?_
      · rintro D j x acc G3 L3 H3 hx hj e3 hl3 ⟨rfl, rfl⟩ S3
        obtain ⟨z, hz, rfl⟩ := get_map hx
        walk_at "go"
        refine ⟨rfl, ?_⟩
        walk_at "go"
        refine if_2 (fun c => ?_) (fun c => ?_)
        · have c := of_decide_eq_true c
          walk_at "go"
          refine c_yes S3 e3 hl3 hj ⟨rfl, ?_⟩
          rw [take_snoc hz, List.map_append, List.map_append]
          show _ = _ ++ [V.int (if z = tv ms p.2 then tv ms p.1 else z)]
          rw [if_pos c]
        · have c := of_decide_eq_false c
          walk_at "go"
          refine c_yes S3 e3 hl3 hj ⟨rfl, ?_⟩
          rw [take_snoc hz, List.map_append, List.map_append]
          show _ = _ ++ [V.int (if z = tv ms p.2 then tv ms p.1 else z)]
          rw [if_neg c]
      · rintro D acc G3 L3 H3 e3 _ ⟨rfl, rfl⟩ S3
        rw [List.length_map, List.take_length] at S3
        obtain ⟨S4, e4, h4⟩ := S3.freeze
        walk_at "go"
        refine ⟨D, _, _, ⟨_, _, _, _, _, rfl⟩, eG.trans (e2.trans (e3.trans e4)), S4, h4, by rw [List.length_map]; exact hlen, fun x y hx hy e q' hq' => ?_⟩
        have hv : ∀ x : Nat, x < n → tv (ms.map fun z => if z = tv ms p.2 then tv ms p.1 else z) (x : Int) = if tv ms (x : Int) = tv ms p.2 then tv ms p.1 else tv ms (x : Int) := fun x hx => tv_get (by rw [List.getElem?_map, get_tv (by omega)] <;> rfl)
        rw [hv x hx, hv y hy] at e
        have hq2 : q' ∈ ks.drop i := by
          rw [← List.drop_drop (i := 1) (j := i)] at hq'
          exact List.mem_of_mem_drop hq'
        have hqm : q' ∈ ks := List.mem_of_mem_drop hq2
        have hqne : p ≠ q' := fun z => by
          subst z
          obtain ⟨hl, ep⟩ := List.getElem?_eq_some_iff.mp hp
          obtain ⟨m, hm, em⟩ := List.mem_iff_getElem.mp hq'
          rw [List.getElem_drop] at em
          have := (List.getElem_inj N.nd).mp (ep.trans em.symm)
          omega
        have hab := (hb q' hqm).2 p hpm hqne
        have ca : ∀ x : Nat, x < n → tv ms (x : Int) = tv ms p.1 → sd q' (x : Int) = sd q' p.1 := fun x hx e => by
          rw [hpa] at e ⊢
          exact hinv x pa hx (by omega) e q' hq2
        have cb : ∀ x : Nat, x < n → tv ms (x : Int) = tv ms p.2 → sd q' (x : Int) = sd q' p.1 := fun x hx e => by
          rw [hab]
          rw [hpb] at e ⊢
          exact hinv x pb hx (by omega) e q' hq2
        by_cases c1 : tv ms (x : Int) = tv ms p.2
        · rw [if_pos c1] at e
          by_cases c2 : tv ms (y : Int) = tv ms p.2
          · rw [cb x hx c1, cb y hy c2]
          · rw [if_neg c2] at e
            rw [cb x hx c1, ca y hy e.symm]
        · rw [if_neg c1] at e
          by_cases c2 : tv ms (y : Int) = tv ms p.2
          · rw [if_pos c2] at e
            rw [ca x hx e, cb y hy c2]
          · rw [if_neg c2] at e
            exact hinv x y hx hy e q' hq2
    · rintro σ' H' ⟨q, ms, G', ⟨x1, x2, x3, x4, x5, rfl⟩, eG, S, _⟩
      walk_at "go"
      exact k _ (eG.trans S.ex)
theorem ok_ring {f : Addr} {fd : FuncData} (F : Fun K "ring_of" "ring_of" s_ring_of f fd) (T : Txt mg) (NC : NetC K C) (c_is_forest : Cal P w K mg base 3 "is_forest" ["network"] [] (spForest C)) : FnOk P w K mg base CX0 4 f fd ["network"] (spNoRing C) := by
  refine F.ok sc_ring_of (fun vs H Q E h => ?_) (fun cdv A outer s H vs Q E hr h => ?_)
  · obtain ⟨a, n, ks, rfl, _⟩ := h
    rfl
  · obtain ⟨a, n, ks, rfl, N, b, k⟩ := h
    refine ⟨_, (pss_cons (ps_if (pt_val (pe_cal c_is_forest (hr.mono (by first | decide | omega)) passN (pa_cons (pv 0) pa_nil))) (pss_one (ps_ret pe_non)) pss_nil)
      (pss_cons ps_never
      (pss_cons ps_never
      (pss_cons ps_never
      (pss_cons ps_never
      (pss_cons ps_never
      (pss_one ps_never))))))), ?_⟩
    walk_at "go"
    refine ⟨a, n, ks, rfl, N, b, fun H1 e1 => ?_⟩
    walk_at "go"
    exact k H1 e1
theorem ok_chkForest {f : Addr} {fd : FuncData} (F : Fun K "check_forest" "check_forest" s_check_forest f fd) (T : Txt mg) (NC : NetC K C) (c_ring_of : Cal P w K mg base 4 "ring_of" ["network"] [] (spNoRing C)) : FnOk P w K mg base CX0 5 f fd ["network"] (spNoRing C) := by
  refine F.ok sc_check_forest (fun vs H Q E h => ?_) (fun cdv A outer s H vs Q E hr h => ?_)
  · obtain ⟨a, n, ks, rfl, _⟩ := h
    rfl
  · obtain ⟨a, n, ks, rfl, N, b, k⟩ := h
    refine ⟨_, (pss_cons (ps_set (i := 1) sc_check_forest.nd rfl (Or.inl rfl) (pe_cal c_ring_of (hr.mono (by first | decide | omega)) passN (pa_cons (pv 0) pa_nil)))
      (pss_one (ps_if (pt_cmpR op_notNone (pv 1) pe_non (nomark _)) (pss_one ps_never) pss_nil))), ?_⟩
    walk_at "go"
    refine ⟨a, n, ks, rfl, N, b, fun H1 e1 => ?_⟩
    walk_at "go"
    refine if_ff (ntrue rfl) ?_
    walk_at "go"
    exact k H1 e1
end
end NX

namespace NX
open PySem PySem.Spec PyProof.Rows L2
open Evl (Ex ex_l ex_t fresh_back)
abbrev s_chain : Stmt := top 23
theorem sc_chain : FnScope ["numbers", "found", "number"] ["numbers"] (defScope s_chain) := ⟨rfl, rfl, rfl, by decide +kernel, rfl, by decide +kernel, by decide +kernel⟩
def spChain (K : PySem.W.Frag) : Sp := fun vs H Q _ => ∃ (p : Addr) (ns : List Int), vs = [.ref p] ∧ SqL K H p (ns.map V.int) ∧ ∀ g H', Ex H H' → IsCh ns g → Q (.int g) H'
theorem n_chain {K : PySem.W.Frag} {G H : Hp} {L : List (Addr × HO)} {p : Addr} {ns : List Int} {Q : VK} {E : XK} (S : Own G L H) (h : SqL K H p (ns.map V.int)) (k : ∀ g H1, Ex H H1 → IsCh ns g → Own G L H1 → Q (.int g) H1) : spChain K [.ref p] H Q E :=
  ⟨p, ns, rfl, h, fun g H' e c => k g H' e c (S.grow e)⟩
section
variable {P : Program} {w : World} {K : PySem.W.Frag} {mg : Str → Option Value} {base : Heap}
theorem ok_chain {f : Addr} {fd : FuncData} (F : Fun K "chain" "chain" s_chain f fd) (T : Txt mg) : FnOk P w K mg base CX0 1 f fd ["numbers"] (spChain K) := by
  refine F.ok sc_chain (fun vs H Q E h => ?_) (fun cdv A outer s H vs Q E hr h => ?_)
  · obtain ⟨p, ns, rfl, _⟩ := h
    rfl
  · obtain ⟨p, ns, rfl, hp, k⟩ := h
    refine ⟨_, (pss_cons (ps_set (i := 1) sc_chain.nd rfl (Or.inl rfl) pe_int)
      (pss_cons (ps_for PassesOwn.never rfl (pi_list (pe_callB cr_sortedI (by rfl) T.n_sorted (by decide +kernel) (pa_cons (pv 0) pa_nil))) (pg_name (i := 2) sc_chain.nd rfl (Or.inl rfl)) (pss_one (ps_if (pt_cmpR op_gt (pv 2) (pv 1) (nomark _)) (pss_one (ps_aug (i := 1) sc_chain.nd rfl (Or.inl rfl) pe_int ip_add)) pss_nil)))
      (pss_one (ps_ret (pv 1))))), ?_⟩
    walk_at "go"
    refine n_sortI (Own.start H) hp fun ms q G1 H1 hpm hs _ e1 _ hq S1 => ?_
    walk_at "go"
    refine w_list (xs := ms.map V.int) (fun i σ' H' => (∃ g x, σ' = [some (.ref p), some (.int g), x] ∧ IsCh (ms.take i) g) ∧ Own G1 [] H') (SqL.of (S1.ex _ _ hq)) ⟨⟨0, _, rfl, IsCh.nil⟩, S1⟩ (fun i σ' H' h => SqL.of (h.2.ex _ _ hq)) ?_ ?_
    · rintro i y σ' H' hy ⟨⟨g, x, rfl, hc⟩, S⟩
      obtain ⟨z, hz, rfl⟩ := get_map hy
      have hc' := IsCh.snoc (x := z) hc fun y hy => by
        obtain ⟨j, hj, e⟩ := List.mem_iff_getElem.mp hy
        have hj' : j < i ∧ j < ms.length := by rw [List.length_take] at hj; omega
        rw [List.getElem_take] at e
        obtain ⟨hi, ez⟩ := List.getElem?_eq_some_iff.mp hz
        have := List.pairwise_iff_getElem.mp hs j i hj'.2 hi hj'.1
        omega
      rw [← take_snoc hz] at hc'
      walk_at "go"
      refine if_2 (fun e => ?_) (fun e => ?_)
      · have e := of_decide_eq_true e
        walk_at "go"
        rw [if_pos e] at hc'
        exact ⟨⟨_, _, rfl, hc'⟩, S⟩
      · have e := of_decide_eq_false e
        walk_at "go"
        rw [if_neg e] at hc'
        exact ⟨⟨_, _, rfl, hc'⟩, S⟩
    · rintro σ' H' ⟨⟨g, x, rfl, hc⟩, S⟩
      rw [List.length_map, List.take_length] at hc
      walk_at "go"
      exact k g _ (e1.trans S.ex) (hc.perm hpm)
end
end NX

namespace NX
open PySem PySem.Spec PyProof.Rows L2
open Evl (Ex ex_l ex_t fresh_back)
/-! ### greatest_channels: the table -/
/-- one step of the table -/
def StepT (n : Nat) (ks : List Pr) (t t' : List Int) : Prop := t'.length = n ∧ ∀ i : Nat, i < n → IsCh ((nb ks (i : Int)).map (tv t)) (tv t' (i : Int) - 1)
def TabF (n : Nat) (ks : List Pr) (t : List Int) : Prop := StepT n ks t t
def LowT (n : Nat) (ks : List Pr) (t : List Int) : Prop := t.length = n ∧ (∀ i : Nat, i < n → 0 ≤ tv t (i : Int)) ∧ ∀ t', StepT n ks t t' → ∀ i : Nat, i < n → tv t' (i : Int) ≤ tv t (i : Int)
theorem nb_nat {n : Nat} {ks : List Pr} (h : Okl n ks) {i x : Int} (m : x ∈ nb ks i) : ∃ j : Nat, x = (j : Int) ∧ j < n := by
  have := nb_rng h m
  exact ⟨x.toNat, by omega, by omega⟩
theorem low_step {n : Nat} {ks : List Pr} {t t' : List Int} (ok : Okl n ks) (h : LowT n ks t) (s : StepT n ks t t') : LowT n ks t' := by
  refine ⟨s.1, fun i hi => by have := (s.2 i hi).1; omega, fun t'' s' i hi => ?_⟩
  have := IsCh.mono (f := tv t') (g := tv t) (List.Sublist.refl _) (fun x hx => by
    obtain ⟨j, rfl, hj⟩ := nb_nat ok hx
    exact h.2.2 t' s j hj) (s'.2 i hi) (s.2 i hi)
  omega
theorem low_sum {n : Nat} {ks : List Pr} {t t' : List Int} (h : LowT n ks t) (s : StepT n ks t t') : 0 ≤ t'.sum ∧ t'.sum ≤ t.sum ∧ (t' ≠ t → t'.sum < t.sum) := by
  have z := sum_le (s := t') (t := t) (s.1.trans h.1.symm) fun i hi => h.2.2 t' s i (by have := s.1; omega)
  exact ⟨sum_nn fun i hi => by have := (s.2 i (by have := s.1; omega)).1; omega, z⟩
theorem low_start {n : Nat} {ks : List Pr} {t : List Int} (h : t.length = n) (e : ∀ i : Nat, i < n → tv t (i : Int) = ((nb ks (i : Int)).length : Int) + 1) : LowT n ks t :=
  ⟨h, fun i hi => by rw [e i hi]; omega, fun t' s i hi => by
    have := (s.2 i hi).le_len
    rw [List.length_map] at this
    rw [e i hi]
    omega⟩
theorem TabF.tab {n : Nat} {ks : List Pr} {t : List Int} (h : TabF n ks t) : Tab (fun v : Int => 0 ≤ v ∧ v < (n : Int)) (nb ks) (tv t) := fun v ⟨h1, h2⟩ => by
  obtain ⟨i, rfl⟩ : ∃ i : Nat, v = (i : Int) := ⟨v.toNat, by omega⟩
  exact h.2 i (by omega)
theorem TabF.uniq {n : Nat} {ks : List Pr} {s t : List Int} (ok : Okl n ks) (h : TabF n ks s) (h' : TabF n ks t) : s = t := by
  have a := tab_le h.tab h'.tab id (fun v hv => hv) (fun v _ u hu => by have := nb_rng ok hu; omega) (fun v _ => ⟨_, List.Perm.refl _, by rw [List.map_id]; exact List.Sublist.refl _⟩)
  have b := tab_le h'.tab h.tab id (fun v hv => hv) (fun v _ u hu => by have := nb_rng ok hu; omega) (fun v _ => ⟨_, List.Perm.refl _, by rw [List.map_id]; exact List.Sublist.refl _⟩)
  refine tv_ext (h.1.trans h'.1.symm) fun i hi => ?_
  have hi' : i < n := by have := h.1; omega
  have c := a (i : Int) ⟨by omega, by omega⟩
  have d := b (i : Int) ⟨by omega, by omega⟩
  simp only [id] at c d
  omega
abbrev s_greatest_channels : Stmt := top 24
theorem sc_greatest_channels : FnScope ["network", "table", "lowered", "later", "station", "one"] ["network"] (defScope s_greatest_channels) := ⟨rfl, rfl, rfl, by decide +kernel, rfl, by decide +kernel, by decide +kernel⟩
def spGC (C : Addr) : Sp := fun vs H Q _ => ∃ (a : Addr) (n : Nat) (ks : List Pr), vs = [.ref a] ∧ NetAt C H a n ks ∧ ∀ t, TabF n ks t → Ret (.tup (t.map V.int)) H Q
theorem n_gc {C : Addr} {G H : Hp} {L : List (Addr × HO)} {a : Addr} {n : Nat} {ks : List Pr} {Q : VK} {E : XK} (S : Own G L H) (N : NetAt C G a n ks)
    (k : ∀ t p G1 H1, TabF n ks t → H p = none → Ex G G1 → Ex H H1 → G1 p = some (.tup (t.map V.int)) → Own G1 L H1 → Q (.ref p) H1) : spGC C [.ref a] H Q E :=
  ⟨a, n, ks, rfl, N.mono S.ex, fun t ht => n_retG S fun p G1 H1 => k t p G1 H1 ht⟩
section
variable {P : Program} {w : World} {K : PySem.W.Frag} {mg : Str → Option Value} {base : Heap}
theorem ok_gc {f C : Addr} {fd : FuncData} (F : Fun K "greatest_channels" "greatest_channels" s_greatest_channels f fd) (T : Txt mg) (NC : NetC K C) (c_chain : Cal P w K mg base 1 "chain" ["numbers"] [] (spChain K))
    (M_len : Mth P w K mg base 1 C "__len__" ["self"] (spLen C)) : FnOk P w K mg base CX0 3 f fd ["network"] (spGC C) := by
  refine F.ok sc_greatest_channels (fun vs H Q E h => ?_) (fun cdv A outer s H vs Q E hr h => ?_)
  · obtain ⟨a, n, ks, rfl, _⟩ := h
    rfl
  · obtain ⟨a, n, ks, rfl, N, k⟩ := h
    have hu65 : ∀ X : Cx, X.A = A.deeper (envOfC "greatest_channels" (defScope s_greatest_channels) s.heap.objs.size f cdv) → X.A.units + 65 < cLine := fun X e => by rw [e]; have := hr.un; omega
    obtain ⟨dx, kp, np, xs, nps, o⟩ := N.at_
    have ok := N.ok
    have hn := N.sz
    refine ⟨_, (pss_cons (ps_set (i := 1) sc_greatest_channels.nd rfl (Or.inr rfl) (pe_lc (own := [("station", 4)]) (by rfl) sc_greatest_channels.nd (pi_range1 (by rfl) T.n_range (pa_cons (pe_callB (call_lenNet NC M_len (hr.mono (by first | decide | omega))) (by rfl) T.n_len (by decide +kernel) (pa_cons (pv 0) pa_nil)) pa_nil)) (blkOk_by (own := [("station", 4)]) (N := ["network", "table", "lowered", "later", "station", "one"]) (sc := defScope s_greatest_channels) (by decide +kernel)) (fun _ _ _ _ _ => (pg_name (i := 4) sc_greatest_channels.nd rfl (Or.inl rfl))) (fun _ _ _ _ _ => pts_nil) (fun _ _ _ _ _ => (pe_op op_add (pe_callB (call_lenK (K := K)) (by rfl) T.n_len (by decide +kernel) (pa_cons (pe_ix (ix_listK (K := K)) (pe_fldK (K := K) (pv 0) rfl) (pv 4) (fun _ _ => rfl)) pa_nil)) pe_int))))
      (pss_cons (ps_set (i := 2) sc_greatest_channels.nd rfl (Or.inl rfl) pe_bl)
      (pss_cons (ps_while PassesOwn.never (pt_val (pv 2)) (pss_cons (ps_setLc (i := 3) (own := [("station", 4)]) (by rfl) sc_greatest_channels.nd rfl rfl (sw_true rfl rfl rfl (by decide +kernel)) (pi_range1 (by rfl) T.n_range (pa_cons (pe_callB (call_lenNet NC M_len (hr.mono (by first | decide | omega))) (by rfl) T.n_len (by decide +kernel) (pa_cons (pv 0) pa_nil)) pa_nil)) (blkOk_by (own := [("station", 4)]) (N := ["network", "table", "lowered", "later", "station", "one"]) (sc := defScope s_greatest_channels) (by decide +kernel)) (fun _ _ _ _ _ => (pg_name (i := 4) sc_greatest_channels.nd rfl (Or.inl rfl))) (fun _ _ _ _ _ => pts_nil) (fun _ _ _ _ _ => (pe_op op_add pe_int (pe_cal c_chain (hr.mono (by first | decide | omega)) passN (pa_cons (pe_lc (own := [("one", 5)]) (by rfl) sc_greatest_channels.nd (pi_listK (K := K) (pe_ix (ix_listK (K := K)) (pe_fldK (K := K) (pv 0) rfl) (pv 4) (fun _ _ => rfl))) (blkOk_by (own := [("one", 5)]) (by first | decide +kernel | kernel_rfl)) (fun _ _ _ _ _ => (pg_name (i := 5) sc_greatest_channels.nd rfl (Or.inl rfl))) (fun _ _ _ _ _ => pts_nil) (fun _ _ _ _ _ => (pe_ix (ix_listK (K := K)) (pv 1) (pv 5) (fun _ _ => rfl)))) pa_nil)))))
      (pss_cons (ps_set (i := 2) sc_greatest_channels.nd rfl (Or.inl rfl) (pe_cmpR (op_neD (Nat.lt_of_succ_lt (hu65 _ rfl))) (pv 3) (pv 1) (nomark _)))
      (pss_one (ps_set (i := 1) sc_greatest_channels.nd rfl (Or.inr rfl) (pv 3))))))
      (pss_one (ps_ret (pe_callTy call_tupN (by rfl) T.n_tuple (by decide +kernel) (pa_cons (pv 1) pa_nil))))))), ?_⟩
    walk_at "go"
    refine n_lenNet N ?_
    walk_at "go"
    refine v_rng1 (j := (n : Int)) (fun i acc G' L' => L' = [] ∧ ∃ c : List Int, c.length = i ∧ acc = c.map V.int ∧ ∀ j : Nat, j < i → tv c (j : Int) = ((nb ks (j : Int)).length : Int) + 1) (Own.start H) (by omega) ⟨rfl, [], rfl, rfl, fun j hj => absurd hj (Nat.not_lt_zero j)⟩ ?_ ?_
    · rintro D i acc G' L' H1 hi hi' e1 hl1 ⟨rfl, c, hc, rfl, hv⟩ S1
      obtain ⟨p, hp⟩ : ∃ p, nps[i]? = some p := ⟨_, List.getElem?_eq_getElem (by have := o.len; omega)⟩
      walk_at "go"
      refine ⟨rfl, ?_⟩
      walk_at "go"
      refine n_fld (S1.ex _ _ (e1 _ _ o.ins)) NC.cl NC.nN (nf_near kp np) ?_
      walk_at "go"
      refine g_ixL (SqL.of (S1.ex _ _ (e1 _ _ o.near))) (atI_nat (j := i) (v := .ref p) (by rw [List.getElem?_map, hp] <;> rfl)) ?_
      walk_at "go"
      refine n_len (SqL.of (S1.ex _ _ (e1 _ _ (o.each i p hp)))) ?_
      walk_at "go"
      refine c_yes S1 e1 hl1 hi' ⟨rfl, c ++ [((nb ks (i : Int)).length : Int) + 1], by rw [List.length_append, hc] <;> rfl, by rw [List.map_append, List.length_map] <;> rfl, fun j hj => ?_⟩
      by_cases e : j = i
      · subst e
        rw [← hc, tv_app2]
      · rw [tv_app1 (by omega) (by omega)]
        exact hv j (by omega)
    · rintro p acc G1 L1 H1 e1 _ ⟨rfl, t0, hlen, rfl, hv⟩ S1
      have hlen : t0.length = n := by omega
      have low0 : LowT n ks t0 := low_start hlen fun i hi => hv i (by omega)
      obtain ⟨S2, e2, hp2⟩ := S1.freeze
      generalize upd G1 p (.lst (t0.map V.int)) = G2 at S2 e2 hp2
      walk_at "go"
      refine s_while (fun m σ' H' => ∃ (q : Addr) (t : List Int) (low : Bool) (G' : Hp), (∃ x1 x2 x3, σ' = [some (.ref a), some (.ref q), some (.bl low), x1, x2, x3]) ∧ m = (if low then t.sum.toNat + 1 else 0) ∧ LowT n ks t ∧ (low = false → TabF n ks t) ∧
        Ex H G' ∧ Own G' [] H' ∧ G' q = some (.lst (t.map V.int))) _ ⟨p, t0, true, G2, ⟨_, _, _, rfl⟩, rfl, low0, (fun h => by cases h), e1.trans e2, S2, hp2⟩ ?_
      rintro m σ' H' ⟨q, t, low, G', ⟨x1, x2, x3, rfl⟩, rfl, hlow, hfin, eG, S, hq⟩
      have o' := (o.mono eG).mono S.ex
      walk_at "go"
      refine if_2 (fun e => ?_) (fun e => ?_)
      · subst e
        refine s_turn ?_
        walk_at "go"
        refine n_lenNet (N.mono (eG.trans S.ex)) ?_
        walk_at "go"
        refine v_rng1 (j := (n : Int)) (fun i acc G5 L' => L' = [] ∧ ∃ c : List Int, c.length = i ∧ acc = c.map V.int ∧ ∀ j : Nat, j < i → IsCh ((nb ks (j : Int)).map (tv t)) (tv c (j : Int) - 1)) S (by omega) ⟨rfl, [], rfl, rfl, fun j hj => absurd hj (Nat.not_lt_zero j)⟩ ?_ ?_
        · rintro D i acc G5 L' H5 hi hi' e5 hl5 ⟨rfl, c, hc, rfl, hv5⟩ S5
          obtain ⟨pi, hpi⟩ : ∃ p, nps[i]? = some p := ⟨_, List.getElem?_eq_getElem (by have := o.len; omega)⟩
          have o5 := (o.mono eG).mono e5
          have o5H := o5.mono S5.ex
          walk_at "go"
          refine ⟨rfl, ?_⟩
          walk_at "go"
          refine n_fld o5H.ins NC.cl NC.nN (nf_near kp np) ?_
          walk_at "go"
          refine g_ixL (SqL.of o5H.near) (atI_nat (j := i) (v := .ref pi) (by rw [List.getElem?_map, hpi] <;> rfl)) ?_
          have hz : (nb ks (i : Int)).length ≤ 1000000 := by
            have z := I_len ok N.up N.nd (i : Int)
            omega
          refine v_list (xs := (nb ks (i : Int)).map V.int) (fun j acc6 G6 L6 => L6 = [(D, .lst (c.map V.int))] ∧ acc6 = (((nb ks (i : Int)).take j).map (tv t)).map V.int) S5 (SqL.of (o5.each i pi hpi)) (by rw [List.length_map]; exact hz) ⟨rfl, rfl⟩ ?_ ?_
          · rintro D6 j x acc6 G6 L6 H6 hx hj e6 hl6 ⟨rfl, rfl⟩ S6
            obtain ⟨y, hy, rfl⟩ := get_map hx
            obtain ⟨y', rfl, hy'⟩ := nb_nat ok (List.mem_of_getElem? hy)
            walk_at "go"
            refine ⟨rfl, ?_⟩
            walk_at "go"
            refine g_ixL (SqL.of (S6.ex _ _ (e6 _ _ (e5 _ _ hq)))) (at_tv (by omega) (by have := hlow.1; omega)) ?_
            exact c_yes S6 e6 hl6 hj ⟨rfl, by rw [take_snoc hy, List.map_append, List.map_append] <;> rfl⟩
          · rintro p6 acc6 G6 L6 H6 e6 _ ⟨rfl, rfl⟩ S6
            rw [List.length_map, List.take_length] at S6
            walk_at "go"
            refine n_chain S6.forget S6.l0 fun g H7 e7 hch S7 => ?_
            walk_at "go"
            refine c_yes S7 (e5.trans e6) hl5 hi' ⟨rfl, c ++ [1 + g], by rw [List.length_append, hc] <;> rfl, by rw [List.map_append] <;> rfl, fun j hj => ?_⟩
            by_cases e : j = i
            · subst e
              rw [← hc, tv_app2, hc]
              have z : 1 + g - 1 = g := by omega
              rw [z]
              exact hch
            · rw [tv_app1 (by omega) (by omega)]
              exact hv5 j (by omega)
        · rintro p5 acc G5 L5 H5 e5 _ ⟨rfl, c, hc, rfl, hv5⟩ S5
          have hst : StepT n ks t c := ⟨by omega, fun i hi => hv5 i (by omega)⟩
          obtain ⟨S6, e6, hp6⟩ := S5.freeze
          generalize upd G5 p5 (.lst (c.map V.int)) = G6 at S6 e6 hp6
          walk_at "go"
          refine n_neIL (SqL.of (S6.ex _ _ hp6)) (SqL.of (S6.ex _ _ (e6 _ _ (e5 _ _ hq)))) ?_
          walk_at "go"
          have hs := low_sum hlow hst
          have hlow' := low_step ok hlow hst
          have eG6 := (eG.trans e5).trans e6
          by_cases ec : c = t
          · refine ⟨_, ?_, p5, c, !decide (c = t), G6, ⟨_, _, _, rfl⟩, rfl, hlow', fun _ => by rw [← ec] at hst; exact hst, eG6, S6, hp6⟩
            rw [decide_eq_true ec]
            show 0 < t.sum.toNat + 1
            omega
          · refine ⟨_, ?_, p5, c, !decide (c = t), G6, ⟨_, _, _, rfl⟩, rfl, hlow', (fun h => by rw [decide_eq_false ec] at h; cases h), eG6, S6, hp6⟩
            rw [decide_eq_false ec]
            show c.sum.toNat + 1 < t.sum.toNat + 1
            have := hs.2.2 ec
            omega
      · walk_at "go"
        refine n_tupL S (SqL.of (S.ex _ _ hq)) fun r G7 H7 hr7 e7 e7' h7 S7 => ?_
        exact k t (hfin e) r H7 (fresh_back (eG.trans S.ex) hr7) (eG.trans (S.ex.trans e7')) (S7.ex _ _ h7)
end
end NX

namespace NX
open PySem PySem.Spec PyProof.Rows L2
open Evl (Ex ex_l ex_t fresh_back)
theorem hu1 {n : Nat} (h : n + 65 < cLine) : n + 1 < cLine := by omega
/-! ### comprehensions of two loops: the outer one over a range, the inner one over a list -/
/-- the inner loop: what it asks of J1 at H4; Nx: the outer loop's next turn -/
def LCIN (J1 : It) (g1 : TG) (tt1 : TT) (te : TE) (vs1 : List Nat) (σ2 : L2.St) (D : Addr) (Nx : Hp → Prop) (H4 : Hp) : Prop := ∃ W1 : Nat → Nat → Hp → Prop, (∃ m, W1 0 m H4) ∧ ∀ j k H, W1 j k H →
  (J1.stop j H ∧ Nx H) ∨ (J1.go j H ∧ ∃ Nx1 : Hp → Prop, (∀ H', Nx1 H' → ∃ k', k' < k ∧ W1 (j + 1) k' H') ∧ ∀ x H', J1.yld j H x H' → g1 x (wipe σ2 vs1) H' fun σ3 H5 => wipe σ3 vs1 = wipe σ2 vs1 ∧ tt1 σ3 H5 fun b H6 =>
    if b = true then te σ3 H6 fun y H7 => ∃ acc, H7 D = some (.lst acc) ∧ acc.length < sizeLine ∧ Nx1 (upd H7 D (.lst (acc ++ [y]))) else Nx1 H6)
def LCJ2 (J : It) (g : TG) (tt : TT) (wi1 : TI) (g1 : TG) (tt1 : TT) (te : TE) (vs vs1 : List Nat) (σ : L2.St) (H1 : Hp) (Q : VK) : Prop := ∀ D, H1 D = none → ∃ W : Nat → Nat → Hp → Prop, (∃ m, W 0 m (upd H1 D (.lst []))) ∧ ∀ i m H, W i m H →
  (J.stop i H ∧ Q (.ref D) H) ∨ (J.go i H ∧ ∃ Nx : Hp → Prop, (∀ H', Nx H' → ∃ m', m' < m ∧ W (i + 1) m' H') ∧ ∀ x H', J.yld i H x H' → g x (wipe σ vs) H' fun σ2 H2 => wipe σ2 vs = wipe σ vs ∧ tt σ2 H2 fun b H3 =>
    if b = true then wi1 σ2 H3 fun J1 H4 => LCIN J1 g1 tt1 te vs1 σ2 D Nx H4 else Nx H3)
theorem g_lc2 {wi wi1 : TI} {g g1 : TG} {tt tt1 : TT} {te : TE} {vs vs1 : List Nat} {σ : L2.St} {H : Hp} {Q : VK} (k : wi σ H fun J H1 => LCJ2 J g tt wi1 g1 tt1 te vs vs1 σ H1 Q) : tLc2 wi g tt wi1 g1 tt1 te vs vs1 σ H Q := k
section
variable {K : PySem.W.Frag} {σ σ2 : L2.St} {G H : Hp} {L : List (Addr × HO)} {te : TE} {tt tt1 : TT} {g g1 : TG} {wi1 : TI} {vs vs1 : List Nat} {Q : VK} {D a : Addr} {acc ys : List V} {Nx : Hp → Prop}
theorem v2_rng1 {j : Int} (F : Nat → List V → Hp → List (Addr × HO) → Prop) (S : Own G L H) (hj : 0 ≤ j ∧ j ≤ 1000000) (h0 : F 0 [] G L)
    (hs : ∀ D (i : Nat) acc G1 L1 H1, (i : Int) < j → Ex G G1 → F i acc G1 L1 → Own G1 ((D, .lst acc) :: L1) H1 → g (.int (i : Int)) (wipe σ vs) H1 fun σ2 H2 => wipe σ2 vs = wipe σ vs ∧ tt σ2 H2 fun b H3 =>
      if b = true then wi1 σ2 H3 fun J1 H4 => LCIN J1 g1 tt1 te vs1 σ2 D (fun H' => ∃ acc G2 L2, Ex G G2 ∧ F (i + 1) acc G2 L2 ∧ Own G2 ((D, .lst acc) :: L2) H') H4 else ∃ acc G2 L2, Ex G G2 ∧ F (i + 1) acc G2 L2 ∧ Own G2 ((D, .lst acc) :: L2) H3)
    (hd : ∀ p acc G1 L1 H1, Ex G G1 → F j.toNat acc G1 L1 → Own G1 ((p, .lst acc) :: L1) H1 → Q (.ref p) H1) :
    ∃ j' : Int, [V.int j] = [.int j'] ∧ -(2 ^ 62) ≤ j' ∧ j' < 2 ^ 62 ∧ LCJ2 (Itr 0 j'.toNat) g tt wi1 g1 tt1 te vs vs1 σ H Q := by
  refine ⟨j, rfl, by omega, by omega, fun D hD => ⟨fun i m H => m = j.toNat - i ∧ i ≤ j.toNat ∧ ∃ acc G2 L2, Ex G G2 ∧ F i acc G2 L2 ∧ Own G2 ((D, .lst acc) :: L2) H, ⟨_, rfl, Nat.zero_le _, [], G, L, Ex.refl G, h0, S.lay hD⟩, ?_⟩⟩
  rintro i m H1 ⟨rfl, hi, acc, G1, L1, e, f, S1⟩
  by_cases c : i < j.toNat
  · refine .inr ⟨c, fun H' => ∃ acc G2 L2, Ex G G2 ∧ F (i + 1) acc G2 L2 ∧ Own G2 ((D, .lst acc) :: L2) H', fun H' p => ⟨j.toNat - (i + 1), by omega, rfl, c, p⟩, fun x H' hx => ?_⟩
    obtain ⟨e1, e2⟩ := hx
    subst e1
    have z : x = .int (i : Int) := by
      have e2' : x = V.int (0 + (i : Int)) := e2
      rw [e2', Int.zero_add]
    rw [z]
    exact hs D i acc G1 L1 _ (by omega) e f S1
  · have ei : i = j.toNat := by omega
    subst ei
    exact .inl ⟨Nat.le_refl _, hd D acc G1 L1 H1 e f S1⟩
theorem v2_list (F : Nat → List V → Hp → List (Addr × HO) → Prop) (S : Own G ((D, .lst acc) :: L) H) (hx : SqL K G a ys) (h0 : F 0 acc G L)
    (hs : ∀ i y acc G1 L1 H1, ys[i]? = some y → Ex G G1 → F i acc G1 L1 → Own G1 ((D, .lst acc) :: L1) H1 → g1 y (wipe σ2 vs1) H1 fun σ3 H2 => wipe σ3 vs1 = wipe σ2 vs1 ∧ tt1 σ3 H2 fun b H3 =>
      if b = true then te σ3 H3 fun z H4 => ∃ acc, H4 D = some (.lst acc) ∧ acc.length < sizeLine ∧ ∃ acc' G2 L2, Ex G G2 ∧ F (i + 1) acc' G2 L2 ∧ Own G2 ((D, .lst acc') :: L2) (upd H4 D (.lst (acc ++ [z]))) else ∃ acc' G2 L2, Ex G G2 ∧ F (i + 1) acc' G2 L2 ∧ Own G2 ((D, .lst acc') :: L2) H3)
    (hd : ∀ acc G1 L1 H1, Ex G G1 → F ys.length acc G1 L1 → Own G1 ((D, .lst acc) :: L1) H1 → Nx H1) :
    ∃ p, V.ref a = .ref p ∧ (∃ xs, SqL K H p xs) ∧ LCIN (Itl K p) g1 tt1 te vs1 σ2 D Nx H := by
  refine ⟨a, rfl, ⟨ys, S.sl hx⟩, fun i m H => m = ys.length - i ∧ i ≤ ys.length ∧ ∃ acc G2 L2, Ex G G2 ∧ F i acc G2 L2 ∧ Own G2 ((D, .lst acc) :: L2) H, ⟨_, rfl, Nat.zero_le _, acc, G, L, Ex.refl G, h0, S⟩, ?_⟩
  rintro i m H1 ⟨rfl, hi, acc, G1, L1, e, f, S1⟩
  have q := S1.sl (ex_l e hx)
  by_cases c : i < ys.length
  · refine .inr ⟨⟨ys, ys[i], q, List.getElem?_eq_getElem c⟩, fun H' => ∃ acc G2 L2, Ex G G2 ∧ F (i + 1) acc G2 L2 ∧ Own G2 ((D, .lst acc) :: L2) H', fun H' p => ⟨ys.length - (i + 1), by omega, rfl, c, p⟩, fun x H' hx' => ?_⟩
    obtain ⟨e1, e2⟩ := hx'
    subst e1
    exact hs i x acc G1 L1 _ (e2 ys q) e f S1
  · have ei : i = ys.length := by omega
    subst ei
    exact .inl ⟨⟨ys, q, Nat.le_refl _⟩, hd acc G1 L1 H1 e f S1⟩
theorem c2_yes {F : Nat → List V → Hp → List (Addr × HO) → Prop} {i : Nat} {G1 : Hp} {L1 : List (Addr × HO)} {z : V} (S : Own G1 ((D, .lst acc) :: L1) H) (e : Ex G G1) (hl : acc.length ≤ 1000000) (f : F (i + 1) (acc ++ [z]) G1 L1) :
    ∃ acc, H D = some (.lst acc) ∧ acc.length < sizeLine ∧ ∃ acc' G2 L2, Ex G G2 ∧ F (i + 1) acc' G2 L2 ∧ Own G2 ((D, .lst acc') :: L2) (upd H D (.lst (acc ++ [z]))) :=
  ⟨acc, S.get0, smallL (Nat.le_trans hl (by decide)), acc ++ [z], G1, L1, e, f, S.put0⟩
end
end NX

namespace NX
open PySem PySem.Spec PyProof.Rows L2
open Evl (Ex ex_l ex_t fresh_back)
/-! ### branches, greatest_by_order -/
def keyP (q : Pr) : List L2.Key := [Sum.inl q.1, Sum.inl q.2]
theorem keyP_inj {p q : Pr} (h : keyP p = keyP q) : p = q := by
  unfold keyP at h
  simp only [List.cons.injEq, Sum.inl.injEq, and_true] at h
  exact Prod.ext h.1 h.2
theorem keyP_tup (q : Pr) : (keyP q).map kV = [.int q.1, .int q.2] := rfl
/-- the directed links, in an order in which each comes behind those below it -/
def OrdM (ks : List Pr) : Prop := ∃ m : Int → Int → Nat, ∀ one above other, above ∈ nb ks one → other ∈ nb ks one → other ≠ above → m other one < m one above
def belowL (ks : List Pr) (q : Pr) : List Int := (nb ks q.1).filter fun o => !decide (o = q.2)
def BrF (ks : List Pr) (f : Int → Int → Int) : Prop := ∀ one above, above ∈ nb ks one → IsCh ((belowL ks (one, above)).map fun o => f o one) (f one above - 1)
def KnD (kvs : List (List L2.Key × V)) (ks : List Pr) (f : Int → Int → Int) : Prop := BrF ks f ∧ ∀ one above, above ∈ nb ks one → valV kvs (keyP (one, above)) = some (.int (f one above))
def dvl (kvs : List (List L2.Key × V)) (q : Pr) : Int := match valV kvs (keyP q) with
  | some (.int i) => i
  | _ => 0
/-- what the dict holds between the turns -/
structure BrS (ks : List Pr) (kvs : List (List L2.Key × V)) (kn : List Pr) : Prop where
  mem : ∀ q ∈ kn, q.2 ∈ nb ks q.1
  val : ∀ q, q ∈ kn → valV kvs (keyP q) = some (.int (dvl kvs q))
  out : ∀ q : Pr, q ∉ kn → valV kvs (keyP q) = none
  dn : ∀ q ∈ kn, ∀ o ∈ belowL ks q, (o, q.1) ∈ kn
  ch : ∀ q ∈ kn, IsCh ((belowL ks q).map fun o => dvl kvs (o, q.1)) (dvl kvs q - 1)
theorem dvl_of {kvs : List (List L2.Key × V)} {q : Pr} {i : Int} (h : valV kvs (keyP q) = some (.int i)) : dvl kvs q = i := by unfold dvl; rw [h]
theorem BrS.put {ks : List Pr} {kvs : List (List L2.Key × V)} {kn : List Pr} (h : BrS ks kvs kn) {q : Pr} {g : Int} (hq : q.2 ∈ nb ks q.1) (hb : ∀ o ∈ belowL ks q, (o, q.1) ∈ kn) (hg : IsCh ((belowL ks q).map fun o => dvl kvs (o, q.1)) g) : BrS ks (putK kvs (keyP q) (.int (1 + g))) (q :: kn) := by
  have hv : ∀ p : Pr, valV (putK kvs (keyP q) (.int (1 + g))) (keyP p) = if p = q then some (.int (1 + g)) else valV kvs (keyP p) := fun p => by
    rw [valV_put]
    by_cases e : p = q
    · rw [if_pos (by rw [e]), if_pos e]
    · rw [if_neg fun z => e (keyP_inj z), if_neg e]
  have hold : ∀ p ∈ kn, dvl (putK kvs (keyP q) (.int (1 + g))) p = dvl kvs p := fun p hp => by
    by_cases e : p = q
    · subst e
      have z := (h.ch p hp).uniq hg
      have z2 := dvl_of ((hv p).trans (if_pos rfl))
      omega
    · exact dvl_of (((hv p).trans (if_neg e)).trans (h.val p hp))
  have hnew : dvl (putK kvs (keyP q) (.int (1 + g))) q = 1 + g := dvl_of ((hv q).trans (if_pos rfl))
  have hmap : ∀ p : Pr, (∀ o ∈ belowL ks p, (o, p.1) ∈ kn) → (belowL ks p).map (fun o => dvl (putK kvs (keyP q) (.int (1 + g))) (o, p.1)) = (belowL ks p).map fun o => dvl kvs (o, p.1) := fun p hp => List.map_congr_left fun o ho => hold _ (hp o ho)
  refine ⟨fun p hp => ?_, fun p hp => ?_, fun p hp => ?_, fun p hp o ho => ?_, fun p hp => ?_⟩
  · rcases List.mem_cons.mp hp with rfl | hp
    · exact hq
    · exact h.mem p hp
  · by_cases e : p = q
    · subst e
      rw [hv, if_pos rfl, hnew]
    · have hp' := (List.mem_cons.mp hp).resolve_left e
      rw [hv, if_neg e, hold p hp']
      exact h.val p hp'
  · have e : p ≠ q := fun z => hp (z ▸ List.mem_cons_self)
    rw [hv, if_neg e]
    exact h.out p fun z => hp (List.mem_cons_of_mem _ z)
  · rcases List.mem_cons.mp hp with rfl | hp
    · exact List.mem_cons_of_mem _ (hb o ho)
    · exact List.mem_cons_of_mem _ (h.dn p hp o ho)
  · by_cases e : p = q
    · subst e
      rw [hmap p hb, hnew]
      have z : 1 + g - 1 = g := by omega
      rw [z]
      exact hg
    · have hp' := (List.mem_cons.mp hp).resolve_left e
      rw [hmap p (h.dn p hp'), hold p hp']
      exact h.ch p hp'
theorem mem_below {ks : List Pr} {q : Pr} {o : Int} : o ∈ belowL ks q ↔ o ∈ nb ks q.1 ∧ o ≠ q.2 := by
  unfold belowL
  rw [List.mem_filter]
  simp
end NX

namespace NX
/-! ### rooted networks without rings -/
/-- each station has at most one neighbour of smaller index -/
structure Rt (ks : List Pr) (idx : Int → Nat) (N : Nat) : Prop where
  ne : ∀ i j : Int, j ∈ nb ks i → idx i ≠ idx j
  one : ∀ v a b : Int, a ∈ nb ks v → b ∈ nb ks v → idx a < idx v → idx b < idx v → a = b
  top : ∀ i : Int, idx i ≤ N
theorem Rt.ord {ks : List Pr} {idx : Int → Nat} {N : Nat} (h : Rt ks idx N) : OrdM ks := by
  refine ⟨fun one above => if idx above < idx one then N - idx one else N + idx one + 1, fun one above other ha ho hne => ?_⟩
  have h1 := h.ne one above ha
  have h2 := h.ne one other ho
  have t1 := h.top one
  have t2 := h.top other
  have t3 := h.top above
  show (if idx one < idx other then N - idx other else N + idx other + 1) < if idx above < idx one then N - idx one else N + idx one + 1
  by_cases c : idx above < idx one
  · have c2 : idx one < idx other := by
      by_cases z : idx other < idx one
      · exact absurd (h.one one other above ho ha z c) hne
      · omega
    rw [if_pos c, if_pos c2]
    omega
  · rw [if_neg c]
    split <;> omega
/-- the neighbour of smaller index -/
def par (ks : List Pr) (idx : Int → Nat) (x : Int) : Option Int := (nb ks x).find? fun p => decide (idx p < idx x)
theorem par_some {ks : List Pr} {idx : Int → Nat} {x p : Int} (h : par ks idx x = some p) : p ∈ nb ks x ∧ idx p < idx x := by
  unfold par at h
  have h1 := List.find?_some h
  exact ⟨List.mem_of_find?_eq_some h, of_decide_eq_true h1⟩
theorem par_is {ks : List Pr} {idx : Int → Nat} {N : Nat} (h : Rt ks idx N) {x p : Int} (hp : p ∈ nb ks x) (lt : idx p < idx x) : par ks idx x = some p := by
  cases e : par ks idx x with
  | none =>
    unfold par at e
    have := List.find?_eq_none.mp e p hp
    simp [lt] at this
  | some q =>
    obtain ⟨h1, h2⟩ := par_some e
    rw [h.one x q p h1 hp h2 lt]
/-- c is x or above it -/
def anc (ks : List Pr) (idx : Int → Nat) (c : Int) : Nat → Int → Bool
  | 0, x => decide (x = c)
  | k + 1, x => decide (x = c) || match par ks idx x with
    | some p => anc ks idx c k p
    | none => false
theorem anc_stab {ks : List Pr} {idx : Int → Nat} {c : Int} : ∀ (k : Nat) (x : Int), idx x ≤ k → anc ks idx c (k + 1) x = anc ks idx c k x
  | 0, x, h => by
    show (decide (x = c) || match par ks idx x with | some p => anc ks idx c 0 p | none => false) = decide (x = c)
    cases e : par ks idx x with
    | none => simp
    | some p =>
      have := (par_some e).2
      omega
  | k + 1, x, h => by
    show (decide (x = c) || match par ks idx x with | some p => anc ks idx c (k + 1) p | none => false) = (decide (x = c) || match par ks idx x with | some p => anc ks idx c k p | none => false)
    cases e : par ks idx x with
    | none => rfl
    | some p =>
      have := (par_some e).2
      show (decide (x = c) || anc ks idx c (k + 1) p) = (decide (x = c) || anc ks idx c k p)
      rw [anc_stab k p (by omega)]
theorem anc_more {ks : List Pr} {idx : Int → Nat} {c x : Int} {k : Nat} (h : idx x ≤ k) : anc ks idx c k x = anc ks idx c (idx x) x := by
  induction k with
  | zero =>
    have : idx x = 0 := by omega
    rw [this]
  | succ k ih =>
    by_cases e : idx x = k + 1
    · rw [e]
    · rw [anc_stab k x (by omega), ih (by omega)]
/-- x stands below c (or is it) -/
def dsc (ks : List Pr) (idx : Int → Nat) (c x : Int) : Bool := anc ks idx c (idx x) x
theorem dsc_self (ks : List Pr) (idx : Int → Nat) (c : Int) : dsc ks idx c c = true := by
  unfold dsc
  cases idx c with
  | zero => simp [anc]
  | succ k => simp [anc]
theorem dsc_step {ks : List Pr} {idx : Int → Nat} {N : Nat} (h : Rt ks idx N) {c x p : Int} (hp : p ∈ nb ks x) (lt : idx p < idx x) (ne : x ≠ c) : dsc ks idx c x = dsc ks idx c p := by
  have e := par_is h hp lt
  obtain ⟨k, hk⟩ : ∃ k, idx x = k + 1 := ⟨idx x - 1, by omega⟩
  unfold dsc
  rw [hk]
  show (decide (x = c) || match par ks idx x with | some p => anc ks idx c k p | none => false) = _
  rw [e, decide_eq_false ne]
  show (false || anc ks idx c k p) = _
  rw [Bool.false_or, anc_more (by omega)]
theorem dsc_low {ks : List Pr} {idx : Int → Nat} {c : Int} : ∀ (k : Nat) (x : Int), idx x < idx c → anc ks idx c k x = false
  | 0, x, h => decide_eq_false fun e => by rw [e] at h; omega
  | k + 1, x, h => by
    show (decide (x = c) || match par ks idx x with | some p => anc ks idx c k p | none => false) = false
    rw [decide_eq_false (fun e => by rw [e] at h; omega)]
    cases e : par ks idx x with
    | none => rfl
    | some p =>
      have := (par_some e).2
      show (false || anc ks idx c k p) = false
      rw [dsc_low k p (by omega)] <;> rfl
theorem dsc_le {ks : List Pr} {idx : Int → Nat} {c x : Int} (h : dsc ks idx c x = true) : idx c ≤ idx x := by
  by_cases e : idx x < idx c
  · unfold dsc at h
    rw [dsc_low _ x e] at h
    cases h
  · omega
theorem Rt.brg {n : Nat} {ks : List Pr} {idx : Int → Nat} {N : Nat} (h : Rt ks idx N) (ok : Okl n ks) : Brg ks := by
  -- the lower end of a link: the one of greater index
  refine ⟨fun q => dsc ks idx (if idx q.1 < idx q.2 then q.2 else q.1), fun q hq => ?_⟩
  have m1 : q.2 ∈ nb ks q.1 := (mem_nb' ok).mpr (.inl hq)
  have m2 : q.1 ∈ nb ks q.2 := (mem_nb' ok).mpr (.inr hq)
  have hne := h.ne _ _ m1
  have par_r : ∀ (c p : Int), c ∈ nb ks p → idx p < idx c → ∀ x y : Int, y ∈ nb ks x → idx y < idx x → ¬ (x = c ∧ y = p) → dsc ks idx c x = dsc ks idx c y := fun c p hcp lt x y hy ly no => by
    by_cases e : x = c
    · subst e
      have hp : p ∈ nb ks x := (nb_sym ok).mp hcp
      exact absurd ⟨rfl, h.one x y p hy hp ly lt⟩ no
    · exact dsc_step h hy ly e
  have gen : ∀ (c p : Int), c ∈ nb ks p → idx p < idx c → (q = (c, p) ∨ q = (p, c)) → (dsc ks idx c q.1 ≠ dsc ks idx c q.2 ∧ ∀ r ∈ ks, r ≠ q → dsc ks idx c r.1 = dsc ks idx c r.2) := fun c p hcp lt hqe => by
    have d1 := dsc_self ks idx c
    have d2 : dsc ks idx c p = false := dsc_low _ p lt
    refine ⟨?_, fun r hr hrq => ?_⟩
    · rcases hqe with e | e <;> rw [e] <;> simp only <;> rw [d1, d2] <;> simp
    · have r1 : r.2 ∈ nb ks r.1 := (mem_nb' ok).mpr (.inl hr)
      have r2 : r.1 ∈ nb ks r.2 := (mem_nb' ok).mpr (.inr hr)
      have rn := h.ne _ _ r1
      have bq := ok q hq
      have br := ok r hr
      by_cases l : idx r.2 < idx r.1
      · refine par_r c p hcp lt r.1 r.2 r1 l fun ⟨e1, e2⟩ => hrq ?_
        rcases hqe with e | e
        · rw [e, ← e1, ← e2]
        · exfalso
          rw [e] at bq
          simp only at bq
          omega
      · refine (par_r c p hcp lt r.2 r.1 r2 (by omega) fun ⟨e1, e2⟩ => hrq ?_).symm
        rcases hqe with e | e
        · exfalso
          rw [e] at bq
          simp only at bq
          omega
        · rw [e, ← e1, ← e2]
  by_cases c : idx q.1 < idx q.2
  · simp only [if_pos c]
    exact gen q.2 q.1 m1 c (.inr rfl)
  · simp only [if_neg c]
    exact gen q.1 q.2 m2 (by omega) (.inl rfl)
end NX

namespace NX
/-! ### renamed, without: their tables -/
theorem nb_perm {ks ls : List Pr} (p : ks.Perm ls) (i : Int) : (nb ks i).Perm (nb ls i) := p.filterMap _
theorem StepT.perm {n : Nat} {ks ls : List Pr} {t t' : List Int} (h : StepT n ks t t') (p : ks.Perm ls) : StepT n ls t t' := ⟨h.1, fun i hi => (h.2 i hi).perm ((nb_perm p _).map _)⟩
theorem TabF.perm {n : Nat} {ks ls : List Pr} {t : List Int} (h : TabF n ks t) (p : ks.Perm ls) : TabF n ls t := StepT.perm h p
theorem nb_cons (q : Pr) (ks : List Pr) (i : Int) : nb (q :: ks) i = nb [q] i ++ nb ks i := nb_app [q] ks i
theorem nb_ren {n : Nat} {ns : List Int} (h : IsNames n ns) {v : Int} (hv : 0 ≤ v ∧ v < (n : Int)) : ∀ {ks : List Pr}, Okl n ks → nb (renL ns ks) (tv ns v) = (nb ks v).map (tv ns)
  | [], _ => rfl
  | q :: ks, ok => by
    have ih := nb_ren h hv (ks := ks) fun x hx => ok x (List.mem_cons_of_mem _ hx)
    have hq := ok q List.mem_cons_self
    have e : renL ns (q :: ks) = mmP (tv ns q.1) (tv ns q.2) :: renL ns ks := rfl
    have i1 : tv ns q.1 = tv ns v → q.1 = v := fun z => h.inj ⟨hq.1, by omega⟩ hv z
    have i2 : tv ns q.2 = tv ns v → q.2 = v := fun z => h.inj ⟨by omega, hq.2.2⟩ hv z
    have ne : tv ns q.1 ≠ tv ns q.2 := fun z => by
      have := h.inj ⟨hq.1, by omega⟩ ⟨by omega, hq.2.2⟩ z
      omega
    rw [e, nb_cons, nb_cons q, List.map_append, ih, nb_one, nb_one]
    congr 1
    unfold mmP
    simp only
    by_cases c1 : q.1 = v
    · subst c1
      rw [if_pos rfl]
      by_cases c : tv ns q.1 ≤ tv ns q.2
      · rw [if_pos (by omega)]
        have : max (tv ns q.1) (tv ns q.2) = tv ns q.2 := by omega
        rw [this] <;> rfl
      · rw [if_neg (by omega), if_pos (by omega)]
        have : min (tv ns q.1) (tv ns q.2) = tv ns q.2 := by omega
        rw [this] <;> rfl
    · rw [if_neg c1]
      have n1 : tv ns q.1 ≠ tv ns v := fun z => c1 (i1 z)
      by_cases c2 : q.2 = v
      · subst c2
        rw [if_pos rfl]
        by_cases c : tv ns q.1 ≤ tv ns q.2
        · rw [if_neg (by omega), if_pos (by omega)]
          have : min (tv ns q.1) (tv ns q.2) = tv ns q.1 := by omega
          rw [this] <;> rfl
        · rw [if_pos (by omega)]
          have : max (tv ns q.1) (tv ns q.2) = tv ns q.1 := by omega
          rw [this] <;> rfl
      · rw [if_neg c2]
        have n2 : tv ns q.2 ≠ tv ns v := fun z => c2 (i2 z)
        rw [if_neg (by omega), if_neg (by omega)] <;> rfl
/-- numbers there and back -/
structure Back (n : Nat) (ns bs : List Int) : Prop where
  a : IsNames n ns
  b : IsNames n bs
  ab : ∀ v : Int, 0 ≤ v ∧ v < (n : Int) → tv bs (tv ns v) = v
  ba : ∀ v : Int, 0 ≤ v ∧ v < (n : Int) → tv ns (tv bs v) = v
theorem back_ren {n : Nat} {ns bs : List Int} (h : Back n ns bs) : ∀ {ks : List Pr}, Okl n ks → renL bs (renL ns ks) = ks
  | [], _ => rfl
  | q :: ks, ok => by
    have ih := back_ren h (ks := ks) fun x hx => ok x (List.mem_cons_of_mem _ hx)
    have hq := ok q List.mem_cons_self
    show mmP (tv bs (mmP (tv ns q.1) (tv ns q.2)).1) (tv bs (mmP (tv ns q.1) (tv ns q.2)).2) :: renL bs (renL ns ks) = q :: ks
    rw [ih]
    have e1 := h.ab q.1 ⟨hq.1, by omega⟩
    have e2 := h.ab q.2 ⟨by omega, hq.2.2⟩
    have z : mmP (tv bs (mmP (tv ns q.1) (tv ns q.2)).1) (tv bs (mmP (tv ns q.1) (tv ns q.2)).2) = q := by
      unfold mmP
      simp only
      rcases Int.le_total (tv ns q.1) (tv ns q.2) with c | c
      · rw [Int.min_eq_left c, Int.max_eq_right c, e1, e2]
        exact Prod.ext (by show min q.1 q.2 = q.1; omega) (by show max q.1 q.2 = q.2; omega)
      · rw [Int.min_eq_right c, Int.max_eq_left c, e1, e2]
        exact Prod.ext (by show min q.2 q.1 = q.1; omega) (by show max q.2 q.1 = q.2; omega)
    rw [z]
theorem ren_perm {ns : List Int} {ks ls : List Pr} (p : ks.Perm ls) : (renL ns ks).Perm (renL ns ls) := p.map _
theorem back_net {n : Nat} {ns bs : List Int} (h : Back n ns bs) {ks : List Pr} (ok : Okl n ks) (u : Up ks) : sortP (renL bs (sortP (renL ns ks))) = ks := by
  rw [sortP_congr (ren_perm (sortP_perm (renL ns ks))), back_ren h ok]
  exact sortP_id u
theorem ren_tab {n : Nat} {ns bs : List Int} (h : Back n ns bs) {ls : List Pr} {t t' : List Int} (ok : Okl n ls) (ht : TabF n ls t) (ht' : TabF n (renL ns ls) t') {v : Int} (hv : 0 ≤ v ∧ v < (n : Int)) : tv t' (tv ns v) = tv t v := by
  have ok' := ren_ok h.a ok
  have a := tab_le ht'.tab ht.tab (tv ns) (fun v hv => h.a.rng hv.1 hv.2) (fun v _ u hu => by have := nb_rng ok hu; omega) (fun v hv => ⟨_, List.Perm.refl _, by rw [nb_ren h.a hv ok]; exact List.Sublist.refl _⟩) v hv
  have b := tab_le ht.tab ht'.tab (tv bs) (fun v hv => h.b.rng hv.1 hv.2) (fun v _ u hu => by have := nb_rng ok' hu; omega) (fun u hu => ⟨_, List.Perm.refl _, by
    have hb := h.b.rng hu.1 hu.2
    have e := nb_ren h.a hb ok
    rw [h.ba u hu] at e
    rw [e, List.map_map]
    have z : (nb ls (tv bs u)).map (tv bs ∘ tv ns) = nb ls (tv bs u) := by
      conv => rhs; rw [← List.map_id (nb ls (tv bs u))]
      refine List.map_congr_left fun x hx => ?_
      have := nb_rng ok hx
      exact h.ab x ⟨by omega, by omega⟩
    rw [z]
    exact List.Sublist.refl _⟩) (tv ns v) (h.a.rng hv.1 hv.2)
  rw [h.ab v hv] at b
  omega
def uns (s x : Int) : Int := if x < s then x else x + 1
theorem uns_shf {s x : Int} (h : x ≠ s) : uns s (shf s x) = x := by
  unfold uns shf
  split <;> split <;> omega
theorem shf_uns (s x : Int) : shf s (uns s x) = x := by
  unfold uns shf
  split <;> split <;> omega
theorem nb_wo {s v : Int} : ∀ ks : List Pr, ((nb (woL s ks) v).map (uns s)).Sublist (nb ks (uns s v))
  | [] => List.Sublist.refl _
  | q :: ks => by
    have ih := nb_wo (s := s) (v := v) ks
    rw [nb_cons q]
    by_cases c : s = q.1 ∨ s = q.2
    · have e : woL s (q :: ks) = woL s ks := by
        unfold woL woF
        rw [List.filter_cons, if_neg (by rw [decide_eq_true c]; exact Bool.false_ne_true)]
      rw [e]
      exact ih.trans (List.sublist_append_right _ _)
    · have e : woL s (q :: ks) = (shf s q.1, shf s q.2) :: woL s ks := by
        unfold woL woF
        rw [List.filter_cons, if_pos (by rw [decide_eq_false c]; rfl)] <;> rfl
      have n1 : q.1 ≠ s := fun z => c (.inl z.symm)
      have n2 : q.2 ≠ s := fun z => c (.inr z.symm)
      have f1 : shf s q.1 = v ↔ q.1 = uns s v := ⟨fun z => by rw [← z, uns_shf n1], fun z => by rw [z, shf_uns]⟩
      have f2 : shf s q.2 = v ↔ q.2 = uns s v := ⟨fun z => by rw [← z, uns_shf n2], fun z => by rw [z, shf_uns]⟩
      rw [e, nb_cons, List.map_append, nb_one, nb_one]
      refine List.Sublist.append ?_ ih
      simp only
      by_cases c1 : q.1 = uns s v
      · rw [if_pos (f1.mpr c1), if_pos c1, List.map_cons, uns_shf n2] <;> exact List.Sublist.refl _
      · rw [if_neg (fun z => c1 (f1.mp z)), if_neg c1]
        by_cases c2 : q.2 = uns s v
        · rw [if_pos (f2.mpr c2), if_pos c2, List.map_cons, uns_shf n1] <;> exact List.Sublist.refl _
        · rw [if_neg (fun z => c2 (f2.mp z)), if_neg c2] <;> exact List.Sublist.refl _
theorem wo_perm {s : Int} {ks ls : List Pr} (p : ks.Perm ls) : (woL s ks).Perm (woL s ls) := (p.filter _).map _
theorem wo_tab {n : Nat} {s : Int} (hs : 0 ≤ s ∧ s < (n : Int)) {ls : List Pr} {t t' : List Int} (ok : Okl n ls) (ht : TabF n ls t) (ht' : TabF (n - 1) (woL s ls) t') {v : Int} (hv : 0 ≤ v ∧ v < ((n - 1 : Nat) : Int)) : tv t' v ≤ tv t (uns s v) := by
  have ok' := wo_ok hs ok
  exact tab_le ht.tab ht'.tab (uns s) (fun v hv => by unfold uns; split <;> omega) (fun v _ u hu => by have := nb_rng ok' hu; omega) (fun v _ => ⟨_, List.Perm.refl _, nb_wo ls⟩) v hv
end NX

namespace NX
open PySem PySem.Spec PyProof.Rows L2
open Evl (Ex ex_l ex_t fresh_back)
theorem t_join {tt : TT} {σ : L2.St} {H : Hp} {Q : Bool → Hp → Prop} (J : Bool → Hp → Prop) (hj : ∀ b H', J b H' → Q b H') (h : ∀ Q' : Bool → Hp → Prop, (∀ b H', J b H' → Q' b H') → tt σ H Q') : tt σ H Q := h Q hj
/-- without rings: rooted -/
def Rooted (ks : List Pr) : Prop := ∃ idx N, Rt ks idx N
theorem Rooted.perm {ks ls : List Pr} (h : Rooted ks) (p : ks.Perm ls) : Rooted ls := by
  obtain ⟨idx, N, h⟩ := h
  exact ⟨idx, N, fun i j m => h.ne i j ((nb_perm p i).mem_iff.mpr m), fun v a b ma mb => h.one v a b ((nb_perm p v).mem_iff.mpr ma) ((nb_perm p v).mem_iff.mpr mb), h.top⟩
theorem back_exN {n : Nat} {ns : List Int} (h : ns.Perm (rgI 0 (n : Int))) : ∃ g : Int → Nat, (∀ x, g x ≤ n) ∧ ∀ i : Nat, i < n → g (tv ns (i : Int)) = i := by
  have a := names_of h rfl
  refine ⟨fun x => if hx : ∃ i : Nat, i < n ∧ tv ns (i : Int) = x then Classical.choose hx else 0, fun x => ?_, fun i hi => ?_⟩
  · by_cases hx : ∃ i : Nat, i < n ∧ tv ns (i : Int) = x
    · simp only [dif_pos hx]
      have := (Classical.choose_spec hx).1
      omega
    · simp only [dif_neg hx]
      exact Nat.zero_le _
  · have hx : ∃ j : Nat, j < n ∧ tv ns (j : Int) = tv ns (i : Int) := ⟨i, hi, rfl⟩
    simp only [dif_pos hx]
    obtain ⟨h1, h2⟩ := Classical.choose_spec hx
    have := a.inj (i := ((Classical.choose hx : Nat) : Int)) (j := (i : Int)) ⟨by omega, by omega⟩ ⟨by omega, by omega⟩ h2
    omega
theorem rooted_of {n : Nat} {ns : List Int} {ips : List Pr} (h : ns.Perm (rgI 0 (n : Int))) (hr : RawL (n : Int) ips) (h1 : ∀ q ∈ ips, ∀ r ∈ ips, q.2 = r.2 → q = r) : Rooted (renL ns ips) := by
  have a := names_of h rfl
  have ok := raw_okl hr
  have ok' := ren_ok a ok
  obtain ⟨g, hg1, hg2⟩ := back_exN h
  have at_ : ∀ v x : Int, x ∈ nb (renL ns ips) v → ∃ i j : Nat, i < n ∧ j < n ∧ v = tv ns (i : Int) ∧ x = tv ns (j : Int) ∧ (j : Int) ∈ nb ips (i : Int) := fun v x m => by
    have hb := nb_rng ok' m
    have hv : v ∈ ns := h.mem_iff.mpr (List.mem_map.mpr ⟨v.toNat, List.mem_range.mpr (by omega), by omega⟩)
    obtain ⟨i, hi, e⟩ := List.mem_iff_getElem.mp hv
    have e' : tv ns (i : Int) = v := tv_get (by rw [List.getElem?_eq_getElem hi, e])
    have hin : i < n := by rw [← a.1]; exact hi
    rw [← e', nb_ren a ⟨by omega, by omega⟩ ok] at m
    obtain ⟨y, hy, ey⟩ := List.mem_map.mp m
    have hyb := nb_rng ok hy
    obtain ⟨j, rfl⟩ : ∃ j : Nat, y = (j : Int) := ⟨y.toNat, by omega⟩
    exact ⟨i, j, hin, by omega, e'.symm, ey.symm, hy⟩
  refine ⟨g, n, fun v x m => ?_, fun v x y mx my lx ly => ?_, hg1⟩
  · obtain ⟨i, j, hi, hj, rfl, rfl, hm⟩ := at_ v x m
    have := nb_rng ok hm
    rw [hg2 i hi, hg2 j hj]
    omega
  · obtain ⟨i, j, hi, hj, rfl, rfl, hm⟩ := at_ v x mx
    obtain ⟨i2, j2, hi2, hj2, ei, rfl, hm2⟩ := at_ _ y my
    have e2 := a.inj ⟨by omega, by omega⟩ ⟨by omega, by omega⟩ ei
    have e2 : i = i2 := by omega
    subst e2
    rw [hg2 i hi, hg2 j hj] at lx
    rw [hg2 i hi, hg2 j2 hj2] at ly
    have p1 : ((j : Int), (i : Int)) ∈ ips := ((mem_nb' ok).mp hm).resolve_left fun z => by have := ok _ z; simp only at this; omega
    have p2 : ((j2 : Int), (i : Int)) ∈ ips := ((mem_nb' ok).mp hm2).resolve_left fun z => by have := ok _ z; simp only at this; omega
    have := congrArg Prod.fst (h1 _ p1 _ p2 rfl)
    simp only at this
    rw [this]
abbrev s__law_tree : Stmt := top 32
theorem sc__law_tree : FnScope ["_law_well", "_law_size", "_law_kind", "_law_names", "_law_found", "_law_k", "_law_at"] ["_law_well", "_law_size"] (defScope s__law_tree) := ⟨rfl, rfl, rfl, by decide +kernel, rfl, by decide +kernel, by decide +kernel⟩
def spTreeL : Sp := fun vs H Q _ => ∃ (W : Addr) (a b c : Int) (n : Nat), vs = [.ref W, .int (n : Int)] ∧ H W = some (wl a b c) ∧ 1 ≤ n ∧ n ≤ 60 ∧
  ∀ xs ps q H' G' a' b' c', Ex (cut H [(W, wl a b c)]) G' → Own G' [(W, wl a' b' c'), (q, .lst xs)] H' → Lks G' xs ps → Okl n ps → ps.Nodup → Rooted ps → Q (.ref q) H'
theorem n_treeL {G H : Hp} {L : List (Addr × HO)} {W : Addr} {a b c : Int} {n : Nat} {Q : VK} {E : XK} (S : Own G ((W, wl a b c) :: L) H) (h1 : 1 ≤ n) (h2 : n ≤ 60)
    (k : ∀ xs ps q G1 H1 a' b' c', Ex G G1 → Own G1 ((W, wl a' b' c') :: (q, .lst xs) :: L) H1 → Lks G1 xs ps → Okl n ps → ps.Nodup → Rooted ps → Q (.ref q) H1) : spTreeL [.ref W, .int (n : Int)] H Q E :=
  ⟨W, a, b, c, n, rfl, S.get0, h1, h2, fun xs ps q H' G' a' b' c' e T hl ok nd rt => by
    obtain ⟨S1, e1, e2⟩ := S.backG e T
    exact k xs ps q _ H' a' b' c' e1 S1 (Paired.mapP hl fun _ _ ⟨t, x, y⟩ => ⟨t, x, e2 _ _ rfl y⟩) ok nd rt⟩
section
variable {P : Program} {w : World} {K : PySem.W.Frag} {mg : Str → Option Value} {base : Heap}
theorem ok_treeL {f : Addr} {fd : FuncData} (F : Fun K "_law_tree" "_law_tree" s__law_tree f fd) (T : Txt mg) (c__law_draw : Cal P w K mg base 1 "_law_draw" ["_law_well", "_law_limit"] [] spDraw)
    (c__law_shuffled : Cal P w K mg base 2 "_law_shuffled" ["_law_well", "_law_items"] [] (spMixed K)) : FnOk P w K mg base CX0 3 f fd ["_law_well", "_law_size"] spTreeL := by
  refine F.ok sc__law_tree (fun vs H Q E h => ?_) (fun cdv A outer s H vs Q E hr h => ?_)
  · obtain ⟨W, a, b, c, n, rfl, _⟩ := h
    rfl
  · obtain ⟨W, a, b, c, n, rfl, hW, hn1, hn60, k⟩ := h
    have S0 := Own.give (o := wl a b c) hW
    generalize cut H [(W, wl a b c)] = G at S0 k
    refine ⟨_, (pss_cons (ps_set (i := 2) sc__law_tree.nd rfl (Or.inl rfl) (pe_cal c__law_draw (hr.mono (by first | decide | omega)) passN (pa_cons (pv 0) (pa_cons pe_int pa_nil))))
      (pss_cons (ps_set (i := 3) sc__law_tree.nd rfl (Or.inl rfl) (pe_cal c__law_shuffled (hr.mono (by first | decide | omega)) passN (pa_cons (pv 0) (pa_cons (pe_listRg rfl (by rfl) T.n_list (prg_1 (by rfl) T.n_range (pv 1))) pa_nil))))
      (pss_cons (ps_set (i := 4) sc__law_tree.nd rfl (Or.inl rfl) (pe_lst pa_nil))
      (pss_cons (ps_for PassesOwn.never rfl (pi_range2 (by rfl) T.n_range (pa_cons pe_int (pa_cons (pv 1) pa_nil))) (pg_name (i := 5) sc__law_tree.nd rfl (Or.inl rfl)) (pss_cons (ps_set (i := 6) sc__law_tree.nd rfl (Or.inl rfl) (pe_ix ix_list (pe_lst (pa_cons (pe_cal c__law_draw (hr.mono (by first | decide | omega)) passN (pa_cons (pv 0) (pa_cons (pv 5) pa_nil))) (pa_cons (pe_op op_sub (pv 5) pe_int) (pa_cons pe_int (pa_cons (pe_callB (call_maxN rfl) (by rfl) T.n_max (by decide +kernel) (pa_cons pe_int (pa_cons (pe_op op_sub (pe_op op_sub (pv 5) pe_int) (pe_cal c__law_draw (hr.mono (by first | decide | omega)) passN (pa_cons (pv 0) (pa_cons pe_int pa_nil)))) pa_nil))) (pa_cons (pe_cal c__law_draw (hr.mono (by first | decide | omega)) passN (pa_cons (pv 0) (pa_cons (pv 5) pa_nil))) pa_nil)))))) (pv 2) (fun _ _ => rfl)))
      (pss_one (ps_if (PW.pt (pw_or (pt_cmpR op_lt (pv 2) pe_int (nomark _)) (pw_or1 (pt_cmpR op_gt (pe_cal c__law_draw (hr.mono (by first | decide | omega)) passN (pa_cons (pv 0) (pa_cons pe_int pa_nil))) pe_int (nomark _))))) (pss_one (ps_expr (pe_bm PySem.F.plainAttrs_list PySem.F.slot_list_append PySem.F.type_list_append mt_append (pv 4) (pa_cons (pe_tup (pa_cons (pe_callB (call_minN rfl) (by rfl) T.n_min (by decide +kernel) (pa_cons (pe_ix ix_list (pv 3) (pv 5) (fun _ _ => rfl)) (pa_cons (pe_ix ix_list (pv 3) (pv 6) (fun _ _ => rfl)) pa_nil))) (pa_cons (pe_callB (call_maxN rfl) (by rfl) T.n_max (by decide +kernel) (pa_cons (pe_ix ix_list (pv 3) (pv 5) (fun _ _ => rfl)) (pa_cons (pe_ix ix_list (pv 3) (pv 6) (fun _ _ => rfl)) pa_nil))) pa_nil))) pa_nil)))) pss_nil))))
      (pss_one (ps_ret (pe_cal c__law_shuffled (hr.mono (by first | decide | omega)) passN (pa_cons (pv 0) (pa_cons (pv 4) pa_nil))))))))), ?_⟩
    walk_at "go"
    refine n_draw S0 ⟨by decide, by decide⟩ fun kd a1 b1 c1 H1 k0 k5 S1 => ?_
    walk_at "go"
    refine n_rgG S1 (by omega) fun rp G2 H2 _ e2 _ hrp S2 => ?_
    rw [rgV_eq] at hrp
    walk_at "go"
    refine n_mixed S2 (SqL.of hrp) (data_ints K _ _) (by rw [List.length_map]; unfold rgI; rw [List.length_map, List.length_range]; omega) fun nys nq H3 a3 b3 c3 hnp _ S3 => ?_
    obtain ⟨ns, rfl, hperm⟩ := ints_perm hnp
    have hns := names_of (n := n) hperm rfl
    obtain ⟨S4, e4, hnq⟩ := S3.swap.freeze
    generalize upd G2 nq (.lst (ns.map V.int)) = G4 at S4 e4 hnq
    walk_at "go"
    refine n_lst S4 (by decide) fun fq H5 _ S5 => ?_
    walk_at "go"
    refine w_rng2 (fun i σ' H' => (∃ x1 x2, σ' = [some (.ref W), some (.int (n : Int)), some (.int kd), some (.ref nq), some (.ref fq), x1, x2]) ∧ ∃ (G' : Hp) (a' b' c' : Int) (xs : List V) (ips : List Pr),
      Ex G4 G' ∧ Own G' [(W, wl a' b' c'), (fq, .lst xs)] H' ∧ Lks G' xs (renL ns ips) ∧ RawL (1 + (i : Int)) ips ∧ (∀ q ∈ ips, ∀ r ∈ ips, q.2 = r.2 → q = r) ∧ 1 + (i : Int) ≤ (n : Int)) ⟨by decide, by decide, by omega, by omega⟩
      ⟨⟨_, _, rfl⟩, G4, a3, b3, c3, [], [], Ex.refl _, S5.swap, .nil, ⟨List.nodup_nil, fun q hq => nomatch hq⟩, fun q hq => (nomatch hq), by omega⟩ ?_ ?_
    · rintro i σ' H' hi ⟨⟨x1, x2, rfl⟩, G', a', b', c', xs, ips, eG, S, hl, hraw, hone, _⟩
      have hlen : xs.length ≤ 10000 := by
        rw [pr_len hl, ren_len]
        exact raw_len hraw (by omega)
      walk_at "go"
      refine n_draw S ⟨by omega, by omega⟩ fun r6 a6 b6 c6 H6 h60 h61 S6 => ?_
      walk_at "go"
      refine n_draw S6 ⟨by decide, by decide⟩ fun r7 a7 b7 c7 H7 h70 h71 S7 => ?_
      walk_at "go"
      refine n_draw S7 ⟨by omega, by omega⟩ fun r8 a8 b8 c8 H8 h80 h81 S8 => ?_
      walk_at "go"
      refine n_lstG S8 (by show 5 ≤ 10000000; decide) fun q9 G9 H9 _ e9 _ hq9 S9 => ?_
      obtain ⟨v, hv, hv0, hv1⟩ : ∃ v : Int, atI [V.int r6, V.int (1 + (i : Int) - 1), V.int 0, V.int (max 0 (1 + (i : Int) - 1 - r7)), V.int r8] kd = some (.int v) ∧ 0 ≤ v ∧ v < 1 + (i : Int) := by
        have : kd = 0 ∨ kd = 1 ∨ kd = 2 ∨ kd = 3 ∨ kd = 4 := by omega
        rcases this with rfl | rfl | rfl | rfl | rfl
        · exact ⟨_, rfl, by omega, by omega⟩
        · exact ⟨_, rfl, by omega, by omega⟩
        · exact ⟨_, rfl, by omega, by omega⟩
        · exact ⟨_, rfl, by omega, by omega⟩
        · exact ⟨_, rfl, by omega, by omega⟩
      walk_at "go"
      refine g_ixL (SqL.of (S9.ex _ _ hq9)) hv ?_
      refine s_name ?_
      refine s_if ?_
      refine t_join (fun bb H' => ∃ a b c : Int, Own G9 [(W, wl a b c), (fq, .lst xs)] H') ?_ (fun Q' hQ => ?_)
      · rintro bb H10 ⟨a10, b10, c10, S10⟩
        refine if_2 (fun _ => ?_) (fun _ => ?_)
        · have hnq' := S10.ex _ _ (e9 _ _ (eG _ _ hnq))
          have g1 := at_tv (t := ns) (j := 1 + (i : Int)) (by omega) (by rw [hns.1]; omega)
          have g2 := at_tv (t := ns) (j := v) hv0 (by rw [hns.1]; omega)
          walk_at "go"
          refine ⟨tyL (SqL.of S10.get1), ?_⟩
          walk_at "go"
          refine g_ixL (SqL.of hnq') g1 ?_
          walk_at "go"
          refine g_ixL (SqL.of hnq') g2 ?_
          walk_at "go"
          refine g_ixL (SqL.of hnq') g1 ?_
          walk_at "go"
          refine g_ixL (SqL.of hnq') g2 ?_
          walk_at "go"
          refine n_tup S10 (by show 2 ≤ 10000000; decide) fun t11 G11 H11 _ e11 _ ht11 S11 => ?_
          walk_at "go"
          refine n_app S11.swap (by omega) fun H12 S12 => ?_
          have hadd := raw_add (cs := [v]) hraw (by simp) (fun c hc => by
            have : c = v := by simpa using hc
            omega)
          refine ⟨⟨_, _, rfl⟩, G11, a10, b10, c10, xs ++ [.ref t11], ips ++ [(v, 1 + (i : Int))], eG.trans (e9.trans e11), S12.swap, ?_, ?_, fun q hq r hr e => ?_, by omega⟩
          · have e : renL ns (ips ++ [(v, 1 + (i : Int))]) = renL ns ips ++ [mmP (tv ns v) (tv ns (1 + (i : Int)))] := by unfold renL; rw [List.map_append] <;> rfl
            rw [e, mm_swap]
            exact pr_snoc (hl.mono (e9.trans e11)) ⟨t11, rfl, ht11⟩
          · have e : (1 : Int) + ((i + 1 : Nat) : Int) = 1 + (i : Int) + 1 := by omega
            rw [e]
            exact hadd
          · rcases List.mem_append.mp hq with hq | hq <;> rcases List.mem_append.mp hr with hr | hr
            · exact hone q hq r hr e
            · have : r = (v, 1 + (i : Int)) := by simpa using hr
              have z := (hraw.2 q hq).2.2
              rw [e, this] at z
              simp only at z
              omega
            · have : q = (v, 1 + (i : Int)) := by simpa using hq
              have z := (hraw.2 r hr).2.2
              rw [← e, this] at z
              simp only at z
              omega
            · have h1 : r = (v, 1 + (i : Int)) := by simpa using hr
              have h2 : q = (v, 1 + (i : Int)) := by simpa using hq
              rw [h1, h2]
        · walk_at "go"
          refine ⟨⟨_, _, rfl⟩, G9, a10, b10, c10, xs, ips, eG.trans e9, S10, hl.mono e9, ⟨hraw.1, fun q hq => by have := hraw.2 q hq; omega⟩, hone, by omega⟩
      · walk_at "go"
        refine if_2 (fun _ => ?_) (fun _ => ?_)
        · exact hQ _ _ ⟨a8, b8, c8, S9⟩
        · walk_at "go"
          refine n_draw S9 ⟨by decide, by decide⟩ fun r10 a10 b10 c10 H10 _ _ S10 => ?_
          walk_at "go"
          exact hQ _ _ ⟨a10, b10, c10, S10⟩
    · rintro σ' H' ⟨⟨x1, x2, rfl⟩, G', a', b', c', xs, ips, eG, S, hl, hraw, hone, _⟩
      have hraw' : RawL (n : Int) ips := by
        have e : 1 + (((n : Int) - 1).toNat : Int) = (n : Int) := by omega
        rw [e] at hraw
        exact hraw
      have ok := raw_okl hraw'
      have hlen := okl_len ok hraw'.1 hn60
      obtain ⟨S6, e6, h6⟩ := S.swap.freeze
      have hl6 := hl.mono e6
      generalize upd G' fq (.lst xs) = G6 at S6 e6 h6 hl6
      walk_at "go"
      refine n_mixed S6 (SqL.of h6) (data_lks hl6) (by rw [pr_len hl6, ren_len]; omega) fun ys q H9 a9 b9 c9 hpm _ S9 => ?_
      obtain ⟨qs, hqs, hperm2⟩ := lks_perm hl6 hpm
      exact k ys qs q H9 G6 a9 b9 c9 ((e2.trans e4).trans (eG.trans e6)) S9 hqs (fun z hz => ren_ok hns ok z (hperm2.mem_iff.mp hz)) (hperm2.nodup_iff.mpr (ren_nd hns ok hraw'.1)) ((rooted_of hperm hraw' hone).perm hperm2.symm)
end
end NX

namespace NX
open PySem PySem.Spec PyProof.Rows L2
open Evl (Ex ex_l ex_t fresh_back)
/-- sizes of smallest networks: behind n turns -/
def fw (off : Bool) : Nat → Int
  | 0 => 1
  | 1 => 2
  | n + 2 => if off then fw off (n + 1) + fw off n else fw off (n + 1) + fw off (n + 1)
/-- the one ahead of the last -/
def fwB (off : Bool) : Nat → Int
  | 0 => 1
  | n + 1 => fw off n
theorem fw_next (off : Bool) : ∀ n, fw off (n + 1) = fw off n + (if off = true then fwB off n else fw off n)
  | 0 => by cases off <;> rfl
  | n + 1 => by cases off <;> rfl
def fwL (off : Bool) (n : Nat) : List V := (List.range (n + 1)).map fun i => V.int (fw off i)
theorem fwL_next (off : Bool) (n : Nat) : fwL off (n + 1) = fwL off n ++ [.int (fw off (n + 1))] := by
  unfold fwL
  rw [List.range_succ, List.map_append] <;> rfl
theorem fwL_len (off : Bool) (n : Nat) : (fwL off n).length = n + 1 := by
  unfold fwL
  rw [List.length_map, List.length_range]
theorem fwL_last (off : Bool) (n : Nat) : atI (fwL off n) (-1) = some (.int (fw off n)) := by
  cases n with
  | zero => rfl
  | succ n => rw [fwL_next]; exact atI_last _ _
abbrev s_fewest_stations : Stmt := top 16
theorem sc_fewest_stations : FnScope ["channel", "off", "sizes", "before", "last"] ["channel", "off"] (defScope s_fewest_stations) := ⟨rfl, rfl, rfl, by decide +kernel, rfl, by decide +kernel, by decide +kernel⟩
def spFewest : Sp := fun vs H Q _ => ∃ (c : Nat) (off : Bool), vs = [.int ((c : Int) + 1), .bl off] ∧ c < 60 ∧ ∀ H', Ex H H' → Q (.int (fw off c)) H'
theorem n_few {G H : Hp} {L : List (Addr × HO)} {i : Int} {off : Bool} {Q : VK} {E : XK} (c : Nat) (S : Own G L H) (h : i = (c : Int) + 1) (hc : c < 60) (k : ∀ H1, Own G L H1 → Q (.int (fw off c)) H1) : spFewest [.int i, .bl off] H Q E := by
  subst h
  exact ⟨c, off, rfl, hc, fun H' e => k H' (S.grow e)⟩
section
variable {P : Program} {w : World} {K : PySem.W.Frag} {mg : Str → Option Value} {base : Heap}
theorem ok_fewest {f : Addr} {fd : FuncData} (F : FunD K "fewest_stations" "fewest_stations" (defArgs s_fewest_stations) (defBody s_fewest_stations) (defScope s_fewest_stations) [] [("off", .bl true)] f fd) (T : Txt mg)
    (c_is_int : Cal P w K mg base 1 "is_int" ["value"] [] (spIsInt K)) : FnOk P w K mg base (L2.CX P w) 2 f fd ["channel", "off"] spFewest := by
  refine F.ok sc_fewest_stations (fun vs H Q E h => ?_) (fun cdv A outer s H vs Q E hr h => ?_)
  · obtain ⟨c, off, rfl, _⟩ := h
    rfl
  · obtain ⟨c, off, rfl, hc, k⟩ := h
    refine ⟨_, PSs.nox (pss_cons (ps_if (PW.pt (pw_or (pt_not (pt_val (pe_cal c_is_int (hr.mono (by first | decide | omega)) passN (pa_cons (pv 0) pa_nil)))) (pw_or1 (pt_not (pt_chain op_le op_le pe_int (pv 0) (pe_cst (by rfl) T.m_MAX_CHANNEL)))))) (pss_one ps_never) pss_nil)
      (pss_cons (ps_set (i := 2) sc_fewest_stations.nd rfl (Or.inl rfl) (pe_lst (pa_cons pe_int pa_nil)))
      (pss_cons (ps_set (i := 3) sc_fewest_stations.nd rfl (Or.inl rfl) pe_int)
      (pss_cons (ps_while PassesOwn.never (pt_cmpR op_lt (pe_callB call_lenN (by rfl) T.n_len (by decide +kernel) (pa_cons (pv 2) pa_nil)) (pv 0) (nomark _)) (pss_cons (ps_par (i := 3) (j := 4) rfl sc_fewest_stations.nd rfl rfl (by decide) rfl rfl (pa_cons (pe_ix ix_list (pv 2) (pe_un un_neg pe_int) (fun _ _ => rfl)) (pa_cons (pv 3) pa_nil)) rfl)
      (pss_one (ps_expr (pe_bm PySem.F.plainAttrs_list PySem.F.slot_list_append PySem.F.type_list_append mt_append (pv 2) (pa_cons (pe_op op_add (pv 3) (pe_ifExp (pt_val (pv 1)) (pv 4) (pv 3))) pa_nil))))))
      (pss_one (ps_ret (pe_ix ix_list (pv 2) (pe_un un_neg pe_int) (fun _ _ => rfl)))))))), ?_⟩
    walk_at "go"
    refine g_isint ?_
    walk_at "go"
    refine if_tt (dtrue (by omega)) ?_
    walk_at "go"
    refine if_ff (ntrue (by omega)) ?_
    walk_at "go"
    refine n_lst (Own.start H) (by decide) fun p H1 hp S1 => ?_
    walk_at "go"
    refine s_while (fun m σ' H' => ∃ i : Nat, i ≤ c ∧ m = c - i ∧ (∃ lst, σ' = [some (.int ((c : Int) + 1)), some (.bl off), some (.ref p), some (.int (fwB off i)), lst]) ∧ Own H [(p, .lst (fwL off i))] H') c ⟨0, Nat.zero_le _, rfl, ⟨none, rfl⟩, S1⟩ ?_
    rintro m σ' H' ⟨i, hi, rfl, ⟨lst, rfl⟩, S⟩
    walk_at "go"
    refine n_len S.l0 ?_
    walk_at "go"
    rw [fwL_len]
    refine if_2 (fun e => ?_) (fun e => ?_)
    · have e := of_decide_eq_true e
      refine s_turn ?_
      walk_at "go"
      refine g_ixL S.l0 (fwL_last off i) ?_
      walk_at "go"
      refine ⟨tyL S.l0, ?_⟩
      walk_at "go"
      refine if_2 (fun e1 => ?_) (fun e1 => ?_)
      · walk_at "go"
        refine n_app S (by rw [fwL_len]; omega) fun H2 S2 => ?_
        exact ⟨c - (i + 1), by omega, i + 1, by omega, rfl, ⟨_, rfl⟩, by rw [fwL_next, fw_next, if_pos e1]; exact S2⟩
      · walk_at "go"
        refine n_app S (by rw [fwL_len]; omega) fun H2 S2 => ?_
        exact ⟨c - (i + 1), by omega, i + 1, by omega, rfl, ⟨_, rfl⟩, by rw [fwL_next, fw_next, if_neg (by rw [e1]; decide)]; exact S2⟩
    · have e := of_decide_eq_false e
      have ei : i = c := by omega
      subst ei
      walk_at "go"
      refine g_ixL S.l0 (fwL_last off i) ?_
      exact k _ S.ex
end
end NX

namespace NX
open PySem PySem.Spec PyProof.Rows L2
open Evl (Ex ex_l ex_t fresh_back)
/-- the greatest channel with n stations: how many of the first ten sizes are at most n -/
def gw (off : Bool) (n : Int) : Int := (((List.range 10).filter fun i => decide (fw off i ≤ n)).length : Nat)
theorem gw_is : ∀ off : Bool, ∀ n : Nat, n < 61 → ∀ j : Nat, j < 9 → fw off j ≤ n → ¬ fw off (j + 1) ≤ n → gw off n = (j : Int) + 1 := by decide +kernel
theorem fw_ten : ∀ off : Bool, (60 : Int) < fw off 9 := by decide +kernel
theorem fw_one (off : Bool) : fw off 0 = 1 := rfl
abbrev s_greatest_with : Stmt := top 21
theorem sc_greatest_with : FnScope ["stations", "found", "off", "channel"] ["stations"] (defScope s_greatest_with) := ⟨rfl, rfl, rfl, by decide +kernel, rfl, by decide +kernel, by decide +kernel⟩
def gwL (n : Int) : List V := [.int (gw true n), .int (gw false n)]
def spGWith : Sp := fun vs H Q _ => ∃ (n : Int), vs = [.int n] ∧ 1 ≤ n ∧ n ≤ 60 ∧ ∀ p H', H p = none → Ex H H' → H' p = some (.tup (gwL n)) → Q (.ref p) H'
section
variable {P : Program} {w : World} {K : PySem.W.Frag} {mg : Str → Option Value} {base : Heap}
theorem ok_gwith {f : Addr} {fd : FuncData} (F : Fun K "greatest_with" "greatest_with" s_greatest_with f fd) (T : Txt mg)
    (c_is_int : Cal P w K mg base 1 "is_int" ["value"] [] (spIsInt K))
    (k_fewest_stations_1_off : CalK P w K mg base 2 "fewest_stations" ["channel", "off"] 1 ["off"] (fun vs zs => vs ++ zs) spFewest) : FnOk P w K mg base CX0 3 f fd ["stations"] spGWith := by
  refine F.ok sc_greatest_with (fun vs H Q E h => ?_) (fun cdv A outer s H vs Q E hr h => ?_)
  · obtain ⟨n, rfl, _⟩ := h
    rfl
  · obtain ⟨n, rfl, h1, h2, k⟩ := h
    refine ⟨_, (pss_cons (ps_if (PW.pt (pw_or (pt_not (pt_val (pe_cal c_is_int (hr.mono (by first | decide | omega)) passN (pa_cons (pv 0) pa_nil)))) (pw_or1 (pt_not (pt_chain op_le op_le pe_int (pv 0) (pe_cst (by rfl) T.m_MAX_STATIONS)))))) (pss_one ps_never) pss_nil)
      (pss_cons (ps_set (i := 1) sc_greatest_with.nd rfl (Or.inl rfl) (pe_lst pa_nil))
      (pss_cons (ps_for PassesOwn.never rfl (pi_tup (pe_tup (pa_cons pe_bl (pa_cons pe_bl pa_nil)))) (pg_name (i := 2) sc_greatest_with.nd rfl (Or.inl rfl)) (pss_cons (ps_set (i := 3) sc_greatest_with.nd rfl (Or.inl rfl) pe_int)
      (pss_cons (ps_while PassesOwn.never (pt_cmpR op_le (pe_calK k_fewest_stations_1_off (hr.mono (by first | decide | omega)) passN (pa_cons (pe_op op_add (pv 3) pe_int) pa_nil) (pk_cons (pv 2) pk_nil)) (pv 0) (nomark _)) (pss_one (ps_aug (i := 3) sc_greatest_with.nd rfl (Or.inl rfl) pe_int ip_add)))
      (pss_one (ps_expr (pe_bm PySem.F.plainAttrs_list PySem.F.slot_list_append PySem.F.type_list_append mt_append (pv 1) (pa_cons (pv 3) pa_nil)))))))
      (pss_one (ps_ret (pe_callTy call_tupN (by rfl) T.n_tuple (by decide +kernel) (pa_cons (pv 1) pa_nil))))))), ?_⟩
    walk_at "go"
    refine g_isint ?_
    walk_at "go"
    refine if_tt (dtrue (by omega)) ?_
    walk_at "go"
    refine if_ff (ntrue (by omega)) ?_
    walk_at "go"
    refine n_lst (Own.start H) (by decide) fun p H1 hp S1 => ?_
    walk_at "go"
    refine n_tup S1 (by decide) fun t G2 H2 _ e2 _ ht S2 => ?_
    walk_at "go"
    refine w_tup (fun i σ' H' => (∃ x y, σ' = [some (.int n), some (.ref p), x, y]) ∧ Own G2 [(p, .lst ((gwL n).take i))] H') (S2.st (SqT.of ht)) ⟨⟨none, none, rfl⟩, S2⟩ (fun i σ' H' h => h.2.st (SqT.of ht)) ?_ ?_
    · rintro i x σ' H' hx ⟨⟨x0, y0, rfl⟩, S⟩
      obtain ⟨off, rfl, hi⟩ : ∃ off, x = .bl off ∧ (gwL n).take (i + 1) = (gwL n).take i ++ [.int (gw off n)] := by
        match i, hx with
        | 0, hx => exact ⟨true, (Option.some.inj hx).symm, rfl⟩
        | 1, hx => exact ⟨false, (Option.some.inj hx).symm, rfl⟩
        | i + 2, hx => simp at hx
      walk_at "go"
      refine s_while (fun m σ' H' => ∃ j : Nat, j < 9 ∧ m = 9 - j ∧ fw off j ≤ n ∧ σ' = [some (.int n), some (.ref p), some (.bl off), some (.int ((j : Int) + 1))] ∧ Own G2 [(p, .lst ((gwL n).take i))] H') 9 ⟨0, by decide, rfl, by rw [fw_one]; exact h1, rfl, S⟩ ?_
      rintro m σ' H' ⟨j, hj, rfl, hw, rfl, S⟩
      walk_at "go"
      refine ⟨rfl, rfl, n_few (j + 1) S (by omega) (by omega) fun H3 S3 => ?_⟩
      walk_at "go"
      refine if_2 (fun e => ?_) (fun e => ?_)
      · have e := of_decide_eq_true e
        have hj2 : j ≠ 8 := fun z => by
          have q := fw_ten off
          have e9 : fw off 9 ≤ n := by rw [z] at e; exact e
          omega
        refine s_turn ?_
        walk_at "go"
        exact ⟨9 - (j + 1), by omega, j + 1, by omega, rfl, e, rfl, S3⟩
      · have e := of_decide_eq_false e
        have z := gw_is off n.toNat (by omega) j hj (by omega) (by omega)
        rw [Int.toNat_of_nonneg (by omega)] at z
        walk_at "go"
        refine ⟨tyL S3.l0, ?_⟩
        walk_at "go"
        refine n_app S3 (Nat.le_trans (by rw [List.length_take]; exact Nat.min_le_right _ _) (by show 2 ≤ 1000000; decide)) fun H4 S4 => ?_
        refine ⟨⟨_, _, rfl⟩, ?_⟩
        rw [hi, z]
        exact S4
    · rintro σ' H' ⟨⟨x0, y0, rfl⟩, S⟩
      walk_at "go"
      refine n_tupL S S.l0 fun q G3 H3 hq e3 e3' h3 S3 => ?_
      exact k q H3 (fresh_back (e2.trans S.ex) hq) ((e2.trans e3).trans S3.ex) (S3.ex _ _ h3)
end
end NX

namespace NX
open PySem PySem.Spec PyProof.Rows L2
open Evl (Ex ex_l ex_t fresh_back)
/-- what grown makes of the links l -/
def grow (off : Bool) : Nat → List (Int × Int) → Int → List Int → List (Int × Int)
  | 0, l, _, _ => l
  | d + 1, l, top, kinds => kinds.foldl (fun l kind => grow off d (l ++ [(top, (l.length : Int) + 1)]) ((l.length : Int) + 1) (rgI 1 (kind - (if off then 1 else 0)))) l
def gstep (off : Bool) (d : Nat) (top : Int) (l : List (Int × Int)) (kind : Int) : List (Int × Int) := grow off d (l ++ [(top, (l.length : Int) + 1)]) ((l.length : Int) + 1) (rgI 1 (kind - (if off then 1 else 0)))
theorem grow_succ (off : Bool) (d : Nat) (l : List (Int × Int)) (top : Int) (kinds : List Int) : grow off (d + 1) l top kinds = kinds.foldl (gstep off d top) l := rfl
theorem grow_len (off : Bool) : ∀ (d : Nat) (l : List (Int × Int)) (top : Int) (kinds : List Int), l.length ≤ (grow off d l top kinds).length
  | 0, l, _, _ => Nat.le_refl _
  | d + 1, l, top, kinds => by
    rw [grow_succ]
    induction kinds generalizing l with
    | nil => exact Nat.le_refl _
    | cons k ks ih =>
      rw [List.foldl_cons]
      refine Nat.le_trans ?_ (ih (gstep off d top l k))
      unfold gstep
      refine Nat.le_trans ?_ (grow_len off d _ _ _)
      rw [List.length_append]
      exact Nat.le_add_right _ _
theorem fold_len (off : Bool) (d : Nat) (top : Int) (l : List (Int × Int)) (ks : List Int) : l.length ≤ (ks.foldl (gstep off d top) l).length := grow_len off (d + 1) l top ks
abbrev s_grown : Stmt := top 17
theorem sc_grown : FnScope ["links", "top", "kinds", "off", "kind", "station"] ["links", "top", "kinds", "off"] (defScope s_grown) := ⟨rfl, rfl, rfl, by decide +kernel, rfl, by decide +kernel, by decide +kernel⟩
def spGrown (K : PySem.W.Frag) (d : Nat) : Sp := fun vs H Q _ => ∃ (p kp : Addr) (xs : List V) (ps : List (Int × Int)) (top : Int) (kinds : List Int) (off : Bool) (G : Hp), vs = [.ref p, .int top, .ref kp, .bl off] ∧ Own G [(p, .lst xs)] H ∧ Lks G xs ps ∧
  SqL K G kp (kinds.map V.int) ∧ (∀ k ∈ kinds, 1 ≤ k ∧ k ≤ (d : Int)) ∧ d ≤ 1000 ∧ (grow off (d + 1) ps top kinds).length ≤ 100000 ∧ ∀ G' xs' H', Ex G G' → Own G' [(p, .lst xs')] H' → Lks G' xs' (grow off (d + 1) ps top kinds) → Q .non H'
def spPrev (K : PySem.W.Frag) : Nat → Sp
  | 0 => fun _ _ _ _ => False
  | d + 1 => spGrown K d
theorem grow_enough (off : Bool) (l : List (Int × Int)) (top : Int) (kinds : List Int) (d : Nat) (h : ∀ k ∈ kinds, 1 ≤ k ∧ k ≤ (d : Int)) (hd : d = 0) : kinds = [] := by
  cases kinds with
  | nil => rfl
  | cons k ks => have := h k List.mem_cons_self; omega
section
variable {P : Program} {w : World} {K : PySem.W.Frag} {mg : Str → Option Value} {base : Heap}
theorem body_grown {f : Addr} {fd : FuncData} (F : Fun K "grown" "grown" s_grown f fd) (T : Txt mg) (d : Nat) (c_grown : Cal P w K mg base d "grown" ["links", "top", "kinds", "off"] [] (spPrev K d)) :
    FnOk P w K mg base CX0 (d + 1) f fd ["links", "top", "kinds", "off"] (spGrown K d) := by
  refine F.ok sc_grown (fun vs H Q E h => ?_) (fun cdv A outer s H vs Q E hr h => ?_)
  · obtain ⟨p, kp, xs, ps, top, kinds, off, G, rfl, _⟩ := h
    rfl
  · obtain ⟨p, kp, xs, ps, top, kinds, off, G, rfl, S0, hl, hk, hb, hd, hz, k⟩ := h
    refine ⟨_, (pss_one (ps_for PassesOwn.never rfl (pi_list (pv 2)) (pg_name (i := 4) sc_grown.nd rfl (Or.inl rfl)) (pss_cons (ps_set (i := 5) sc_grown.nd rfl (Or.inl rfl) (pe_op op_add (pe_callB call_lenN (by rfl) T.n_len (by decide +kernel) (pa_cons (pv 0) pa_nil)) pe_int))
      (pss_cons (ps_expr (pe_bm PySem.F.plainAttrs_list PySem.F.slot_list_append PySem.F.type_list_append mt_append (pv 0) (pa_cons (pe_tup (pa_cons (pv 1) (pa_cons (pv 5) pa_nil))) pa_nil)))
      (pss_one (ps_expr (pe_cal c_grown (hr.mono (by first | decide | omega)) passN (pa_cons (pv 0) (pa_cons (pv 5) (pa_cons (pe_listRg rfl (by rfl) T.n_list (prg_2 (by rfl) T.n_range pe_int (pe_op op_sub (pv 4) (pe_callTy call_intN (by rfl) T.n_int (by decide +kernel) (pa_cons (pv 3) pa_nil))))) (pa_cons (pv 3) pa_nil))))))))))), ?_⟩
    walk_at "go"
    refine w_list (xs := kinds.map V.int) (fun i σ' H' => (∃ x y, σ' = [some (.ref p), some (.int top), some (.ref kp), some (.bl off), x, y]) ∧ ∃ G' xs', Ex G G' ∧ Own G' [(p, .lst xs')] H' ∧ Lks G' xs' ((kinds.take i).foldl (gstep off d top) ps))
      (S0.sl hk) ⟨⟨none, none, rfl⟩, G, xs, Ex.refl G, S0, hl⟩ (fun i σ' H' ⟨_, G', xs', e, S, _⟩ => S.sl (ex_l e hk)) ?_ ?_
    · rintro i x σ' H' hx ⟨⟨x0, y0, rfl⟩, G', xs', e, S, hl'⟩
      obtain ⟨kind, hkd, rfl⟩ := get_map hx
      have hb1 := hb kind (List.mem_of_getElem? hkd)
      have hstep : (kinds.take (i + 1)).foldl (gstep off d top) ps = gstep off d top ((kinds.take i).foldl (gstep off d top) ps) kind := by rw [take_snoc hkd, List.foldl_append] <;> rfl
      have hz1 : ((kinds.take (i + 1)).foldl (gstep off d top) ps).length ≤ 100000 := by
        refine Nat.le_trans ?_ hz
        rw [grow_succ]
        have q : kinds = kinds.take (i + 1) ++ kinds.drop (i + 1) := (List.take_append_drop _ _).symm
        conv => rhs; rw [q, List.foldl_append]
        exact fold_len off d top _ _
      rw [hstep] at hz1 ⊢
      generalize (kinds.take i).foldl (gstep off d top) ps = l at hl' hz1 ⊢
      have hlen := pr_len hl'
      have hz2 : l.length + 1 ≤ 100000 := by
        refine Nat.le_trans ?_ hz1
        unfold gstep
        refine Nat.le_trans ?_ (grow_len off d _ _ _)
        rw [List.length_append]
        exact Nat.le_refl _
      match d, c_grown, hd, hb, hb1, hz1 with
      | 0, _, _, _, hb1, _ => exact absurd hb1.2 (by have := hb1.1; omega)
      | d + 1, c_grown, hd, hb, hb1, hz1 =>
      walk_at "go"
      refine n_len S.l0 ?_
      walk_at "go"
      refine ⟨tyL S.l0, ?_⟩
      walk_at "go"
      refine n_tup S (by show 2 ≤ 10000000; decide) fun t G2 H2 _ e2 _ ht S2 => ?_
      walk_at "go"
      refine n_app S2 (by omega) fun H3 S3 => ?_
      walk_at "go"
      refine n_rgG S3 (by cases off <;> simp <;> omega) fun q G4 H4 _ e4 _ hq S4 => ?_
      walk_at "go"
      rw [hlen] at ht ⊢
      refine ⟨p, q, _, l ++ [(top, (l.length : Int) + 1)], _, rgI 1 (kind - (if off then 1 else 0)), off, G4, rfl, S4, ?_, ?_, ?_, by omega, hz1, ?_⟩
      · exact pr_snoc (hl'.mono (e2.trans e4)) ⟨t, rfl, e4 _ _ ht⟩
      · rw [← rgV_eq]; exact SqL.of hq
      · intro k hk'
        have := mem_rgI hk'
        have : kind - (if off = true then 1 else 0) ≤ kind := by split <;> omega
        omega
      · intro G5 xs5 H5 e5 S5 h5
        walk_at "go"
        exact ⟨⟨_, _, rfl⟩, G5, xs5, ((e.trans e2).trans e4).trans e5, S5, h5⟩
    · rintro σ' H' ⟨_, G', xs', e, S, hl'⟩
      rw [List.length_map, List.take_length] at hl'
      exact k G' xs' H' e S hl'
theorem ok_grown {f : Addr} {fd : FuncData} (F : Fun K "grown" "grown" s_grown f fd) (T : Txt mg) (hm : mg "grown" = some (.ref f)) (hb : Binds K fd ["links", "top", "kinds", "off"] []) :
    ∀ d, FnOk P w K mg base (L2.CX P w) (d + 1) f fd ["links", "top", "kinds", "off"] (spGrown K d)
  | 0 => fn_up (body_grown F T 0 ⟨f, fd, [], ⟨fun _ _ _ _ h => h.elim, fun _ _ _ _ _ _ _ _ _ _ _ _ _ h => h.elim⟩, hm, F.kp, hb, .nil⟩)
  | d + 1 => fn_up (body_grown F T (d + 1) ⟨f, fd, [], ok_grown F T hm hb d, hm, F.kp, hb, .nil⟩)
end
end NX

namespace NX
open PySem PySem.Spec PyProof.Rows L2
open Evl (Ex ex_l ex_t fresh_back)
theorem fw_pos (off : Bool) : ∀ n, 1 ≤ fw off n ∧ 1 ≤ fwB off n
  | 0 => ⟨Int.le_refl _, Int.le_refl _⟩
  | n + 1 => by
    have h := fw_pos off n
    refine ⟨?_, h.1⟩
    rw [fw_next]
    split <;> omega
theorem fw_up (off : Bool) (n : Nat) : fw off n < fw off (n + 1) := by
  have h := fw_pos off n
  rw [fw_next]
  split <;> omega
theorem fw_le (off : Bool) {n m : Nat} (h : n ≤ m) : fw off n ≤ fw off m := by
  induction m with
  | zero => have e : n = 0 := by omega
            subst e; exact Int.le_refl _
  | succ m ih =>
    by_cases c : n = m + 1
    · subst c; exact Int.le_refl _
    · exact Int.le_trans (ih (by omega)) (Int.le_of_lt (fw_up off m))
theorem fw_small (off : Bool) {c : Nat} (h : fw off c ≤ 60) : c < 9 := by
  rcases Nat.lt_or_ge c 9 with q | q
  · exact q
  · have h1 := fw_le off q
    have h2 := fw_ten off
    omega
/-- the links of a smallest network for the channel c + 1 -/
def treeL (off : Bool) (c : Nat) : List Pr := grow off (c + 1) [] 0 (rgI 1 ((c : Int) + 1))
def treeN (off : Bool) (c : Nat) : Nat := (treeL off c).length + 1
def okTree (off : Bool) (c : Nat) : Bool := decide ((treeN off c : Int) = fw off c) && ((treeL off c).all fun q => decide (0 ≤ q.1 ∧ q.1 < q.2 ∧ q.2 < (treeN off c : Int))) && decide (treeL off c).Nodup
theorem tree_ok : ∀ off : Bool, ∀ c : Nat, c < 9 → fw off c ≤ 60 → okTree off c = true := by decide +kernel
theorem tree_facts {off : Bool} {c : Nat} (h : fw off c ≤ 60) : (treeN off c : Int) = fw off c ∧ Okl (treeN off c) (treeL off c) ∧ (treeL off c).Nodup := by
  have z := tree_ok off c (fw_small off h) h
  unfold okTree at z
  rw [Bool.and_eq_true, Bool.and_eq_true] at z
  refine ⟨of_decide_eq_true z.1.1, fun q hq => ?_, of_decide_eq_true z.2⟩
  have y := List.all_eq_true.mp z.1.2 q hq
  exact of_decide_eq_true y
abbrev s_tree : Stmt := top 18
theorem sc_tree : FnScope ["channel", "off", "links"] ["channel", "off"] (defScope s_tree) := ⟨rfl, rfl, rfl, by decide +kernel, rfl, by decide +kernel, by decide +kernel⟩
abbrev s_fibonacci_tree : Stmt := top 19
theorem sc_fibonacci_tree : FnScope ["channel"] ["channel"] (defScope s_fibonacci_tree) := ⟨rfl, rfl, rfl, by decide +kernel, rfl, by decide +kernel, by decide +kernel⟩
abbrev s_doubling_tree : Stmt := top 20
theorem sc_doubling_tree : FnScope ["channel"] ["channel"] (defScope s_doubling_tree) := ⟨rfl, rfl, rfl, by decide +kernel, rfl, by decide +kernel, by decide +kernel⟩
def spTree (C : Addr) : Sp := fun vs H Q _ => ∃ (c : Nat) (off : Bool), vs = [.int ((c : Int) + 1), .bl off] ∧ fw off c ≤ 60 ∧ ∀ x H', H x = none → Ex H H' → NetAt C (nw H H') x (treeN off c) (sortP (treeL off c)) → Q (.ref x) H'
def spTree1 (C : Addr) (off : Bool) : Sp := fun vs H Q _ => ∃ (c : Nat), vs = [.int ((c : Int) + 1)] ∧ fw off c ≤ 60 ∧ ∀ x H', H x = none → Ex H H' → NetAt C (nw H H') x (treeN off c) (sortP (treeL off c)) → Q (.ref x) H'
theorem n_tree1 {C : Addr} {off : Bool} {G H : Hp} {L : List (Addr × HO)} {i : Int} {Q : VK} {E : XK} (c : Nat) (S : Own G L H) (hi : i = (c : Int) + 1) (h : fw off c ≤ 60)
    (k : ∀ x G1 H1, H x = none → Ex G G1 → Own G1 L H1 → NetAt C G1 x (treeN off c) (sortP (treeL off c)) → Q (.ref x) H1) : spTree1 C off [.int i] H Q E := by
  subst hi
  refine ⟨c, rfl, h, fun x H' hx e N => ?_⟩
  obtain ⟨S1, e2, e3⟩ := S.absorb e
  exact k x _ H' hx e2 S1 (N.mono e3)
section
variable {P : Program} {w : World} {K : PySem.W.Frag} {mg : Str → Option Value} {base : Heap}
theorem ok_tree {f C : Addr} {fd : FuncData} (F : Fun K "tree" "tree" s_tree f fd) (T : Txt mg)
    (c_is_int : Cal P w K mg base 1 "is_int" ["value"] [] (spIsInt K))
    (k_fewest_stations_1_off : CalK P w K mg base 2 "fewest_stations" ["channel", "off"] 1 ["off"] (fun vs zs => vs ++ zs) spFewest)
    (C_grown : ∀ d, d ≤ 8 → Cal P w K mg base 9 "grown" ["links", "top", "kinds", "off"] [] (spGrown K d))
    (c_Network : Cnw P w K mg base 3 "Network" C ["self", "stations", "links"] (spInit C)) : FnOk P w K mg base CX0 10 f fd ["channel", "off"] (spTree C) := by
  refine F.ok sc_tree (fun vs H Q E h => ?_) (fun cdv A outer s H vs Q E hr h => ?_)
  · obtain ⟨c, off, rfl, _⟩ := h
    rfl
  · obtain ⟨c, off, rfl, hc, k⟩ := h
    have h9 := fw_small off hc
    have c_grown := C_grown c (by omega)
    obtain ⟨hn, hok, hnd⟩ := tree_facts hc
    refine ⟨_, (pss_cons (ps_if (PW.pt (pw_or (pt_not (pt_val (pe_cal c_is_int (hr.mono (by first | decide | omega)) passN (pa_cons (pv 0) pa_nil)))) (pw_or (pt_cmpR op_gt (pv 0) (pe_cst (by rfl) T.m_MAX_CHANNEL) (nomark _)) (pw_or (pt_cmpR op_lt (pv 0) pe_int (nomark _)) (pw_or1 (pt_cmpR op_gt (pe_calK k_fewest_stations_1_off (hr.mono (by first | decide | omega)) passN (pa_cons (pv 0) pa_nil) (pk_cons (pv 1) pk_nil)) (pe_cst (by rfl) T.m_MAX_STATIONS) (nomark _))))))) (pss_one ps_never) pss_nil)
      (pss_cons (ps_set (i := 2) sc_tree.nd rfl (Or.inl rfl) (pe_lst pa_nil))
      (pss_cons (ps_expr (pe_cal c_grown (hr.mono (by first | decide | omega)) passN (pa_cons (pv 2) (pa_cons pe_int (pa_cons (pe_listRg rfl (by rfl) T.n_list (prg_2 (by rfl) T.n_range pe_int (pv 0))) (pa_cons (pv 1) pa_nil))))))
      (pss_one (ps_ret (pe_new c_Network (hr.mono (by first | decide | omega)) passN (pa_cons (pe_op op_add (pe_callB call_lenN (by rfl) T.n_len (by decide +kernel) (pa_cons (pv 2) pa_nil)) pe_int) (pa_cons (pv 2) pa_nil)))))))), ?_⟩
    walk_at "go"
    refine g_isint ?_
    walk_at "go"
    refine if_ff (dfalse (by omega)) ?_
    walk_at "go"
    refine if_ff (dfalse (by omega)) ?_
    walk_at "go"
    refine ⟨rfl, rfl, n_few c (Own.start H) rfl (by omega) fun H1 S1 => ?_⟩
    walk_at "go"
    refine if_ff (dfalse (by omega)) ?_
    walk_at "go"
    refine n_lst S1 (by decide) fun p H2 hp S2 => ?_
    walk_at "go"
    refine n_rgG S2 (by omega) fun q G3 H3 _ e3 _ hq S3 => ?_
    walk_at "go"
    refine ⟨p, q, [], [], 0, rgI 1 ((c : Int) + 1), off, G3, rfl, S3, .nil, by rw [← rgV_eq]; exact SqL.of hq, fun k hk => ?_, by omega, ?_, ?_⟩
    · have := mem_rgI hk
      omega
    · show (treeL off c).length ≤ 100000
      have : (treeN off c : Int) ≤ 60 := by omega
      unfold treeN at this
      omega
    · intro G4 xs H4 e4 S4 hl
      have hlen := pr_len hl
      have e34 := e3.trans e4
      walk_at "go"
      refine n_len S4.l0 ?_
      walk_at "go"
      obtain ⟨S5, e5, h5⟩ := S4.freeze
      have hl5 : Lks H4 xs (treeL off c) := hl.mono (e5.trans S5.ex)
      have en : (xs.length : Int) + 1 = ((treeN off c : Nat) : Int) := by
        have hlen' : xs.length = (treeL off c).length := hlen
        rw [hlen']
        unfold treeN
        omega
      rw [en]
      have eH4 : Ex H H4 := e34.trans (e5.trans S5.ex)
      refine n_netN S4.get0 hl5 hok hnd ⟨by unfold treeN; omega, by omega⟩ (by unfold treeN at hn; omega) fun x H6 hx e6 N => ?_
      exact k x H6 (fresh_back eH4 hx) (eH4.trans e6) (N.mono (nw_mono eH4))
theorem ok_fib {f C : Addr} {fd : FuncData} (F : Fun K "fibonacci_tree" "fibonacci_tree" s_fibonacci_tree f fd) (c_tree : Cal P w K mg base 10 "tree" ["channel", "off"] [] (spTree C)) : FnOk P w K mg base CX0 11 f fd ["channel"] (spTree1 C true) := by
  refine F.ok sc_fibonacci_tree (fun vs H Q E h => ?_) (fun cdv A outer s H vs Q E hr h => ?_)
  · obtain ⟨c, rfl, _⟩ := h
    rfl
  · obtain ⟨c, rfl, hc, k⟩ := h
    refine ⟨_, (pss_one (ps_ret (pe_cal c_tree (hr.mono (by first | decide | omega)) passN (pa_cons (pv 0) (pa_cons pe_bl pa_nil))))), ?_⟩
    walk_at "go"
    exact ⟨c, true, rfl, hc, k⟩
theorem ok_dbl {f C : Addr} {fd : FuncData} (F : Fun K "doubling_tree" "doubling_tree" s_doubling_tree f fd) (c_tree : Cal P w K mg base 10 "tree" ["channel", "off"] [] (spTree C)) : FnOk P w K mg base CX0 11 f fd ["channel"] (spTree1 C false) := by
  refine F.ok sc_doubling_tree (fun vs H Q E h => ?_) (fun cdv A outer s H vs Q E hr h => ?_)
  · obtain ⟨c, rfl, _⟩ := h
    rfl
  · obtain ⟨c, rfl, hc, k⟩ := h
    refine ⟨_, (pss_one (ps_ret (pe_cal c_tree (hr.mono (by first | decide | omega)) passN (pa_cons (pv 0) (pa_cons pe_bl pa_nil))))), ?_⟩
    walk_at "go"
    exact ⟨c, false, rfl, hc, k⟩
end
end NX

namespace NX
open PySem PySem.Spec PyProof.Rows L2
open Evl (Ex ex_l ex_t fresh_back)
/-- each upper end once -/
def Up1 (ks : List Pr) : Prop := ∀ q ∈ ks, ∀ r ∈ ks, q.2 = r.2 → q = r
theorem rooted_up {n : Nat} {ks : List Pr} (ok : Okl n ks) (h : Up1 ks) : Rooted ks := by
  refine ⟨fun i => if i < (n : Int) then i.toNat else n, n, fun v x m => ?_, fun v x y mx my lx ly => ?_, fun i => ?_⟩
  · have hb := nb_rng ok m
    show (if v < (n : Int) then v.toNat else n) ≠ (if x < (n : Int) then x.toNat else n)
    rcases (mem_nb' ok).mp m with z | z
    · have := ok _ z; simp only at this
      rw [if_pos (by omega), if_pos (by omega)]; omega
    · have := ok _ z; simp only at this
      rw [if_pos (by omega), if_pos (by omega)]; omega
  · have key : ∀ x : Int, x ∈ nb ks v → ((if x < (n : Int) then x.toNat else n) < if v < (n : Int) then v.toNat else n) → (x, v) ∈ ks := fun x m l => by
      rcases (mem_nb' ok).mp m with z | z
      · have := ok _ z; simp only at this
        rw [if_pos (by omega), if_pos (by omega)] at l
        omega
      · exact z
    have := congrArg Prod.fst (h _ (key x mx lx) _ (key y my ly) rfl)
    exact this
  · show (if i < (n : Int) then i.toNat else n) ≤ n
    split <;> omega
def up1B (ks : List Pr) : Bool := ks.all fun q => ks.all fun r => decide (q.2 = r.2 → q = r)
theorem up1_of {ks : List Pr} (h : up1B ks = true) : Up1 ks := fun q hq r hr e =>
  of_decide_eq_true (List.all_eq_true.mp (List.all_eq_true.mp h q hq) r hr) e
theorem tree_up : ∀ off : Bool, ∀ c : Nat, c < 9 → fw off c ≤ 60 → up1B (treeL off c) = true := by decide +kernel
theorem tree_up1 {off : Bool} {c : Nat} (h : fw off c ≤ 60) : Up1 (treeL off c) := up1_of (tree_up off c (fw_small off h) h)
theorem mem_woL {g : Int} {ks : List Pr} {q : Pr} (h : q ∈ woL g ks) : ∃ p ∈ ks, p.1 ≠ g ∧ p.2 ≠ g ∧ q = (shf g p.1, shf g p.2) := by
  obtain ⟨p, hp, rfl⟩ := List.mem_map.mp h
  obtain ⟨h1, h2, h3⟩ := mem_woF.mp hp
  exact ⟨p, h1, h2, h3, rfl⟩
theorem woL_up {g : Int} {ks : List Pr} (h : Up1 ks) : Up1 (woL g ks) := fun q hq r hr e => by
  obtain ⟨p, hp, _, h2, rfl⟩ := mem_woL hq
  obtain ⟨s, hs, _, h4, rfl⟩ := mem_woL hr
  rw [h p hp s hs (shf_inj h2 h4 e)]
end NX

namespace NX
/-! ### a great channel needs many stations -/
/-- sizes of branches: B off k = 1 + the sizes of the smaller ones -/
def sumB (B : Nat → Int) : Nat → Int
  | 0 => 0
  | m + 1 => sumB B m + B (m + 1)
theorem sumB_mono {B : Nat → Int} (h : ∀ k, 0 ≤ B k) {a b : Nat} (e : a ≤ b) : sumB B a ≤ sumB B b := by
  induction b with
  | zero =>
    have : a = 0 := by omega
    rw [this]
    exact Int.le_refl _
  | succ b ih =>
    by_cases c : a = b + 1
    · rw [c]
      exact Int.le_refl _
    · have := ih (by omega)
      have := h (b + 1)
      show sumB B a ≤ sumB B b + B (b + 1)
      omega
/-- numbers that have a chain of m weigh at least B 1 + .. + B m -/
theorem has_sum {α : Type} {t w : α → Int} {B : Nat → Int} : ∀ (m : Nat) (l : List α), Has (l.map t) (m : Int) → (∀ o ∈ l, 0 ≤ w o) → (∀ o ∈ l, ∀ k : Nat, (k : Int) ≤ t o → B k ≤ w o) → sumB B m ≤ (l.map w).sum
  | 0, l, _, h0, _ => by
    induction l with
    | nil => exact Int.le_refl _
    | cons a l ih =>
      have := ih (by intro j h1 h2; omega) (fun o ho => h0 o (List.mem_cons_of_mem _ ho)) (by intro o ho k hk; exact (by assumption : ∀ o ∈ a :: l, ∀ k : Nat, (k : Int) ≤ t o → B k ≤ w o) o (List.mem_cons_of_mem _ ho) k hk)
      have h1 := h0 a List.mem_cons_self
      rw [List.map_cons, List.sum_cons]
      show (0 : Int) ≤ _
      have this : (0 : Int) ≤ (l.map w).sum := this
      omega
  | m + 1, l, h, h0, hB => by
    have h1 := h ((m + 1 : Nat) : Int) (by omega) (Int.le_refl _)
    have : ∃ o ∈ l, ((m + 1 : Nat) : Int) ≤ t o := by
      refine Classical.byContradiction fun z => ?_
      have e : cge (l.map t) ((m + 1 : Nat) : Int) = 0 := by
        unfold cge
        refine List.countP_eq_zero.mpr fun y hy => ?_
        obtain ⟨o, ho, rfl⟩ := List.mem_map.mp hy
        simp only [decide_eq_true_eq]
        exact fun q => z ⟨o, ho, q⟩
      rw [e] at h1
      omega
    obtain ⟨o, ho, hto⟩ := this
    obtain ⟨l1, l2, rfl⟩ := List.append_of_mem ho
    have hr : Has ((l1 ++ l2).map t) (m : Int) := fun j j1 j2 => by
      have := h j j1 (by omega)
      rw [List.map_append, List.map_cons, cge_app, cge_cons, cge_one] at this
      rw [List.map_append, cge_app]
      split at this <;> omega
    have ih := has_sum (t := t) (w := w) (B := B) m (l1 ++ l2) hr (fun x hx => h0 x (by rcases List.mem_append.mp hx with hx | hx <;> simp [hx])) (fun x hx => hB x (by rcases List.mem_append.mp hx with hx | hx <;> simp [hx]))
    have hb := hB o ho (m + 1) hto
    rw [List.map_append, List.sum_append] at ih
    rw [List.map_append, List.map_cons, List.sum_append, List.sum_cons]
    show sumB B m + B (m + 1) ≤ _
    omega
/-! sets of stations, as counts below n -/
def cnt (n : Nat) (p : Int → Bool) : Nat := (List.range n).countP fun (i : Nat) => p (i : Int)
theorem cnt_mono {n : Nat} {p q : Int → Bool} (h : ∀ x : Int, p x = true → q x = true) : cnt n p ≤ cnt n q := List.countP_mono_left fun i _ hp => h _ hp
theorem cnt_le (n : Nat) (p : Int → Bool) : cnt n p ≤ n := by
  have := List.countP_le_length (p := fun i : Nat => p (i : Int)) (l := List.range n)
  rw [List.length_range] at this
  exact this
theorem cnt_or {n : Nat} {p q : Int → Bool} (h : ∀ x : Int, p x = true → q x = true → False) : cnt n (fun x => p x || q x) = cnt n p + cnt n q := by
  unfold cnt
  induction List.range n with
  | nil => rfl
  | cons a l ih =>
    rw [List.countP_cons, List.countP_cons, List.countP_cons, ih]
    cases c1 : p (a : Int) <;> cases c2 : q (a : Int)
    · simp [c1, c2]
    · simp [c1, c2] <;> omega
    · simp [c1, c2] <;> omega
    · exact (h _ c1 c2).elim
theorem cnt_one {n : Nat} {v : Int} (h : 0 ≤ v ∧ v < (n : Int)) : 1 ≤ cnt n (fun x => decide (x = v)) := by
  unfold cnt
  refine List.one_le_countP_iff.mpr ⟨v.toNat, List.mem_range.mpr (by omega), ?_⟩
  simp
  omega
/-- sets that have nothing in common, within another: their sizes -/
theorem cnt_sum {n : Nat} {α : Type} {S : α → Int → Bool} : ∀ {l : List α} {p : Int → Bool}, l.Nodup → (∀ a ∈ l, ∀ x, S a x = true → p x = true) → (∀ a ∈ l, ∀ b ∈ l, a ≠ b → ∀ x, S a x = true → S b x = true → False) → ((l.map fun a => (cnt n (S a) : Int)).sum) ≤ (cnt n p : Int)
  | [], p, _, _, _ => by simp
  | a :: l, p, nd, h1, h2 => by
    have nd' := List.nodup_cons.mp nd
    have ih := cnt_sum (n := n) (S := S) (l := l) (p := fun x => p x && !S a x) nd'.2 (fun b hb x hx => by
      have p1 := h1 b (List.mem_cons_of_mem _ hb) x hx
      have p2 : S a x = false := by
        cases c : S a x with
        | false => rfl
        | true => exact (h2 a List.mem_cons_self b (List.mem_cons_of_mem _ hb) (fun e => nd'.1 (e ▸ hb)) x c hx).elim
      rw [p1, p2] <;> rfl) (fun b hb c hc => h2 b (List.mem_cons_of_mem _ hb) c (List.mem_cons_of_mem _ hc))
    have hor := cnt_or (n := n) (p := S a) (q := fun x => p x && !S a x) fun x e1 e2 => by
      simp only [Bool.and_eq_true, Bool.not_eq_true'] at e2
      rw [e1] at e2
      cases e2.2
    have hle := cnt_mono (n := n) (p := fun x => S a x || (p x && !S a x)) (q := p) fun x hx => by
      rcases Bool.or_eq_true_iff.mp hx with e | e
      · exact h1 a List.mem_cons_self x e
      · exact (Bool.and_eq_true_iff.mp e).1
    rw [List.map_cons, List.sum_cons]
    omega
end NX

namespace NX
/-! ### what stands beyond a directed link -/
/-- the stations of one, with above's side away -/
def far (ks : List Pr) (idx : Int → Nat) (one above x : Int) : Bool := if idx above < idx one then dsc ks idx one x else !dsc ks idx above x
theorem dsc_trans {ks : List Pr} {idx : Int → Nat} {N : Nat} (h : Rt ks idx N) {c d : Int} (hcd : dsc ks idx c d = true) : ∀ (k : Nat) (x : Int), idx x ≤ k → dsc ks idx d x = true → dsc ks idx c x = true := by
  intro k
  induction k with
  | zero =>
    intro x hx hd
    have := dsc_le hd
    by_cases e : x = d
    · rw [e]; exact hcd
    · -- no parent
      unfold dsc at hd
      have hz : idx x = 0 := by omega
      rw [hz] at hd
      exact absurd (of_decide_eq_true hd) e
  | succ k ih =>
    intro x hx hd
    by_cases e : x = d
    · rw [e]; exact hcd
    · cases hp : par ks idx x with
      | none =>
        unfold dsc at hd
        cases hz : idx x with
        | zero =>
          rw [hz] at hd
          exact absurd (of_decide_eq_true hd) e
        | succ m =>
          rw [hz] at hd
          have hd : (decide (x = d) || match par ks idx x with | some p => anc ks idx d m p | none => false) = true := hd
          rw [hp, decide_eq_false e] at hd
          cases hd
      | some p =>
        obtain ⟨h1, h2⟩ := par_some hp
        rw [dsc_step h h1 h2 e] at hd
        by_cases e2 : x = c
        · rw [e2]; exact dsc_self ks idx c
        · rw [dsc_step h h1 h2 e2]
          exact ih p (by omega) hd
/-- of two stations above x one stands above the other -/
theorem dsc_two {ks : List Pr} {idx : Int → Nat} {N : Nat} (h : Rt ks idx N) {c d : Int} : ∀ (k : Nat) (x : Int), idx x ≤ k → dsc ks idx c x = true → dsc ks idx d x = true → dsc ks idx c d = true ∨ dsc ks idx d c = true := by
  intro k
  induction k with
  | zero =>
    intro x hx hc hd
    have a : x = c := by
      unfold dsc at hc
      have hz : idx x = 0 := by omega
      rw [hz] at hc
      exact of_decide_eq_true hc
    rw [a] at hd
    exact .inr hd
  | succ k ih =>
    intro x hx hc hd
    by_cases e : x = c
    · rw [e] at hd
      exact .inr hd
    · by_cases e2 : x = d
      · rw [e2] at hc
        exact .inl hc
      · cases hp : par ks idx x with
        | none =>
          unfold dsc at hc
          cases hz : idx x with
          | zero =>
            rw [hz] at hc
            exact absurd (of_decide_eq_true hc) e
          | succ m =>
            rw [hz] at hc
            have hc : (decide (x = c) || match par ks idx x with | some p => anc ks idx c m p | none => false) = true := hc
            rw [hp, decide_eq_false e] at hc
            cases hc
        | some p =>
          obtain ⟨h1, h2⟩ := par_some hp
          rw [dsc_step h h1 h2 e] at hc
          rw [dsc_step h h1 h2 e2] at hd
          exact ih p (by omega) hc hd
/-- a neighbour of greater index stands below -/
theorem dsc_child {ks : List Pr} {idx : Int → Nat} {N : Nat} (h : Rt ks idx N) {n : Nat} (ok : Okl n ks) {one c : Int} (hc : c ∈ nb ks one) (lt : idx one < idx c) : dsc ks idx one c = true := by
  have hp : one ∈ nb ks c := (nb_sym ok).mp hc
  rw [dsc_step h hp lt (fun e => by rw [e] at lt; omega)]
  exact dsc_self ks idx one
/-- two of them have nothing in common -/
theorem dsc_apart {ks : List Pr} {idx : Int → Nat} {N : Nat} (h : Rt ks idx N) {n : Nat} (ok : Okl n ks) {one c d x : Int} (hc : c ∈ nb ks one) (hd : d ∈ nb ks one) (lc : idx one < idx c) (ld : idx one < idx d) (ne : c ≠ d) (xc : dsc ks idx c x = true) (xd : dsc ks idx d x = true) : False := by
  have sub : ∀ {a b : Int}, a ∈ nb ks one → b ∈ nb ks one → idx one < idx a → idx one < idx b → a ≠ b → dsc ks idx a b = true → False := fun {a b} ha hb la lb nab hab => by
    have hp : one ∈ nb ks b := (nb_sym ok).mp hb
    rw [dsc_step h hp lb (fun e => nab e.symm)] at hab
    have := dsc_le hab
    omega
  rcases dsc_two h (idx x) x (Nat.le_refl _) xc xd with e | e
  · exact sub hc hd lc ld ne e
  · exact sub hd hc ld lc (Ne.symm ne) e
theorem far_self {ks : List Pr} {idx : Int → Nat} {N : Nat} (h : Rt ks idx N) {one above : Int} (ha : above ∈ nb ks one) : far ks idx one above one = true := by
  have hn := h.ne one above ha
  unfold far
  split
  · exact dsc_self ks idx one
  · rw [show dsc ks idx above one = false from dsc_low _ one (by omega)] <;> rfl
theorem far_not {ks : List Pr} {idx : Int → Nat} {N : Nat} (h : Rt ks idx N) {one o : Int} {n : Nat} (ok : Okl n ks) (ho : o ∈ nb ks one) : far ks idx o one one = false := by
  have hn := h.ne one o ho
  unfold far
  split
  · rename_i c
    exact dsc_low _ one c
  · rw [dsc_self] <;> rfl
/-- the branches below one stand apart -/
theorem far_apart {ks : List Pr} {idx : Int → Nat} {N : Nat} (h : Rt ks idx N) {n : Nat} (ok : Okl n ks) {one a b x : Int} (ha : a ∈ nb ks one) (hb : b ∈ nb ks one) (ne : a ≠ b) (xa : far ks idx a one x = true) (xb : far ks idx b one x = true) : False := by
  have na := h.ne one a ha
  have nb' := h.ne one b hb
  unfold far at xa xb
  by_cases ca : idx one < idx a
  · rw [if_pos ca] at xa
    by_cases cb : idx one < idx b
    · rw [if_pos cb] at xb
      exact dsc_apart h ok ha hb ca cb ne xa xb
    · rw [if_neg cb] at xb
      have := dsc_trans h (dsc_child h ok ha ca) (idx x) x (Nat.le_refl _) xa
      rw [this] at xb
      cases xb
  · rw [if_neg ca] at xa
    by_cases cb : idx one < idx b
    · rw [if_pos cb] at xb
      have := dsc_trans h (dsc_child h ok hb cb) (idx x) x (Nat.le_refl _) xb
      rw [this] at xa
      cases xa
    · exact ne (h.one one a b ha hb (by omega) (by omega))
/-- .. within it -/
theorem far_in {ks : List Pr} {idx : Int → Nat} {N : Nat} (h : Rt ks idx N) {n : Nat} (ok : Okl n ks) {one above o x : Int} (ha : above ∈ nb ks one) (ho : o ∈ nb ks one) (ne : o ≠ above) (xo : far ks idx o one x = true) : far ks idx one above x = true := by
  have na := h.ne one above ha
  have no := h.ne one o ho
  unfold far at xo ⊢
  by_cases ca : idx above < idx one
  · rw [if_pos ca]
    have co : idx one < idx o := by
      by_cases z : idx o < idx one
      · exact absurd (h.one one o above ho ha z ca) ne
      · omega
    rw [if_pos co] at xo
    exact dsc_trans h (dsc_child h ok ho co) (idx x) x (Nat.le_refl _) xo
  · rw [if_neg ca]
    have hno : dsc ks idx above x = false := by
      cases e : dsc ks idx above x with
      | false => rfl
      | true =>
        exfalso
        refine far_apart h ok ha ho (Ne.symm ne) (x := x) ?_ (by unfold far; exact xo)
        unfold far
        rw [if_pos (by omega)]
        exact e
    rw [hno] <;> rfl
end NX

namespace NX
open PySem PySem.Spec PyProof.Rows L2
open Evl (Ex ex_l ex_t fresh_back)
abbrev s_branches : Stmt := top 26
theorem sc_branches : FnScope ["network", "found", "left", "later", "one", "above", "below", "other", "link"] ["network"] (defScope s_branches) := ⟨rfl, rfl, rfl, by decide +kernel, rfl, by decide +kernel, by decide +kernel⟩
abbrev s_greatest_at : Stmt := top 27
theorem sc_greatest_at : FnScope ["network", "known", "top", "one"] ["network", "known", "top"] (defScope s_greatest_at) := ⟨rfl, rfl, rfl, by decide +kernel, rfl, by decide +kernel, by decide +kernel⟩
abbrev s_greatest_by_order : Stmt := top 28
theorem sc_greatest_by_order : FnScope ["network", "known", "top"] ["network"] (defScope s_greatest_by_order) := ⟨rfl, rfl, rfl, by decide +kernel, rfl, by decide +kernel, by decide +kernel⟩
def spBranches (C : Addr) : Sp := fun vs H Q _ => ∃ (a : Addr) (n : Nat) (ks : List Pr), vs = [.ref a] ∧ NetAt C H a n ks ∧ OrdM ks ∧ ∀ kvs f, KnD kvs ks f → Ret (.dT kvs) H Q
def spGAt (C : Addr) : Sp := fun vs H Q _ => ∃ (a p : Addr) (n : Nat) (ks : List Pr) (kvs : List (List L2.Key × V)) (f : Int → Int → Int) (i : Int), vs = [.ref a, .ref p, .int i] ∧ NetAt C H a n ks ∧ H p = some (.dT kvs) ∧ KnD kvs ks f ∧ (0 ≤ i ∧ i < (n : Int)) ∧
  ∀ g H', Ex H H' → IsCh ((nb ks i).map fun o => f o i) g → Q (.int (1 + g)) H'
/-- the greatest channels by order -/
def OrdF (n : Nat) (ks : List Pr) (os : List Int) : Prop := os.length = n ∧ ∃ f, BrF ks f ∧ ∀ i : Nat, i < n → IsCh ((nb ks (i : Int)).map fun o => f o (i : Int)) (tv os (i : Int) - 1)
def spGBO (C : Addr) : Sp := fun vs H Q _ => ∃ (a : Addr) (n : Nat) (ks : List Pr), vs = [.ref a] ∧ NetAt C H a n ks ∧ OrdM ks ∧ Brg ks ∧ ∀ os, OrdF n ks os → Ret (.tup (os.map V.int)) H Q
theorem n_gbo {C : Addr} {G H : Hp} {L : List (Addr × HO)} {a : Addr} {n : Nat} {ks : List Pr} {Q : VK} {E : XK} (S : Own G L H) (N : NetAt C G a n ks) (o : OrdM ks) (b : Brg ks)
    (k : ∀ os p G1 H1, OrdF n ks os → H p = none → Ex G G1 → Ex H H1 → G1 p = some (.tup (os.map V.int)) → Own G1 L H1 → Q (.ref p) H1) : spGBO C [.ref a] H Q E :=
  ⟨a, n, ks, rfl, N.mono S.ex, o, b, fun os ho => n_retG S fun p G1 H1 => k os p G1 H1 ho⟩
theorem n_dput {G H : Hp} {L : List (Addr × HO)} {p t : Addr} {kvs : List (List L2.Key × V)} {q : Pr} {v : V} {R : Hp → Prop} (S : Own G ((p, .dT kvs) :: L) H) (ht : H t = some (.tup [.int q.1, .int q.2])) (hz : kvs.length ≤ 1000000) (k : ∀ H1, Own G ((p, .dT (putK kvs (keyP q) v)) :: L) H1 → R H1) :
    ∃ a H4, V.ref p = .ref a ∧ DPut H a (.ref t) v H4 ∧ R H4 :=
  ⟨p, _, rfl, DPut.t (k := keyP q) S.get0 ht (smallL (Nat.le_trans hz (by decide))), k _ S.put0⟩
theorem n_dget {H : Hp} {p t : Addr} {kvs : List (List L2.Key × V)} {q : Pr} {v : V} {Q : VK} (h : H p = some (.dT kvs)) (ht : H t = some (.tup [.int q.1, .int q.2])) (e : valV kvs (keyP q) = some v) (k : Q v H) : ∃ a v', V.ref p = .ref a ∧ DGet H a (.ref t) (some v') ∧ Q v' H :=
  ⟨p, v, rfl, e ▸ DGet.t (k := keyP q) h ht, k⟩
theorem n_din {H : Hp} {p t : Addr} {kvs : List (List L2.Key × V)} {q : Pr} {Q : VK} (h : H p = some (.dT kvs)) (ht : H t = some (.tup [.int q.1, .int q.2])) (k : Q (.bl (valV kvs (keyP q)).isSome) H) : ∃ a o, V.ref p = .ref a ∧ DGet H a (.ref t) o ∧ Q (.bl o.isSome) H :=
  ⟨p, _, rfl, DGet.t (k := keyP q) h ht, k⟩
theorem g_dget {td ty : TE} {σ : L2.St} {H : Hp} {Q : VK} (k : td σ H fun x H1 => ty σ H1 fun y H2 => ∃ a v, x = .ref a ∧ DGet H2 a y (some v) ∧ Q v H2) : tDGet td ty σ H Q := k
theorem g_din {td ty : TE} {σ : L2.St} {H : Hp} {Q : VK} (k : ty σ H fun y H1 => td σ H1 fun x H2 => ∃ a o, x = .ref a ∧ DGet H2 a y o ∧ Q (.bl o.isSome) H2) : tDIn ty td σ H Q := k
theorem s_dput {td ty tv : TE} {D : Ends} {σ : L2.St} {H : Hp} (k : tv σ H fun v H1 => td σ H1 fun x H2 => ty σ H2 fun y H3 => ∃ a H4, x = .ref a ∧ DPut H3 a y v H4 ∧ D.nx σ H4) : sDPut td ty tv D σ H := k
theorem g_dnew {σ : L2.St} {H : Hp} {Q : VK} (k : ∀ p, H p = none → Q (.ref p) (upd H p (.dT []))) : tDNewT σ H Q := k
/-- all directed links -/
def dirL (n : Nat) (ks : List Pr) : List Pr := (List.range n).flatMap fun (i : Nat) => (nb ks (i : Int)).map fun o => ((i : Int), o)
theorem mem_dir {n : Nat} {ks : List Pr} (ok : Okl n ks) {q : Pr} : q ∈ dirL n ks ↔ q.2 ∈ nb ks q.1 := by
  unfold dirL
  rw [List.mem_flatMap]
  constructor
  · rintro ⟨i, _, hq⟩
    obtain ⟨o, ho, rfl⟩ := List.mem_map.mp hq
    exact ho
  · intro h
    have b := nb_rng ok h
    refine ⟨q.1.toNat, List.mem_range.mpr (by omega), List.mem_map.mpr ⟨q.2, ?_, ?_⟩⟩
    · have e : ((q.1.toNat : Nat) : Int) = q.1 := by omega
      rw [e]
      exact h
    · exact Prod.ext (by show ((q.1.toNat : Nat) : Int) = q.1; omega) rfl
theorem dir_snoc (i : Nat) (ks : List Pr) : dirL (i + 1) ks = dirL i ks ++ (nb ks (i : Int)).map fun o => ((i : Int), o) := by
  unfold dirL
  rw [List.range_succ, List.flatMap_append]
  simp
theorem dir_len {n : Nat} {ks : List Pr} (ok : Okl n ks) (u : Up ks) (d : ks.Nodup) : ∀ i : Nat, (dirL i ks).length ≤ i * n
  | 0 => by simp [dirL]
  | i + 1 => by
    rw [dir_snoc, List.length_append, List.length_map, Nat.succ_mul]
    have := dir_len ok u d i
    have := I_len ok u d (i : Int)
    omega
/-- one of the links left has all below it done -/
theorem progress {ks rem kn : List Pr} (o : OrdM ks) (h1 : ∀ q ∈ rem, q.2 ∈ nb ks q.1) (h2 : ∀ q : Pr, q.2 ∈ nb ks q.1 → q ∈ kn ∨ q ∈ rem) (sym : ∀ i j : Int, j ∈ nb ks i → i ∈ nb ks j) (h3 : ∀ q ∈ rem, ∃ b ∈ belowL ks q, (b, q.1) ∉ kn) : rem = [] := by
  obtain ⟨m, hm⟩ := o
  have key : ∀ (t : Nat) (q : Pr), q ∈ rem → m q.1 q.2 = t → False := by
    intro t
    induction t using Nat.strongRecOn with
    | ind t ih =>
      intro q hq ht
      obtain ⟨b, hb, hno⟩ := h3 q hq
      obtain ⟨b1, b2⟩ := mem_below.mp hb
      have hd : (b, q.1).2 ∈ nb ks (b, q.1).1 := sym _ _ b1
      have hr := (h2 (b, q.1) hd).resolve_left hno
      have lt := hm q.1 q.2 b (h1 q hq) b1 b2
      exact ih (m b q.1) (by omega) (b, q.1) hr rfl
  cases rem with
  | nil => rfl
  | cons q l => exact (key _ q List.mem_cons_self rfl).elim
section
variable {P : Program} {w : World} {K : PySem.W.Frag} {mg : Str → Option Value} {base : Heap} {C : Addr}
theorem ok_branches {f : Addr} {fd : FuncData} (F : Fun K "branches" "branches" s_branches f fd) (T : Txt mg) (NC : NetC K C) (c_chain : Cal P w K mg base 1 "chain" ["numbers"] [] (spChain K)) (M_len : Mth P w K mg base 1 C "__len__" ["self"] (spLen C)) : FnOk P w K mg base CX0 3 f fd ["network"] (spBranches C) := by
  refine F.ok sc_branches (fun vs H Q E h => ?_) (fun cdv A outer s H vs Q E hr h => ?_)
  · obtain ⟨a, n, ks, rfl, _⟩ := h
    rfl
  · obtain ⟨a, n, ks, rfl, N, ord, k⟩ := h
    have hu65 : ∀ X : Cx, X.A = A.deeper (envOfC "branches" (defScope s_branches) s.heap.objs.size f cdv) → X.A.units + 65 < cLine := fun X e => by rw [e]; have := hr.un; omega
    obtain ⟨dx, kp, np, xs, nps, o⟩ := N.at_
    have ok := N.ok
    have hn := N.sz
    refine ⟨_, (pss_cons (ps_set (i := 1) sc_branches.nd rfl (Or.inr rfl) pe_dnewT)
      (pss_cons (ps_setLc2 (i := 2) (own := [("one", 4), ("above", 5)]) (vs1 := [5]) (by rfl) sc_branches.nd rfl rfl (sw_true rfl rfl rfl (by decide +kernel)) (pi_range1 (by rfl) T.n_range (pa_cons (pe_callB (call_lenNet NC M_len (hr.mono (by first | decide | omega))) (by rfl) T.n_len (by decide +kernel) (pa_cons (pv 0) pa_nil)) pa_nil)) (blkOk_by (own := [("one", 4), ("above", 5)]) (N := ["network", "found", "left", "later", "one", "above", "below", "other", "link"]) (sc := defScope s_branches) (by decide +kernel)) (by decide) (fun _ _ _ _ _ => (pg_name (i := 4) sc_branches.nd rfl (Or.inl rfl))) (fun _ _ _ _ _ => pts_nil) (fun _ _ _ _ _ => (pi_listK (K := K) (pe_ix (ix_listK (K := K)) (pe_fldK (K := K) (pv 0) rfl) (pv 4) (fun _ _ => rfl)))) (fun _ _ _ _ _ => (pg_name (i := 5) sc_branches.nd rfl (Or.inl rfl))) (fun _ _ _ _ _ => pts_nil) (fun _ _ _ _ _ => (pe_tup (pa_cons (pv 4) (pa_cons (pv 5) pa_nil)))))
      (pss_cons (ps_while PassesOwn.never (pt_cmpR (op_neD (Nat.lt_of_succ_lt (hu65 _ rfl))) (pv 2) (pe_lst pa_nil) (nomark _)) (pss_cons (ps_set (i := 3) sc_branches.nd rfl (Or.inl rfl) (pe_lst pa_nil))
      (pss_cons (ps_for PassesOwn.never rfl (pi_list (pv 2)) (pg_tup (n := 2) rfl (pgs_cons (pg_name (i := 4) sc_branches.nd rfl (Or.inr rfl)) (pgs_cons (pg_name (i := 5) sc_branches.nd rfl (Or.inr rfl)) pgs_nil))) (pss_cons (ps_setLc (i := 6) (own := [("other", 7)]) (by rfl) sc_branches.nd rfl rfl (sw_true rfl rfl rfl (by decide +kernel)) (pi_list (pe_ix ix_list (pe_fld (pv 0) rfl) (pv 4) (fun _ _ => rfl))) (blkOk_by (own := [("other", 7)]) (N := ["network", "found", "left", "later", "one", "above", "below", "other", "link"]) (sc := defScope s_branches) (by decide +kernel)) (fun _ _ _ _ _ => (pg_name (i := 7) sc_branches.nd rfl (Or.inl rfl))) (fun _ _ _ _ _ => (pts_one (pt_cmpR op_ne (pv 7) (pv 5) (nomark _)))) (fun _ _ _ _ _ => (pe_tup (pa_cons (pv 7) (pa_cons (pv 4) pa_nil)))))
      (pss_one (ps_if (pt_val (pe_callB (cr_all rfl) (by rfl) T.n_all (by decide +kernel) (pa_cons (pe_lc (own := [("link", 8)]) (by rfl) sc_branches.nd (pi_list (pv 6)) (blkOk_by (own := [("link", 8)]) (N := ["network", "found", "left", "later", "one", "above", "below", "other", "link"]) (sc := defScope s_branches) (by decide +kernel)) (fun _ _ _ _ _ => (pg_name (i := 8) sc_branches.nd rfl (Or.inl rfl))) (fun _ _ _ _ _ => pts_nil) (fun _ _ _ _ _ => (pe_cmp (pc_din (hu1 (hu65 _ rfl)) (pv 8) (pv 1))))) pa_nil))) (pss_one (ps_dput (hu1 (hu65 _ rfl)) (pv 1) (pe_tup (pa_cons (pv 4) (pa_cons (pv 5) pa_nil))) (pe_op op_add pe_int (pe_cal c_chain (hr.mono (by first | decide | omega)) passN (pa_cons (pe_lc (own := [("link", 8)]) (by rfl) sc_branches.nd (pi_list (pv 6)) (blkOk_by (own := [("link", 8)]) (N := ["network", "found", "left", "later", "one", "above", "below", "other", "link"]) (sc := defScope s_branches) (by decide +kernel)) (fun _ _ _ _ _ => (pg_name (i := 8) sc_branches.nd rfl (Or.inl rfl))) (fun _ _ _ _ _ => pts_nil) (fun _ _ _ _ _ => (pe_dget (hu1 (hu65 _ rfl)) (pv 1) (pv 8) (fun _ _ => rfl)))) pa_nil))) rfl)) (pss_one (ps_expr (pe_bm PySem.F.plainAttrs_list PySem.F.slot_list_append PySem.F.type_list_append mt_append (pv 3) (pa_cons (pe_tup (pa_cons (pv 4) (pa_cons (pv 5) pa_nil))) pa_nil))))))))
      (pss_one (ps_set (i := 2) sc_branches.nd rfl (Or.inl rfl) (pv 3))))))
      (pss_one (ps_ret (pv 1)))))), ?_⟩
    walk_at "go"
    refine g_dnew fun fp hfp => ?_
    have S1 := (Own.start H).lay (o := .dT []) hfp
    walk_at "go"
    refine g_lc2 ?_
    walk_at "go"
    refine n_lenNet (N.mono S1.ex) ?_
    walk_at "go"
    refine v2_rng1 (j := (n : Int)) (fun i acc G' L' => L' = [(fp, .dT [])] ∧ Lks G' acc (dirL i ks)) S1 (by omega) ⟨rfl, .nil⟩ ?_ ?_
    · rintro D i acc G' L' H' hi e' ⟨rfl, ha⟩ S'
      obtain ⟨pi, hpi⟩ : ∃ p, nps[i]? = some p := ⟨_, List.getElem?_eq_getElem (by have := o.len; omega)⟩
      have o' := o.mono e'
      have oH := o'.mono S'.ex
      walk_at "go"
      refine ⟨rfl, ?_⟩
      walk_at "go"
      refine n_fld oH.ins NC.cl NC.nN (nf_near kp np) ?_
      walk_at "go"
      refine g_ixL (SqL.of oH.near) (atI_nat (j := i) (v := .ref pi) (by rw [List.getElem?_map, hpi] <;> rfl)) ?_
      have hdl := dir_len ok N.up N.nd i
      have hil := I_len ok N.up N.nd (i : Int)
      have hb1 : i * n ≤ 60 * 60 := Nat.mul_le_mul (by omega) hn.2
      refine v2_list (ys := (nb ks (i : Int)).map V.int) (fun j acc2 G2 L2 => L2 = [(fp, .dT [])] ∧ Lks G2 acc2 (dirL i ks ++ ((nb ks (i : Int)).take j).map fun o => ((i : Int), o))) S' (SqL.of (o'.each i pi hpi)) ⟨rfl, by rw [List.take_zero]; show Lks G' acc (_ ++ []); rw [List.append_nil]; exact ha⟩ ?_ ?_
      · rintro j y acc2 G2 L2 H2 hy e2 ⟨rfl, ha2⟩ S2
        obtain ⟨z, hz, rfl⟩ := get_map hy
        walk_at "go"
        refine ⟨rfl, ?_⟩
        walk_at "go"
        refine n_tup S2 (by show 2 ≤ 10000000; decide) fun t G3 H3 _ e3 _ ht S3 => ?_
        have hl2 : acc2.length ≤ 1000000 := by
          rw [pr_len ha2, List.length_append, List.length_map, List.length_take]
          omega
        refine c2_yes (F := fun j acc2 G2 L2 => L2 = [(fp, .dT [])] ∧ Lks G2 acc2 (dirL i ks ++ ((nb ks (i : Int)).take j).map fun o => ((i : Int), o))) S3 (e2.trans e3) hl2 ⟨rfl, ?_⟩
        rw [take_snoc hz, List.map_append, ← List.append_assoc]
        exact pr_snoc (ha2.mono e3) ⟨t, rfl, ht⟩
      · rintro acc2 G2 L2 H2 e2 ⟨rfl, ha2⟩ S2
        rw [List.length_map, List.take_length] at ha2
        exact ⟨acc2, G2, _, e'.trans e2, ⟨rfl, by rw [dir_snoc]; exact ha2⟩, S2⟩
    · rintro lq acc G2 L2 H2 e2H ⟨rfl, ha⟩ S2
      have ha : Lks G2 acc (dirL n ks) := by
        have z : (n : Int).toNat = n := by omega
        rw [z] at ha
        exact ha
      obtain ⟨S3, e3, hlq⟩ := S2.freeze
      have ha3 := ha.mono e3
      generalize upd G2 lq (.lst acc) = G3 at S3 e3 hlq ha3
      have hdl : (dirL n ks).length ≤ 3600 := Nat.le_trans (dir_len ok N.up N.nd n) (Nat.mul_le_mul hn.2 hn.2)
      walk_at "go"
      refine s_while (fun m σ' H' => ∃ (lq : Addr) (xs : List V) (rem kn : List Pr) (kvs : List (List L2.Key × V)) (G' : Hp), (∃ x1 x2 x3 x4 x5 x6, σ' = [some (.ref a), some (.ref fp), some (.ref lq), x1, x2, x3, x4, x5, x6]) ∧ m = rem.length ∧ Ex G3 G' ∧ Own G' [(fp, .dT kvs)] H' ∧ G' lq = some (.lst xs) ∧ Lks G' xs rem ∧
        BrS ks kvs kn ∧ (∀ q ∈ rem, q.2 ∈ nb ks q.1) ∧ (∀ q : Pr, q.2 ∈ nb ks q.1 → q ∈ kn ∨ q ∈ rem) ∧ kvs.length + rem.length ≤ 3600) _
        ⟨lq, acc, dirL n ks, [], [], G3, ⟨_, _, _, _, _, _, rfl⟩, rfl, Ex.refl _, S3, hlq, ha3, ⟨fun q hq => (nomatch hq), fun q hq => (nomatch hq), fun q _ => rfl, fun q hq => (nomatch hq), fun q hq => (nomatch hq)⟩, fun q hq => (mem_dir ok).mp hq, fun q hq => .inr ((mem_dir ok).mpr hq), by simpa using hdl⟩ ?_
      rintro m σ' H' ⟨lq, xs, rem, kn, kvs, G', ⟨x1, x2, x3, x4, x5, x6, rfl⟩, rfl, eG, S, hlq, hl, br, hrem, hall, hrl⟩
      walk_at "go"
      refine n_lst S (by decide) fun e4 H4 _ S4 => ?_
      walk_at "go"
      refine n_neNil (data_lks hl) S4.ex (fun y h => h) (SqL.of (S4.ex _ _ hlq)) S4.l0 ?_
      walk_at "go"
      have S5 := S4.forget
      refine if_2 (fun c => ?_) (fun c => ?_)
      · have hne : rem ≠ [] := fun z => by
          subst z
          cases hl
          rw [dtrue rfl] at c
          cases c
        refine s_turn ?_
        walk_at "go"
        refine n_lst S5 (by decide) fun lt H6 hlt S6 => ?_
        walk_at "go"
        refine w_list (xs := xs) (fun j σ' H' => ∃ (ys : List V) (lat kn2 : List Pr) (kvs2 : List (List L2.Key × V)) (G2 : Hp), (∃ x2 x3 x4 x5 x6, σ' = [some (.ref a), some (.ref fp), some (.ref lq), some (.ref lt), x2, x3, x4, x5, x6]) ∧ Ex G' G2 ∧ Own G2 [(lt, .lst ys), (fp, .dT kvs2)] H' ∧ Lks G2 ys lat ∧
          BrS ks kvs2 kn2 ∧ (∀ q ∈ lat, q.2 ∈ nb ks q.1) ∧ (∀ q : Pr, q.2 ∈ nb ks q.1 → q ∈ kn2 ∨ q ∈ lat ∨ q ∈ rem.drop j) ∧ lat.length ≤ j ∧ kvs2.length + lat.length ≤ kvs.length + j ∧ (lat.length = j → kn2 = kn ∧ ∀ q ∈ rem.take j, ∃ b ∈ belowL ks q, (b, q.1) ∉ kn))
          (SqL.of (S6.ex _ _ hlq)) ⟨[], [], kn, kvs, G', ⟨_, _, _, _, _, rfl⟩, Ex.refl _, S6, .nil, br, fun q hq => (nomatch hq), fun q hq => (hall q hq).imp id .inr, Nat.le_refl _, Nat.le_refl _, fun _ => ⟨rfl, fun q hq => (nomatch hq)⟩⟩ (fun j σ' H' ⟨_, _, _, _, G2, _, e2, S, _⟩ => SqL.of (S.ex _ _ (e2 _ _ hlq))) ?_ ?_
        · rintro j y σ' H' hy ⟨ys, lat, kn2, kvs2, G2, ⟨x2, x3, x4, x5, x6, rfl⟩, e2, S, hys, br2, hlat, hcov, hll, hkk, hstop⟩
          obtain ⟨q, hq, t, rfl, ht⟩ := pr_get hl hy
          have hqm := List.mem_of_getElem? hq
          have hqn := hrem q hqm
          have hb := nb_rng ok hqn
          have hj : j < rem.length := (List.getElem?_eq_some_iff.mp hq).1
          have hdrop : rem.drop j = q :: rem.drop (j + 1) := by
            obtain ⟨h1, h2⟩ := List.getElem?_eq_some_iff.mp hq
            rw [List.drop_eq_getElem_cons h1, h2]
          obtain ⟨qi, hqi⟩ : ∃ m : Nat, q.1 = (m : Int) := ⟨q.1.toNat, by omega⟩
          obtain ⟨pi, hpi⟩ : ∃ p, nps[qi]? = some p := ⟨_, List.getElem?_eq_getElem (by have := o.len; omega)⟩
          have o2 := ((o.mono (e2H.trans e3)).mono eG).mono e2
          have o2H := o2.mono S.ex
          have hz2 := I_len ok N.up N.nd q.1
          refine s_gtup (SqT.of (S.ex _ _ (e2 _ _ ht))) rfl ?_
          walk_at "go"
          refine n_fld o2H.ins NC.cl NC.nN (nf_near kp np) ?_
          walk_at "go"
          rw [hqi]
          refine g_ixL (SqL.of o2H.near) (atI_nat (j := qi) (v := .ref pi) (by rw [List.getElem?_map, hpi] <;> rfl)) ?_
          have hnear := o2.each qi pi hpi
          rw [← hqi] at hnear ⊢
          refine v_list (xs := (nb ks q.1).map V.int) (fun m acc G5 L5 => L5 = [(lt, .lst ys), (fp, .dT kvs2)] ∧ Lks G5 acc ((((nb ks q.1).take m).filter fun o => !decide (o = q.2)).map fun o => (o, q.1))) S (SqL.of hnear) (by rw [List.length_map]; omega) ⟨rfl, .nil⟩ ?_ ?_
          · rintro D m x acc G5 L5 H5 hx hm e5 hl5 ⟨rfl, ha5⟩ S5
            obtain ⟨z, hz, rfl⟩ := get_map hx
            walk_at "go"
            refine ⟨rfl, ?_⟩
            walk_at "go"
            have e4 : (((nb ks q.1).take (m + 1)).filter fun o => !decide (o = q.2)) = (((nb ks q.1).take m).filter fun o => !decide (o = q.2)) ++ [z].filter (fun o => !decide (o = q.2)) := by rw [take_snoc hz, List.filter_append]
            refine if_2 (fun c => ?_) (fun c => ?_)
            · walk_at "go"
              refine n_tup S5 (by show 2 ≤ 10000000; decide) fun t6 G6 H6 _ e6 _ ht6 S6 => ?_
              refine c_yes S6 (e5.trans e6) hl5 hm ⟨rfl, ?_⟩
              rw [e4, List.filter_cons, if_pos c, List.map_append]
              exact pr_snoc (ha5.mono e6) ⟨t6, rfl, ht6⟩
            · refine c_no S5 e5 hl5 ⟨rfl, ?_⟩
              rw [e4, List.filter_cons, if_neg (by rw [c]; exact Bool.false_ne_true)]
              show Lks G5 acc ((_ ++ []).map _)
              rw [List.append_nil]
              exact ha5
          · rintro bq acc G5 L5 H5 e5 hl5 ⟨rfl, ha5⟩ S5
            rw [List.length_map] at hl5
            have ha5 : Lks G5 acc ((belowL ks q).map fun o => (o, q.1)) := by
              rw [List.length_map, List.take_length] at ha5
              exact ha5
            obtain ⟨S6, e6, hbq⟩ := S5.freeze
            have ha6 := ha5.mono e6
            generalize upd G5 bq (.lst acc) = G6 at S6 e6 hbq ha6
            walk_at "go"
            have hacc : acc.length = (belowL ks q).length := by rw [pr_len ha5, List.length_map]
            refine v_list (xs := acc) (fun m acc7 G7 L7 => L7 = [(lt, .lst ys), (fp, .dT kvs2)] ∧ acc7 = (((belowL ks q).take m).map fun o => decide ((o, q.1) ∈ kn2)).map V.bl) S6 (SqL.of hbq) (by omega) ⟨rfl, rfl⟩ ?_ ?_
            · rintro D m x acc7 G7 L7 H7 hx hm e7 hl7 ⟨rfl, rfl⟩ S7
              obtain ⟨p, hp, t7, rfl, ht7⟩ := pr_get ha6 hx
              obtain ⟨z, hz, rfl⟩ := get_map hp
              walk_at "go"
              refine ⟨rfl, ?_⟩
              walk_at "go"
              refine g_din ?_
              walk_at "go"
              refine n_din (q := (z, q.1)) S7.get2 (S7.ex _ _ (e7 _ _ ht7)) ?_
              refine c_yes S7 e7 hl7 hm ⟨rfl, ?_⟩
              rw [take_snoc hz, List.map_append, List.map_append]
              have e : (valV kvs2 (keyP (z, q.1))).isSome = decide ((z, q.1) ∈ kn2) := by
                by_cases h : (z, q.1) ∈ kn2
                · rw [br2.val _ h, decide_eq_true h] <;> rfl
                · rw [br2.out _ h, decide_eq_false h] <;> rfl
              rw [e] <;> rfl
            · rintro D acc7 G7 L7 H7 e7 hl7 ⟨rfl, rfl⟩ S7
              rw [hacc, List.take_length] at S7
              walk_at "go"
              refine ⟨D, _, rfl, S7.l0, ?_⟩
              refine ⟨_, rfl, ?_⟩
              have S8 := S7.forget
              have hbq7 := e7 _ _ hbq
              have ha7 := ha6.mono e7
              have eG7 := (e2.trans e5).trans (e6.trans e7)
              refine if_2 (fun c => ?_) (fun c => ?_)
              · have hbel : ∀ b ∈ belowL ks q, (b, q.1) ∈ kn2 := fun b hb => by
                  have := List.all_eq_true.mp c (decide ((b, q.1) ∈ kn2)) (List.mem_map.mpr ⟨b, hb, rfl⟩)
                  exact of_decide_eq_true this
                refine s_dput ?_
                walk_at "go"
                refine v_list (xs := acc) (fun m acc9 G9 L9 => L9 = [(lt, .lst ys), (fp, .dT kvs2)] ∧ acc9 = (((belowL ks q).take m).map fun o => dvl kvs2 (o, q.1)).map V.int) (S7.perm (List.Perm.refl _)).forget (SqL.of hbq7) (by omega) ⟨rfl, rfl⟩ ?_ ?_
                · rintro D9 m x acc9 G9 L9 H9 hx hm e9 hl9 ⟨rfl, rfl⟩ S9
                  obtain ⟨p, hp, t9, rfl, ht9⟩ := pr_get ha7 hx
                  obtain ⟨z, hz, rfl⟩ := get_map hp
                  walk_at "go"
                  refine ⟨rfl, ?_⟩
                  walk_at "go"
                  refine g_dget ?_
                  walk_at "go"
                  refine n_dget (q := (z, q.1)) S9.get2 (S9.ex _ _ (e9 _ _ ht9)) (br2.val _ (hbel z (List.mem_of_getElem? hz))) ?_
                  refine c_yes S9 e9 hl9 hm ⟨rfl, ?_⟩
                  rw [take_snoc hz, List.map_append, List.map_append] <;> rfl
                · rintro D9 acc9 G9 L9 H9 e9 hl9 ⟨rfl, rfl⟩ S9
                  rw [hacc, List.take_length] at S9
                  walk_at "go"
                  refine n_chain S9.forget S9.l0 fun g H10 _ hch S10 => ?_
                  walk_at "go"
                  refine n_tup S10 (by show 2 ≤ 10000000; decide) fun t11 G11 H11 _ e11 _ ht11 S11 => ?_
                  refine n_dput (q := q) (kvs := kvs2) S11.swap (S11.ex _ _ ht11) (by omega) fun H12 S12 => ?_
                  walk_at "go"
                  refine ⟨ys, lat, q :: kn2, _, G11, ⟨_, _, _, _, _, rfl⟩, eG7.trans (e9.trans e11), S12.swap, hys.mono ((e5.trans e6).trans ((e7.trans e9).trans e11)), br2.put hqn hbel hch, hlat, fun p hp => ?_, by omega, ?_, fun h => absurd h (by omega)⟩
                  · rcases hcov p hp with h | h | h
                    · exact .inl (List.mem_cons_of_mem _ h)
                    · exact .inr (.inl h)
                    · rw [hdrop] at h
                      rcases List.mem_cons.mp h with h | h
                      · exact .inl (h ▸ List.mem_cons_self)
                      · exact .inr (.inr h)
                  · have : (putK kvs2 (keyP q) (V.int (1 + g))).length ≤ kvs2.length + 1 := by
                      unfold putK
                      split
                      · rw [List.length_map]; omega
                      · rw [List.length_append]; exact Nat.le_refl _
                    omega
              · have hno : ∃ b ∈ belowL ks q, (b, q.1) ∉ kn2 := Classical.byContradiction fun z => by
                  have : (((belowL ks q).map fun o => decide ((o, q.1) ∈ kn2)).all id) = true := List.all_eq_true.mpr fun x hx => by
                    obtain ⟨b, hb, rfl⟩ := List.mem_map.mp hx
                    exact decide_eq_true (Classical.byContradiction fun w => z ⟨b, hb, w⟩)
                  rw [this] at c
                  cases c
                walk_at "go"
                refine ⟨tyL S8.l0, ?_⟩
                walk_at "go"
                refine n_tup S8 (by show 2 ≤ 10000000; decide) fun t9 G9 H9 _ e9 _ ht9 S9 => ?_
                walk_at "go"
                refine n_app S9 (by rw [pr_len hys]; omega) fun H10 S10 => ?_
                refine ⟨ys ++ [.ref t9], lat ++ [q], kn2, kvs2, G9, ⟨_, _, _, _, _, rfl⟩, eG7.trans e9, S10, pr_snoc (hys.mono ((e5.trans e6).trans (e7.trans e9))) ⟨t9, rfl, ht9⟩, br2, fun p hp => ?_, fun p hp => ?_, by rw [List.length_append, List.length_singleton]; omega, by rw [List.length_append, List.length_singleton]; omega, fun h => ?_⟩
                · rcases List.mem_append.mp hp with h | h
                  · exact hlat p h
                  · have : p = q := by simpa using h
                    rw [this]
                    exact hqn
                · rcases hcov p hp with h | h | h
                  · exact .inl h
                  · exact .inr (.inl (List.mem_append_left _ h))
                  · rw [hdrop] at h
                    rcases List.mem_cons.mp h with h | h
                    · exact .inr (.inl (List.mem_append_right _ (by rw [h]; simp)))
                    · exact .inr (.inr h)
                · rw [List.length_append, List.length_singleton] at h
                  obtain ⟨h1, h2⟩ := hstop (by omega)
                  refine ⟨h1, fun p hp => ?_⟩
                  rw [take_snoc hq] at hp
                  rcases List.mem_append.mp hp with hp | hp
                  · exact h2 p hp
                  · have : p = q := by simpa using hp
                    rw [this, ← h1]
                    exact hno
        · rintro σ' H' ⟨ys, lat, kn2, kvs2, G2, ⟨x2, x3, x4, x5, x6, rfl⟩, e2, S, hys, br2, hlat, hcov, hll, hkk, hstop⟩
          rw [pr_len hl] at hcov hll hkk hstop
          obtain ⟨S7, e7, h7⟩ := S.freeze
          walk_at "go"
          have lt : lat.length < rem.length := by
            by_cases h : lat.length = rem.length
            · obtain ⟨h1, h2⟩ := hstop h
              rw [List.take_length] at h2
              exact absurd (progress ord hrem hall (fun i j h => (nb_sym ok).mp h) h2) hne
            · omega
          refine ⟨lat.length, lt, _, ys, lat, kn2, kvs2, _, ⟨_, _, _, _, _, _, rfl⟩, rfl, eG.trans (e2.trans e7), S7, h7, hys.mono e7, br2, hlat, fun p hp => ?_, by omega⟩
          · rcases hcov p hp with h | h | h
            · exact .inl h
            · exact .inr h
            · rw [List.drop_length] at h
              cases h
      · have hnil : rem = [] := Classical.byContradiction fun z => by
          have : xs ≠ [] := fun w => by
            subst w
            cases hl
            exact z rfl
          rw [dfalse this] at c
          cases c
        subst hnil
        walk_at "go"
        have hkn : ∀ one above : Int, above ∈ nb ks one → (one, above) ∈ kn := fun one above h => (hall (one, above) h).resolve_right (by simp)
        refine k kvs (fun one above => dvl kvs (one, above)) ⟨fun one above h => br.ch _ (hkn one above h), fun one above h => br.val _ (hkn one above h)⟩ fp _ hfp ((e2H.trans e3).trans (eG.trans S5.ex)) S5.get0
end
end NX

namespace NX
open PySem PySem.Spec PyProof.Rows L2
open Evl (Ex ex_l ex_t fresh_back)
section
variable {P : Program} {w : World} {K : PySem.W.Frag} {mg : Str → Option Value} {base : Heap} {C : Addr}
theorem ok_gat {f : Addr} {fd : FuncData} (F : Fun K "greatest_at" "greatest_at" s_greatest_at f fd) (T : Txt mg) (NC : NetC K C) (c_chain : Cal P w K mg base 1 "chain" ["numbers"] [] (spChain K)) : FnOk P w K mg base CX0 2 f fd ["network", "known", "top"] (spGAt C) := by
  refine F.ok sc_greatest_at (fun vs H Q E h => ?_) (fun cdv A outer s H vs Q E hr h => ?_)
  · obtain ⟨a, p, n, ks, kvs, f', i, rfl, _⟩ := h
    rfl
  · obtain ⟨a, p, n, ks, kvs, f', i, rfl, N, hp, kn, hi, k⟩ := h
    have hu65 : ∀ X : Cx, X.A = A.deeper (envOfC "greatest_at" (defScope s_greatest_at) s.heap.objs.size f cdv) → X.A.units + 65 < cLine := fun X e => by rw [e]; have := hr.un; omega
    obtain ⟨dx, kp, np, xs, nps, o⟩ := N.at_
    obtain ⟨qi, rfl⟩ : ∃ m : Nat, i = (m : Int) := ⟨i.toNat, by omega⟩
    obtain ⟨pi, hpi⟩ : ∃ p, nps[qi]? = some p := ⟨_, List.getElem?_eq_getElem (by have := o.len; omega)⟩
    have hz := I_len N.ok N.up N.nd (qi : Int)
    have hs := N.sz
    refine ⟨_, (pss_one (ps_ret (pe_op op_add pe_int (pe_cal c_chain (hr.mono (by first | decide | omega)) passN (pa_cons (pe_lc (own := [("one", 3)]) (by rfl) sc_greatest_at.nd (pi_list (pe_ix ix_list (pe_fld (pv 0) rfl) (pv 2) (fun _ _ => rfl))) (blkOk_by (own := [("one", 3)]) (N := ["network", "known", "top", "one"]) (sc := defScope s_greatest_at) (by decide +kernel)) (fun _ _ _ _ _ => (pg_name (i := 3) sc_greatest_at.nd rfl (Or.inl rfl))) (fun _ _ _ _ _ => pts_nil) (fun _ _ _ _ _ => (pe_dget (hu1 (hu65 _ rfl)) (pv 1) (pe_tup (pa_cons (pv 3) (pa_cons (pv 2) pa_nil))) (fun _ _ => rfl)))) pa_nil))))), ?_⟩
    walk_at "go"
    refine n_fld o.ins NC.cl NC.nN (nf_near kp np) ?_
    walk_at "go"
    refine g_ixL (SqL.of o.near) (atI_nat (j := qi) (v := .ref pi) (by rw [List.getElem?_map, hpi] <;> rfl)) ?_
    refine v_list (xs := (nb ks (qi : Int)).map V.int) (fun m acc G' L' => L' = [] ∧ acc = (((nb ks (qi : Int)).take m).map fun o => f' o (qi : Int)).map V.int) (Own.start H) (SqL.of (o.each qi pi hpi)) (by rw [List.length_map]; omega) ⟨rfl, rfl⟩ ?_ ?_
    · rintro D m x acc G' L' H' hx hm e' hl' ⟨rfl, rfl⟩ S'
      obtain ⟨z, hz, rfl⟩ := get_map hx
      walk_at "go"
      refine ⟨rfl, ?_⟩
      walk_at "go"
      refine g_dget ?_
      walk_at "go"
      refine n_tup S' (by show 2 ≤ 10000000; decide) fun t G2 H2 _ e2 _ ht S2 => ?_
      refine n_dget (q := (z, (qi : Int))) (S2.ex _ _ (e2 _ _ (e' _ _ hp))) (S2.ex _ _ ht) (kn.2 z (qi : Int) ((nb_sym N.ok).mp (List.mem_of_getElem? hz))) ?_
      refine c_yes S2 (e'.trans e2) hl' hm ⟨rfl, ?_⟩
      rw [take_snoc hz, List.map_append, List.map_append] <;> rfl
    · rintro D acc G' L' H' e' hl' ⟨rfl, rfl⟩ S'
      rw [List.length_map, List.take_length] at S'
      walk_at "go"
      refine n_chain S' S'.l0 fun g H2 e2 hch S2 => ?_
      walk_at "go"
      exact k g H2 (e'.trans S2.ex) hch
theorem ok_gbo {f : Addr} {fd : FuncData} (F : Fun K "greatest_by_order" "greatest_by_order" s_greatest_by_order f fd) (T : Txt mg) (NC : NetC K C) (M_len : Mth P w K mg base 1 C "__len__" ["self"] (spLen C)) (c_check_forest : Cal P w K mg base 5 "check_forest" ["network"] [] (spNoRing C))
    (c_branches : Cal P w K mg base 3 "branches" ["network"] [] (spBranches C)) (c_greatest_at : Cal P w K mg base 2 "greatest_at" ["network", "known", "top"] [] (spGAt C)) : FnOk P w K mg base CX0 6 f fd ["network"] (spGBO C) := by
  refine F.ok sc_greatest_by_order (fun vs H Q E h => ?_) (fun cdv A outer s H vs Q E hr h => ?_)
  · obtain ⟨a, n, ks, rfl, _⟩ := h
    rfl
  · obtain ⟨a, n, ks, rfl, N, ord, brg, k⟩ := h
    have hs := N.sz
    refine ⟨_, (pss_cons (ps_expr (pe_cal c_check_forest (hr.mono (by first | decide | omega)) passN (pa_cons (pv 0) pa_nil)))
      (pss_cons (ps_set (i := 1) sc_greatest_by_order.nd rfl (Or.inr rfl) (pe_cal c_branches (hr.mono (by first | decide | omega)) passN (pa_cons (pv 0) pa_nil)))
      (pss_one (ps_ret (pe_callTy call_tupN (by rfl) T.n_tuple (by decide +kernel) (pa_cons (pe_lc (own := [("top", 2)]) (by rfl) sc_greatest_by_order.nd (pi_range1 (by rfl) T.n_range (pa_cons (pe_callB (call_lenNet NC M_len (hr.mono (by first | decide | omega))) (by rfl) T.n_len (by decide +kernel) (pa_cons (pv 0) pa_nil)) pa_nil)) (blkOk_by (own := [("top", 2)]) (N := ["network", "known", "top"]) (sc := defScope s_greatest_by_order) (by decide +kernel)) (fun _ _ _ _ _ => (pg_name (i := 2) sc_greatest_by_order.nd rfl (Or.inl rfl))) (fun _ _ _ _ _ => pts_nil) (fun _ _ _ _ _ => (pe_cal c_greatest_at (hr.mono (by first | decide | omega)) passN (pa_cons (pv 0) (pa_cons (pv 1) (pa_cons (pv 2) pa_nil)))))) pa_nil)))))), ?_⟩
    walk_at "go"
    refine n_noRing (Own.start H) N brg fun H1 e1 S1 => ?_
    walk_at "go"
    refine ⟨a, n, ks, rfl, N.mono e1, ord, fun kvs f' kn => n_retG S1 fun p G2 H2 _ e2 _ hp S2 => ?_⟩
    walk_at "go"
    refine n_lenNet (N.mono (e2.trans S2.ex)) ?_
    walk_at "go"
    refine v_rng1 (j := (n : Int)) (fun i acc G' L' => L' = [] ∧ ∃ os : List Int, os.length = i ∧ acc = os.map V.int ∧ ∀ j : Nat, j < i → IsCh ((nb ks (j : Int)).map fun o => f' o (j : Int)) (tv os (j : Int) - 1)) S2 (by omega) ⟨rfl, [], rfl, rfl, fun j hj => absurd hj (Nat.not_lt_zero j)⟩ ?_ ?_
    · rintro D i acc G' L' H' hi hi' e' hl' ⟨rfl, os, hos, rfl, hv⟩ S'
      walk_at "go"
      refine ⟨rfl, ?_⟩
      walk_at "go"
      refine ⟨a, p, n, ks, kvs, f', (i : Int), rfl, N.mono ((e2.trans e').trans S'.ex), S'.ex _ _ (e' _ _ hp), kn, ⟨by omega, hi⟩, fun g H3 e3 hch => ?_⟩
      refine c_yes (S'.grow e3) e' hl' hi' ⟨rfl, os ++ [1 + g], by rw [List.length_append, hos] <;> rfl, by rw [List.map_append] <;> rfl, fun j hj => ?_⟩
      by_cases e : j = i
      · subst e
        rw [← hos, tv_app2, hos]
        have z : 1 + g - 1 = g := by omega
        rw [z]
        exact hch
      · rw [tv_app1 (by omega) (by omega)]
        exact hv j (by omega)
    · rintro D acc G' L' H' e' hl' ⟨rfl, os, hos, rfl, hv⟩ S'
      have z : (n : Int).toNat = n := by omega
      rw [z] at hos hv
      walk_at "go"
      refine n_tupL S' S'.l0 fun r G7 H7 hr7 e7 e7' h7 S7 => ?_
      have eH' : Ex H H' := (e2.trans e').trans S'.ex
      exact k os ⟨hos, f', kn.1, fun i hi => hv i hi⟩ r H7 (fresh_back eH' hr7) (eH'.trans e7') (S7.ex _ _ h7)
end
end NX

namespace NX
/-! ### fewest stations: the bound -/
theorem cnt_true (n : Nat) : cnt n (fun _ => true) = n := by
  unfold cnt
  rw [List.countP_true, List.length_range]
theorem branch_sum {ks : List Pr} {idx : Int → Nat} {N : Nat} (h : Rt ks idx N) {n : Nat} (ok : Okl n ks) (u : ∀ i, (nb ks i).Nodup) {one : Int} (h1 : 0 ≤ one ∧ one < (n : Int)) {l : List Int} (hl : l.Sublist (nb ks one)) {p : Int → Bool} (hp : ∀ o ∈ l, ∀ x, far ks idx o one x = true → p x = true) (hpo : p one = true) :
    ((l.map fun o => (cnt n (far ks idx o one) : Int)).sum) + 1 ≤ (cnt n p : Int) := by
  have a := cnt_sum (n := n) (S := fun o => far ks idx o one) (l := l) (p := fun x => p x && !decide (x = one)) ((u one).sublist hl) (fun o ho x hx => by
    have e1 := hp o ho x hx
    have e2 : x ≠ one := fun e => by
      rw [e, far_not h ok (hl.subset ho)] at hx
      cases hx
    rw [e1, decide_eq_false e2] <;> rfl) (fun a ha b hb ne x xa xb => far_apart h ok (hl.subset ha) (hl.subset hb) ne xa xb)
  have b := cnt_or (n := n) (p := fun x => decide (x = one)) (q := fun x => p x && !decide (x = one)) fun x e1 e2 => by
    rw [e1] at e2
    simp at e2
  have c := cnt_mono (n := n) (p := fun x => decide (x = one) || (p x && !decide (x = one))) (q := p) fun x hx => by
    rcases Bool.or_eq_true_iff.mp hx with e | e
    · rw [of_decide_eq_true e]; exact hpo
    · exact (Bool.and_eq_true_iff.mp e).1
  have d := cnt_one (n := n) h1
  omega
theorem far_bound {ks : List Pr} {idx : Int → Nat} {N : Nat} (h : Rt ks idx N) {n : Nat} (ok : Okl n ks) (u : ∀ i, (nb ks i).Nodup) {B : Nat → Int} (B0 : B 0 ≤ 0) {V : Int → Int → Int}
    (hV : ∀ one above, above ∈ nb ks one → ∀ k : Nat, 1 ≤ k → (k : Int) ≤ V one above → ∃ m : Nat, B k ≤ 1 + sumB B m ∧ Has ((belowL ks (one, above)).map fun o => V o one) (m : Int)) :
    ∀ one above, above ∈ nb ks one → ∀ k : Nat, (k : Int) ≤ V one above → B k ≤ (cnt n (far ks idx one above) : Int) := by
  obtain ⟨ms, hm⟩ := h.ord
  have key : ∀ (t : Nat) (one above : Int), above ∈ nb ks one → ms one above = t → ∀ k : Nat, (k : Int) ≤ V one above → B k ≤ (cnt n (far ks idx one above) : Int) := by
    intro t
    induction t using Nat.strongRecOn with
    | ind t ih =>
      intro one above ha ht k hk
      by_cases k0 : k = 0
      · subst k0
        omega
      · obtain ⟨m, e1, e2⟩ := hV one above ha k (by omega) hk
        have hb := nb_rng ok ha
        have z := has_sum (w := fun o => (cnt n (far ks idx o one) : Int)) (B := B) m (belowL ks (one, above)) e2 (fun o _ => by omega) (fun o ho j hj => by
          obtain ⟨o1, o2⟩ := mem_below.mp ho
          have lt := hm one above o ha o1 o2
          exact ih (ms o one) (by omega) o one ((nb_sym ok).mp o1) rfl j hj)
        have s := branch_sum h ok u (one := one) ⟨by omega, by omega⟩ (l := belowL ks (one, above)) List.filter_sublist (p := far ks idx one above) (fun o ho x hx => by
          obtain ⟨o1, o2⟩ := mem_below.mp ho
          exact far_in h ok ha o1 o2 hx) (far_self h ha)
        omega
  exact fun one above ha k hk => key _ one above ha rfl k hk
theorem whole_bound {ks : List Pr} {idx : Int → Nat} {N : Nat} (h : Rt ks idx N) {n : Nat} (ok : Okl n ks) (u : ∀ i, (nb ks i).Nodup) {B : Nat → Int} (B0 : B 0 ≤ 0) {V : Int → Int → Int}
    (hV : ∀ one above, above ∈ nb ks one → ∀ k : Nat, 1 ≤ k → (k : Int) ≤ V one above → ∃ m : Nat, B k ≤ 1 + sumB B m ∧ Has ((belowL ks (one, above)).map fun o => V o one) (m : Int)) {v : Int} (hv : 0 ≤ v ∧ v < (n : Int)) {m : Nat} (hm : Has ((nb ks v).map fun o => V o v) (m : Int)) : 1 + sumB B m ≤ (n : Int) := by
  have fb := far_bound h ok u B0 hV
  have z := has_sum (w := fun o => (cnt n (far ks idx o v) : Int)) (B := B) m (nb ks v) hm (fun o _ => by omega) (fun o ho j hj => fb o v ((nb_sym ok).mp ho) j hj)
  have s := branch_sum h ok u hv (l := nb ks v) (List.Sublist.refl _) (p := fun _ => true) (fun _ _ _ _ => rfl) rfl
  rw [cnt_true] at s
  omega
/-- the sizes of branches -/
def Bs (off : Bool) : Nat → Int
  | 0 => 0
  | k + 1 => if off then fw true (k - 1) else fw false k
theorem fwB_is (off : Bool) : ∀ n, fwB off n = fw off (n - 1)
  | 0 => rfl
  | n + 1 => rfl
theorem sum_fw (off : Bool) : ∀ m, 1 + sumB (Bs off) m = fw off m
  | 0 => rfl
  | m + 1 => by
    have ih := sum_fw off m
    rw [fw_next]
    show 1 + (sumB (Bs off) m + Bs off (m + 1)) = _
    have e : Bs off (m + 1) = if off = true then fwB off m else fw off m := by
      cases off with
      | true => rw [if_pos rfl, fwB_is] <;> rfl
      | false => rw [if_neg (by decide)] <;> rfl
    rw [e]
    omega
/-- one number less: a chain shorter by one -/
theorem has_drop {α : Type} [DecidableEq α] {t : α → Int} {l : List α} {a : α} {m : Nat} (nd : l.Nodup) (h : Has (l.map t) ((m : Int) + 1)) : Has ((l.filter fun o => !decide (o = a)).map t) (m : Int) := fun j h1 h2 => by
  have z := h j h1 (by omega)
  have key : ∀ {l : List α}, l.Nodup → cge (l.map t) j ≤ cge ((l.filter fun o => !decide (o = a)).map t) j + 1 := by
    intro l
    induction l with
    | nil => intro _; simp [cge]
    | cons x l ih =>
      intro nd
      have nd' := List.nodup_cons.mp nd
      by_cases e : x = a
      · have hl : l.filter (fun o => !decide (o = a)) = l := List.filter_eq_self.mpr fun y hy => by
          have : y ≠ a := fun w => nd'.1 (by rw [e, ← w]; exact hy)
          simp [this]
        rw [List.filter_cons, if_neg (by simp [e]), hl, List.map_cons, cge_cons, cge_one]
        split <;> omega
      · rw [List.filter_cons, if_pos (by simp [e]), List.map_cons, List.map_cons]
        have e1 := cge_cons (t x) (l.map t) j
        have e2 := cge_cons (t x) ((l.filter fun o => !decide (o = a)).map t) j
        have := ih nd'.2
        omega
  have := key nd
  omega
theorem tab_bound {ks : List Pr} {idx : Int → Nat} {N : Nat} (h : Rt ks idx N) {n : Nat} (ok : Okl n ks) (u : ∀ i, (nb ks i).Nodup) {t : List Int} (ht : TabF n ks t) {v c : Nat} (hv : v < n) (hc : (c : Int) + 1 ≤ tv t (v : Int)) : fw true c ≤ (n : Int) := by
  rw [← sum_fw]
  refine whole_bound h ok u (B := Bs true) (Int.le_refl _) (V := fun o _ => tv t o) (fun one above ha k hk1 hk => ?_) (v := (v : Int)) ⟨by omega, by omega⟩ ((ht.2 v hv).2 (c : Int) |>.mp (by omega))
  have hb := nb_rng ok ha
  obtain ⟨i, rfl⟩ : ∃ i : Nat, one = (i : Int) := ⟨one.toNat, by omega⟩
  obtain ⟨k, rfl⟩ : ∃ k', k = k' + 1 := ⟨k - 1, by omega⟩
  refine ⟨k - 1, ?_, ?_⟩
  · rw [sum_fw]
    exact Int.le_refl _
  · by_cases k0 : k = 0
    · subst k0
      intro j h1 h2
      have h2 : j ≤ ((0 - 1 : Nat) : Int) := h2
      simp at h2
      omega
    · have z := (ht.2 i (by omega)).2 (k : Int) |>.mp (by have hk : ((k + 1 : Nat) : Int) ≤ tv t (i : Int) := hk; omega)
      have e : (k : Int) = ((k - 1 : Nat) : Int) + 1 := by omega
      rw [e] at z
      exact has_drop (u _) z
theorem ord_bound {ks : List Pr} {idx : Int → Nat} {N : Nat} (h : Rt ks idx N) {n : Nat} (ok : Okl n ks) (u : ∀ i, (nb ks i).Nodup) {os : List Int} (ho : OrdF n ks os) {v c : Nat} (hv : v < n) (hc : (c : Int) + 1 ≤ tv os (v : Int)) : fw false c ≤ (n : Int) := by
  obtain ⟨_, f, hf, hos⟩ := ho
  rw [← sum_fw]
  refine whole_bound h ok u (B := Bs false) (Int.le_refl _) (V := f) (fun one above ha k hk1 hk => ?_) (v := (v : Int)) ⟨by omega, by omega⟩ ((hos v hv).2 (c : Int) |>.mp (by omega))
  obtain ⟨k, rfl⟩ : ∃ k', k = k' + 1 := ⟨k - 1, by omega⟩
  refine ⟨k, ?_, ?_⟩
  · rw [sum_fw]
    exact Int.le_refl _
  · exact (hf one above ha).2 (k : Int) |>.mp (by have hk : ((k + 1 : Nat) : Int) ≤ f one above := hk; omega)
end NX

namespace NX
open PySem PySem.Spec PyProof.Rows L2
open Evl (Ex ex_l ex_t fresh_back)
theorem need_tab {n c v : Nat} {ks : List Pr} {t : List Int} (h : Rooted ks) (ok : Okl n ks) (u : ∀ i, (nb ks i).Nodup) (ht : TabF n ks t) (hv : v < n) (hn : (n : Int) < fw true c) : tv t (v : Int) < (c : Int) + 1 := by
  obtain ⟨idx, N, h⟩ := h
  rcases Int.lt_or_le (tv t (v : Int)) ((c : Int) + 1) with z | z
  · exact z
  · have := tab_bound h ok u ht hv z
    omega
theorem need_ord {n c v : Nat} {ks : List Pr} {os : List Int} (h : Rooted ks) (ok : Okl n ks) (u : ∀ i, (nb ks i).Nodup) (ho : OrdF n ks os) (hv : v < n) (hn : (n : Int) < fw false c) : tv os (v : Int) < (c : Int) + 1 := by
  obtain ⟨idx, N, h⟩ := h
  rcases Int.lt_or_le (tv os (v : Int)) ((c : Int) + 1) with z | z
  · exact z
  · have := ord_bound h ok u ho hv z
    omega
theorem Up1.perm {ks ls : List Pr} (h : Up1 ks) (p : ks.Perm ls) : Up1 ls := fun q hq r hr e => h q (p.mem_iff.mpr hq) r (p.mem_iff.mpr hr) e
/-- a smallest network without one station stays without rings -/
theorem less_rooted {off : Bool} {c : Nat} {g : Int} (h : fw off c ≤ 60) (hg : 0 ≤ g ∧ g < (treeN off c : Int)) : Rooted (sortP (woL g (sortP (treeL off c)))) ∧ Okl (treeN off c - 1) (sortP (woL g (sortP (treeL off c)))) ∧ (sortP (woL g (sortP (treeL off c)))).Nodup := by
  obtain ⟨_, ok, nd⟩ := tree_facts h
  have ok1 : Okl (treeN off c) (sortP (treeL off c)) := fun q hq => ok q ((sortP_perm _).mem_iff.mp hq)
  have up1 : Up1 (sortP (treeL off c)) := (tree_up1 h).perm (sortP_perm _).symm
  have nd1 : (sortP (treeL off c)).Nodup := (sortP_perm _).nodup_iff.mpr nd
  have ok2 := wo_ok hg ok1
  refine ⟨(rooted_up ok2 (woL_up up1)).perm (sortP_perm _).symm, fun q hq => ok2 q ((sortP_perm _).mem_iff.mp hq), (sortP_perm _).nodup_iff.mpr (wo_nd nd1)⟩
end NX

namespace NX
open PySem PySem.Spec PyProof.Rows L2
open Evl (Ex ex_l ex_t fresh_back)
/-! ### all small trees -/
/-- the trees of m + 1 stations, each linked to an earlier one -/
def trsL : Nat → List (List Pr)
  | 0 => [[]]
  | m + 1 => (trsL m).flatMap fun ts => (List.range (m + 1)).map fun (o : Nat) => ts ++ [((o : Int), ((m + 1 : Nat) : Int))]
theorem trs_ok : ∀ m, ∀ ts ∈ trsL m, RawL ((m : Int) + 1) ts ∧ Up1 ts ∧ ts.length = m
  | 0, ts, h => by
    have : ts = [] := by simpa [trsL] using h
    subst this
    exact ⟨⟨List.nodup_nil, fun _ hq => nomatch hq⟩, fun _ hq => (nomatch hq), rfl⟩
  | m + 1, ts, h => by
    obtain ⟨us, hu, h⟩ := List.mem_flatMap.mp h
    obtain ⟨o, ho, rfl⟩ := List.mem_map.mp h
    have ho := List.mem_range.mp ho
    obtain ⟨raw, up, len⟩ := trs_ok m us hu
    have a := raw_add (cs := [(o : Int)]) raw (by simp) (fun c hc => by
      have : c = (o : Int) := by simpa using hc
      omega)
    have e : ((m + 1 : Nat) : Int) = (m : Int) + 1 := by omega
    refine ⟨by rw [e]; exact a, fun q hq r hr z => ?_, by rw [List.length_append, len] <;> rfl⟩
    rcases List.mem_append.mp hq with hq | hq <;> rcases List.mem_append.mp hr with hr | hr
    · exact up q hq r hr z
    · have : r = ((o : Int), ((m + 1 : Nat) : Int)) := by simpa using hr
      have y := (raw.2 q hq).2.2
      rw [z, this] at y
      simp only at y
      omega
    · have : q = ((o : Int), ((m + 1 : Nat) : Int)) := by simpa using hq
      have y := (raw.2 r hr).2.2
      rw [← z, this] at y
      simp only at y
      omega
    · have h1 : r = ((o : Int), ((m + 1 : Nat) : Int)) := by simpa using hr
      have h2 : q = ((o : Int), ((m + 1 : Nat) : Int)) := by simpa using hq
      rw [h1, h2]
theorem trs_len : ∀ m, m < 7 → (trsL m).length ≤ 720 := by decide +kernel
/-! ### chains, asked by computing -/
def hasB (ns : List Int) (k : Nat) : Bool := (List.range k).all fun (j : Nat) => decide ((k : Int) - ((j : Int) + 1) + 1 ≤ (cge ns ((j : Int) + 1) : Int))
theorem hasB_iff {ns : List Int} {k : Nat} : hasB ns k = true ↔ Has ns (k : Int) := by
  unfold hasB
  rw [List.all_eq_true]
  constructor
  · intro h j h1 h2
    have := of_decide_eq_true (h (j - 1).toNat (List.mem_range.mpr (by omega)))
    have e : (((j - 1).toNat : Nat) : Int) + 1 = j := by omega
    rw [e] at this
    exact this
  · intro h j hj
    have := List.mem_range.mp hj
    exact decide_eq_true (h ((j : Int) + 1) (by omega) (by omega))
def isChB (ns : List Int) (g : Int) : Bool := decide (0 ≤ g) && hasB ns g.toNat && !hasB ns (g.toNat + 1)
theorem isChB_is {ns : List Int} {g : Int} (h : isChB ns g = true) : IsCh ns g := by
  unfold isChB at h
  rw [Bool.and_eq_true, Bool.and_eq_true] at h
  obtain ⟨⟨h0, h1⟩, h2⟩ := h
  have h0 := of_decide_eq_true h0
  have h1 := hasB_iff.mp h1
  have e : ((g.toNat : Nat) : Int) = g := by omega
  rw [e] at h1
  refine ⟨h0, fun k => ⟨fun hk => h1.down hk, fun hk => ?_⟩⟩
  rcases Int.lt_or_le g k with c | c
  · have y : Has ns ((g.toNat + 1 : Nat) : Int) := hk.down (by omega)
    rw [hasB_iff.mpr y] at h2
    cases h2
  · exact c
def tabB (n : Nat) (ks : List Pr) (t : List Int) : Bool := decide (t.length = n) && (List.range n).all fun (i : Nat) => isChB ((nb ks (i : Int)).map (tv t)) (tv t (i : Int) - 1)
theorem tabB_is {n : Nat} {ks : List Pr} {t : List Int} (h : tabB n ks t = true) : TabF n ks t := by
  unfold tabB at h
  rw [Bool.and_eq_true] at h
  exact ⟨of_decide_eq_true h.1, fun i hi => isChB_is (List.all_eq_true.mp h.2 i (List.mem_range.mpr hi))⟩
/-- a chain that there is -/
def chB (ns : List Int) : Nat := ((List.range (ns.length + 1)).reverse.find? fun k => hasB ns k).getD 0
theorem chB_has (ns : List Int) : Has ns (chB ns : Int) := by
  unfold chB
  cases e : (List.range (ns.length + 1)).reverse.find? fun k => hasB ns k with
  | none =>
    intro j h1 h2
    have h2 : j ≤ ((0 : Nat) : Int) := h2
    omega
  | some k => exact hasB_iff.mp (List.find?_some e)
theorem has_mono {α : Type} {f g : α → Int} {l : List α} {k : Int} (h : ∀ x ∈ l, f x ≤ g x) (hk : Has (l.map f) k) : Has (l.map g) k := fun j h1 h2 => by
  have := hk j h1 h2
  have := cge_mono (f := f) (g := g) (List.Sublist.refl l) h j
  omega
/-- branches by computing, from below -/
def brB (ks : List Pr) : Nat → Int → Int → Int
  | 0, _, _ => 1
  | d + 1, one, above => 1 + (chB ((belowL ks (one, above)).map fun o => brB ks d o one) : Int)
theorem brB_le {n : Nat} {ks : List Pr} {f : Int → Int → Int} (ok : Okl n ks) (hf : BrF ks f) : ∀ d one above, above ∈ nb ks one → brB ks d one above ≤ f one above
  | 0, one, above, ha => by
    have h := (hf one above ha).1
    have e : brB ks 0 one above = 1 := rfl
    omega
  | d + 1, one, above, ha => by
    have h := (hf one above ha).2 (chB ((belowL ks (one, above)).map fun o => brB ks d o one) : Int)
    have z := h.mpr (has_mono (fun o ho => brB_le ok hf d o one ((nb_sym ok).mp (mem_below.mp ho).1)) (chB_has _))
    have e : brB ks (d + 1) one above = 1 + (chB ((belowL ks (one, above)).map fun o => brB ks d o one) : Int) := rfl
    omega
def odB (ks : List Pr) (d : Nat) (i : Int) : Int := 1 + (chB ((nb ks i).map fun o => brB ks d o i) : Int)
theorem odB_le {n : Nat} {ks : List Pr} {os : List Int} (ok : Okl n ks) (ho : OrdF n ks os) (d : Nat) {i : Nat} (hi : i < n) : odB ks d (i : Int) ≤ tv os (i : Int) := by
  obtain ⟨_, f, hf, h⟩ := ho
  have z := ((h i hi).2 (chB ((nb ks (i : Int)).map fun o => brB ks d o (i : Int)) : Int)).mpr (has_mono (fun o ho => brB_le ok hf d o (i : Int) ((nb_sym ok).mp ho)) (chB_has _))
  have e : odB ks d (i : Int) = 1 + (chB ((nb ks (i : Int)).map fun o => brB ks d o (i : Int)) : Int) := rfl
  omega
/-! ### a tree that reaches the bound -/
def trB : Nat → List Pr
  | 2 => [(0, 1)]
  | 3 => [(0, 1), (0, 2)]
  | 4 => [(0, 1), (0, 2), (2, 3)]
  | 5 => [(0, 1), (1, 2), (2, 3), (2, 4)]
  | _ => []
def taB : Nat → List Int
  | 2 => [2, 2]
  | 3 => [3, 2, 2]
  | 4 => [3, 2, 3, 2]
  | 5 => [2, 3, 4, 2, 2]
  | _ => []
def atB : Nat → Nat
  | 5 => 2
  | _ => 0
def aoB : Nat → Nat
  | 5 => 1
  | _ => 0
def bestB (n : Nat) : Bool := decide (trB n ∈ trsL (n - 1)) && tabB n (sortP (trB n)) (taB n) && decide (atB n < n) && decide (aoB n < n) && decide (gw true (n : Int) ≤ tv (taB n) (atB n : Int)) && decide (gw false (n : Int) ≤ odB (sortP (trB n)) 4 (aoB n : Int))
theorem best_ok : bestB 2 = true ∧ bestB 3 = true ∧ bestB 4 = true ∧ bestB 5 = true := by decide +kernel
theorem tr_best (n : Nat) (h6 : n < 6) (h2 : 2 ≤ n) : trB n ∈ trsL (n - 1) ∧ tabB n (sortP (trB n)) (taB n) = true ∧ atB n < n ∧ aoB n < n ∧ gw true (n : Int) ≤ tv (taB n) (atB n : Int) ∧ gw false (n : Int) ≤ odB (sortP (trB n)) 4 (aoB n : Int) := by
  have h : bestB n = true := by
    have : n = 2 ∨ n = 3 ∨ n = 4 ∨ n = 5 := by omega
    rcases this with rfl | rfl | rfl | rfl
    · exact best_ok.1
    · exact best_ok.2.1
    · exact best_ok.2.2.1
    · exact best_ok.2.2.2
  unfold bestB at h
  simp only [Bool.and_eq_true, decide_eq_true_eq] at h
  obtain ⟨⟨⟨⟨⟨a, b⟩, c⟩, d⟩, e⟩, f⟩ := h
  exact ⟨a, b, c, d, e, f⟩
theorem tr_okl {m : Nat} {ts : List Pr} (h : ts ∈ trsL m) : Okl (m + 1) ts ∧ ts.Nodup ∧ Rooted ts ∧ ts.length = m := by
  obtain ⟨raw, up, len⟩ := trs_ok m ts h
  have ok : Okl (m + 1) ts := fun q hq => by have := raw.2 q hq; omega
  exact ⟨ok, raw.1, rooted_up ok up, len⟩
theorem best_tab {n : Nat} {t : List Int} (h2 : 2 ≤ n) (h6 : n < 6) (ht : TabF n (sortP (trB n)) t) : ∃ x ∈ t, gw true (n : Int) ≤ x := by
  obtain ⟨hm, hb, a1, _, g1, _⟩ := tr_best n h6 h2
  obtain ⟨ok, _, _, _⟩ := tr_okl hm
  have e : n - 1 + 1 = n := by omega
  rw [e] at ok
  have z := TabF.uniq ok.sort ht (tabB_is hb)
  subst z
  exact ⟨_, tv_mem (by omega) (by rw [ht.1]; omega), g1⟩
theorem best_ord {n : Nat} {os : List Int} (h2 : 2 ≤ n) (h6 : n < 6) (ho : OrdF n (sortP (trB n)) os) : ∃ x ∈ os, gw false (n : Int) ≤ x := by
  obtain ⟨hm, _, _, a1, _, g1⟩ := tr_best n h6 h2
  obtain ⟨ok, _, _, _⟩ := tr_okl hm
  have e : n - 1 + 1 = n := by omega
  rw [e] at ok
  have z := odB_le ok.sort ho 4 a1
  exact ⟨_, tv_mem (by omega) (by rw [ho.1]; omega), Int.le_trans g1 z⟩
/-! ### the bound, by greatest_with -/
theorem gw_up : ∀ off : Bool, ∀ n : Nat, n < 61 → ∀ c : Nat, c < 9 → fw off c ≤ (n : Int) → (c : Int) + 1 ≤ gw off (n : Int) := by decide +kernel
theorem mem_tv {t : List Int} {x : Int} (h : x ∈ t) : ∃ v : Nat, v < t.length ∧ tv t (v : Int) = x := by
  obtain ⟨i, hi, e⟩ := List.mem_iff_getElem.mp h
  exact ⟨i, hi, tv_get (by rw [List.getElem?_eq_getElem hi, e])⟩
theorem tab_gw {n : Nat} {ks : List Pr} {t : List Int} (h : Rooted ks) (ok : Okl n ks) (u : ∀ i, (nb ks i).Nodup) (hn : n ≤ 60) (ht : TabF n ks t) {x : Int} (hx : x ∈ t) : x ≤ gw true (n : Int) := by
  obtain ⟨v, hv, rfl⟩ := mem_tv hx
  rw [ht.1] at hv
  have h0 := (ht.2 v hv).1
  obtain ⟨idx, N, h⟩ := h
  obtain ⟨c, hc⟩ : ∃ c : Nat, tv t (v : Int) = (c : Int) + 1 := ⟨(tv t (v : Int) - 1).toNat, by omega⟩
  have b := tab_bound h ok u ht hv (c := c) (by omega)
  have := gw_up true n (by omega) c (fw_small true (by omega)) b
  omega
theorem ord_gw {n : Nat} {ks : List Pr} {os : List Int} (h : Rooted ks) (ok : Okl n ks) (u : ∀ i, (nb ks i).Nodup) (hn : n ≤ 60) (ho : OrdF n ks os) {x : Int} (hx : x ∈ os) : x ≤ gw false (n : Int) := by
  obtain ⟨v, hv, rfl⟩ := mem_tv hx
  rw [ho.1] at hv
  have h0 : 0 ≤ tv os (v : Int) - 1 := by
    obtain ⟨_, f, _, hos⟩ := ho
    exact (hos v hv).1
  obtain ⟨idx, N, h⟩ := h
  obtain ⟨c, hc⟩ : ∃ c : Nat, tv os (v : Int) = (c : Int) + 1 := ⟨(tv os (v : Int) - 1).toNat, by omega⟩
  have b := ord_bound h ok u ho hv (c := c) (by omega)
  have := gw_up false n (by omega) c (fw_small false (by omega)) b
  omega
end NX

namespace NX
open PySem PySem.Spec PyProof.Rows L2
open Evl (Ex ex_l ex_t fresh_back)
/-! ### xs[d::k] of a list, k a written positive number -/
theorem vals_at {xs : List V} {us : List Value} (h : Vals xs us) (i : Nat) : (∃ x u, xs[i]? = some x ∧ us[i]? = some u ∧ RelV x u) ∨ us[i]? = none := by
  induction h generalizing i with
  | nil => exact .inr (by simp)
  | cons r _ ih =>
    cases i with
    | zero => exact .inl ⟨_, _, rfl, rfl, r⟩
    | succ i => simpa using ih i
theorem vals_pick {xs : List V} {us : List Value} (h : Vals xs us) : ∀ idx : List Nat, ∃ ys : List V, Vals ys (idx.filterMap (us.toArray[·]?)) ∧ (∀ y ∈ ys, y ∈ xs) ∧ ys.length ≤ idx.length
  | [] => ⟨[], .nil, fun _ hy => (nomatch hy), Nat.le_refl _⟩
  | i :: idx => by
    obtain ⟨ys, h1, h2, h3⟩ := vals_pick h idx
    rw [List.filterMap_cons]
    rcases vals_at h i with ⟨x, u, e1, e2, r⟩ | e
    · have e2' : us.toArray[i]? = some u := by rw [List.getElem?_toArray]; exact e2
      refine ⟨x :: ys, ?_, fun y hy => ?_, by rw [List.length_cons, List.length_cons]; omega⟩
      · simp only [e2']
        exact .cons r h1
      · rcases List.mem_cons.mp hy with rfl | hy
        · exact List.mem_of_getElem? e1
        · exact h2 y hy
    · have e' : us.toArray[i]? = none := by rw [List.getElem?_toArray]; exact e
      refine ⟨ys, ?_, h2, by rw [List.length_cons]; omega⟩
      simp only [e']
      exact h1
theorem range_step {n : Nat} {lo : Option Int} {c : Int} (hc : 0 < c) : (sliceRange (sliceBounds lo none (some c) n).1 (sliceBounds lo none (some c) n).2.1 (sliceBounds lo none (some c) n).2.2).length ≤ n + 1 := by
  have hc' : c > 0 := hc
  have h2 : (sliceBounds lo none (some c) n).2.1 = (n : Int) := by
    unfold sliceBounds
    simp [hc']
  have h3 : (sliceBounds lo none (some c) n).2.2 = c := rfl
  have h1 : 0 ≤ (sliceBounds lo none (some c) n).1 := by
    unfold sliceBounds
    cases lo with
    | none => simp [hc']
    | some i => simp [hc']; omega
  rw [h2, h3]
  generalize (sliceBounds lo none (some c) n).1 = a at h1
  unfold sliceRange
  rw [List.length_map, List.length_range]
  simp only [hc', if_true]
  split
  · have : ((n : Int) - a + c - 1) / c ≤ (n : Int) + 1 - a := by
      refine Int.ediv_le_of_le_mul hc ?_
      have : (n : Int) + 1 - a ≥ 1 := by omega
      have h5 : ((n : Int) + 1 - a) * c = ((n : Int) - a) * c + c := by
        rw [show (n : Int) + 1 - a = ((n : Int) - a) + 1 by omega, Int.add_mul, Int.one_mul]
      have h6 : (n : Int) - a ≤ ((n : Int) - a) * c := by
        have : ((n : Int) - a) * 1 ≤ ((n : Int) - a) * c := Int.mul_le_mul_of_nonneg_left (by omega) (by omega)
        omega
      omega
    omega
  · simp
def rStepL (K : PySem.W.Frag) : V → Hp → VK → Prop := fun x H Q => ∃ a xs, x = .ref a ∧ SqL K H a xs ∧ xs.length ≤ 1000000 ∧ ∀ ys, (∀ y ∈ ys, y ∈ xs) → ys.length ≤ xs.length + 1 → ∀ p, H p = none → Q (.ref p) (upd H p (.lst ys))
def tStepL (K : PySem.W.Frag) (te : TE) (tl : TO) : TE := fun σ H Q => te σ H fun x H1 => tl σ H1 fun _ H2 => rStepL K x H2 Q
theorem pe_stepL {X : Cx} {e : Expr} {lo : Option Expr} {te : TE} {tl : TO} {c : Int} {k : Nat} {p1 p3 pos : Pos} (hc : 0 < c) (he : PE X e te) (hlo : PO X lo tl) : PE X (.Subscript e (.Slice lo none (some (.Constant (.int c) k p1)) p3) pos) (tStepL X.K te tl) := by
  refine ⟨fun pins s σ H Q I h => ?_⟩
  refine Subscript_ (thn (he.run pins s σ H _ I h) fun v s1 ⟨x, H1, I1, r1, q1⟩ => ?_)
  have hst : PO X (some (.Constant (.int c) k p1)) (tPart (tC (.int c))) := po_some pe_int
  refine wpAny_Slice (thn (hlo.run pins s1 σ H1 _ I1 q1) fun vl s2 ⟨l, H2, I2, pl, q2⟩ => ?_)
  refine thn (po_none.run pins s2 σ H2 (fun o H3 => o = none ∧ H3 = H2) I2 ⟨rfl, rfl⟩) fun vu s3 ⟨u, H3, I3, pu, eu, e3⟩ => ?_
  subst eu e3
  refine thn (hst.run pins s3 σ H3 (fun o H4 => o = some c ∧ H4 = H3) I3 ⟨c, rfl, rfl, rfl⟩) fun vs s4 ⟨o, H4, I4, ps, eo, e4⟩ => ?_
  subst eo e4
  obtain ⟨a, xs, ex, hx, hz, q⟩ := q2
  subst ex
  cases r1
  have I5 : Inv X pins σ H4 { s4 with heap := s4.heap.push { cls := .type "slice", data := .fields #[vl, vu, vs] } } := I4.kept (t' := s4.toks) fun b ob q => Heap.get?_push_of_some _ q
  obtain ⟨its, r, ht, hz2⟩ := I5.list hx
  have hlen := r.length
  show wpAny (model X.prog X.w) X.A (subscriptTail e (.Slice lo none (some (.Constant (.int c) k p1)) p3) (.ref a) (.ref s4.heap.objs.size)) (EP X pins σ Q) X.xe { s4 with heap := s4.heap.push { cls := .type "slice", data := .fields #[vl, vu, vs] } }
  refine tail_any (ops := [.ref a, .ref s4.heap.objs.size]) ht.isList.typeIs (PySem.slot_list_getitem.lookup) ?_ (by with_unfolding_all rfl)
  refine wpAny_getItem_list_slice ht.isList (Heap.IsSliceOf.new _ vl vu vs) pl pu ps (by intro z; cases z; exact absurd hc (by decide)) ?_ (by rw [List.size_toArray]; omega)
  obtain ⟨ys, h1, h2, h3⟩ := vals_pick r (sliceRange (sliceBounds l none (some c) its.toArray.size).1 (sliceBounds l none (some c) its.toArray.size).2.1 (sliceBounds l none (some c) its.toArray.size).2.2)
  have h4 := range_step (n := its.toArray.size) (lo := l) hc
  rw [List.size_toArray] at h4
  refine ⟨.ref _, _, I5.laid (t' := s4.toks) (o := .lst ys) (fun b ob q => Heap.get?_push_of_some _ q) (Nat.le_refl _) ?_, rfl, q ys h2 (by rw [List.size_toArray] at h3; omega) _ (I5.hok.fresh (Nat.le_refl _))⟩
  exact ⟨small (by rw [List.size_toArray] at h3; omega), _, 0, h1, Heap.get?_push_size _ rfl⟩
theorem g_step {K : PySem.W.Frag} {te : TE} {tl : TO} {σ : L2.St} {H : Hp} {Q : VK} (k : te σ H fun x H1 => tl σ H1 fun _ H2 => rStepL K x H2 Q) : tStepL K te tl σ H Q := k
theorem n_step {K : PySem.W.Frag} {G H : Hp} {L : List (Addr × HO)} {p : Addr} {xs : List V} {Q : VK} (S : Own G L H) (h : SqL K H p xs) (hz : xs.length ≤ 1000000)
    (k : ∀ ys p G1 H1, (∀ y ∈ ys, y ∈ xs) → ys.length ≤ xs.length + 1 → H p = none → Ex G G1 → Ex H H1 → G1 p = some (.lst ys) → Own G1 L H1 → Q (.ref p) H1) : rStepL K (.ref p) H Q :=
  ⟨p, xs, rfl, h, hz, fun ys h1 h2 p hp => k ys p _ _ h1 h2 hp (S.still hp).2.1 (Ex.new hp) (S.still hp).2.2 (S.still hp).1⟩
end NX

namespace NX
open PySem PySem.Spec PyProof.Rows L2
open Evl (Ex ex_l ex_t fresh_back)
/-- a list of lists of links -/
abbrev Tls (G : Hp) : List V → List (List Pr) → Prop := Paired fun v ts => ∃ p ys, v = .ref p ∧ G p = some (.lst ys) ∧ Lks G ys ts
theorem Tls.mono {G H : Hp} (e : Ex G H) {xs : List V} {tss : List (List Pr)} (h : Tls G xs tss) : Tls H xs tss := Paired.mapP h fun _ _ ⟨p, ys, a, b, c⟩ => ⟨p, ys, a, e _ _ b, c.mono e⟩
theorem tls_of {G : Hp} {xs : List V} {tss : List (List Pr)} (h : Tls G xs tss) : ∀ x ∈ xs, ∃ ts ∈ tss, ∃ p ys, x = .ref p ∧ G p = some (.lst ys) ∧ Lks G ys ts := by
  induction h with
  | nil => exact fun _ hx => nomatch hx
  | cons r _ ih =>
    intro x hx
    rcases List.mem_cons.mp hx with rfl | hx
    · exact ⟨_, List.mem_cons_self, r⟩
    · obtain ⟨ts, h1, h2⟩ := ih x hx
      exact ⟨ts, List.mem_cons_of_mem _ h1, h2⟩
theorem tls_pick {G : Hp} : ∀ {ys : List V} {tss : List (List Pr)}, (∀ x ∈ ys, ∃ ts ∈ tss, ∃ p zs, x = .ref p ∧ G p = some (.lst zs) ∧ Lks G zs ts) → ∃ uss, Tls G ys uss ∧ ∀ ts ∈ uss, ts ∈ tss
  | [], _, _ => ⟨[], .nil, fun _ h => nomatch h⟩
  | y :: ys, tss, h => by
    obtain ⟨ts, h1, h2⟩ := h y List.mem_cons_self
    obtain ⟨uss, h3, h4⟩ := tls_pick (ys := ys) (tss := tss) fun x hx => h x (List.mem_cons_of_mem _ hx)
    exact ⟨ts :: uss, .cons h2 h3, fun z hz => by
      rcases List.mem_cons.mp hz with rfl | hz
      · exact h1
      · exact h4 z hz⟩
abbrev s__law_trees : Stmt := top 34
theorem sc__law_trees : FnScope ["_law_well", "_law_size", "_law_found", "_law_station", "_law_longer", "_law_links_here", "_law_one"] ["_law_well", "_law_size"] (defScope s__law_trees) := ⟨rfl, rfl, rfl, by decide +kernel, rfl, by decide +kernel, by decide +kernel⟩
/-- trees of n stations; up to five all -/
def spTrees : Sp := fun vs H Q _ => ∃ (W : Addr) (a b c : Int) (n : Nat), vs = [.ref W, .int (n : Int)] ∧ H W = some (wl a b c) ∧ 2 ≤ n ∧ n ≤ 7 ∧
  ∀ xs tss q H' G' a' b' c', Ex (cut H [(W, wl a b c)]) G' → Own G' [(W, wl a' b' c')] H' → G' q = some (.lst xs) → Tls G' xs tss → (∀ ts ∈ tss, ts ∈ trsL (n - 1)) → (n < 6 → tss = trsL (n - 1)) → xs.length ≤ 1000 → Q (.ref q) H'
theorem n_trees {G H : Hp} {W : Addr} {a b c : Int} {n : Nat} {Q : VK} {E : XK} (S : Own G [(W, wl a b c)] H) (h1 : 2 ≤ n) (h2 : n ≤ 7)
    (k : ∀ xs tss q G1 H1 a' b' c', Ex G G1 → Own G1 [(W, wl a' b' c')] H1 → G1 q = some (.lst xs) → Tls G1 xs tss → (∀ ts ∈ tss, ts ∈ trsL (n - 1)) → (n < 6 → tss = trsL (n - 1)) → xs.length ≤ 1000 → Q (.ref q) H1) : spTrees [.ref W, .int (n : Int)] H Q E :=
  ⟨W, a, b, c, n, rfl, S.get0, h1, h2, fun xs tss q H' G' a' b' c' e T => k xs tss q G' H' a' b' c' (S.keep.trans e) T⟩
section
variable {P : Program} {w : World} {K : PySem.W.Frag} {mg : Str → Option Value} {base : Heap}
theorem ok_trees {f : Addr} {fd : FuncData} (F : Fun K "_law_trees" "_law_trees" s__law_trees f fd) (T : Txt mg) (c__law_draw : Cal P w K mg base 1 "_law_draw" ["_law_well", "_law_limit"] [] spDraw) : FnOk P w K mg base CX0 2 f fd ["_law_well", "_law_size"] spTrees := by
  refine F.ok sc__law_trees (fun vs H Q E h => ?_) (fun cdv A outer s H vs Q E hr h => ?_)
  · obtain ⟨W, a, b, c, n, rfl, _⟩ := h
    rfl
  · obtain ⟨W, a, b, c, n, rfl, hW, hn2, hn7, k⟩ := h
    have S0 := Own.give (o := wl a b c) hW
    generalize cut H [(W, wl a b c)] = G at S0 k
    refine ⟨_, (pss_cons (ps_set (i := 2) sc__law_trees.nd rfl (Or.inl rfl) (pe_lst (pa_cons (pe_lst pa_nil) pa_nil)))
      (pss_cons (ps_for PassesOwn.never rfl (pi_range2 (by rfl) T.n_range (pa_cons pe_int (pa_cons (pv 1) pa_nil))) (pg_name (i := 3) sc__law_trees.nd rfl (Or.inr rfl)) (pss_cons (ps_set (i := 4) sc__law_trees.nd rfl (Or.inl rfl) (pe_lst pa_nil))
      (pss_cons (ps_for PassesOwn.never rfl (pi_list (pv 2)) (pg_name (i := 5) sc__law_trees.nd rfl (Or.inr rfl)) (pss_one (ps_set (i := 4) sc__law_trees.nd rfl (Or.inl rfl) (pe_op op_catL (pv 4) (pe_lc (own := [("_law_one", 6)]) (by rfl) sc__law_trees.nd (pi_range1 (by rfl) T.n_range (pa_cons (pv 3) pa_nil)) (blkOk_by (own := [("_law_one", 6)]) (N := ["_law_well", "_law_size", "_law_found", "_law_station", "_law_longer", "_law_links_here", "_law_one"]) (sc := defScope s__law_trees) (by decide +kernel)) (fun _ _ _ _ _ => (pg_name (i := 6) sc__law_trees.nd rfl (Or.inl rfl))) (fun _ _ _ _ _ => pts_nil) (fun _ _ _ _ _ => (pe_op (op_catLK (K := K)) (pv 5) (pe_lst (pa_cons (pe_tup (pa_cons (pv 6) (pa_cons (pv 3) pa_nil))) pa_nil)))))))))
      (pss_one (ps_set (i := 2) sc__law_trees.nd rfl (Or.inl rfl) (pv 4))))))
      (pss_cons (ps_if (pt_cmpR op_gt (pv 1) pe_int (nomark _)) (pss_one (ps_set (i := 2) sc__law_trees.nd rfl (Or.inl rfl) (pe_stepL (by decide) (pv 2) (po_some (pe_cal c__law_draw (hr.mono (by first | decide | omega)) passN (pa_cons (pv 0) (pa_cons pe_int pa_nil))))))) pss_nil)
      (pss_one (ps_ret (pv 2)))))), ?_⟩
    walk_at "go"
    refine n_lstG S0 (by decide) fun p0 G1 H1 _ e1 _ hp0 S1 => ?_
    walk_at "go"
    refine n_lstG S1 (by show 1 ≤ 10000000; decide) fun p1 G2 H2 _ e2 _ hp1 S2 => ?_
    walk_at "go"
    refine w_rng2 (fun i σ' H' => (∃ q x3 x4 x5 x6, σ' = [some (.ref W), some (.int (n : Int)), some (.ref q), x3, x4, x5, x6] ∧ ∃ G' xs, Ex G G' ∧ Own G' [(W, wl a b c)] H' ∧ G' q = some (.lst xs) ∧ Tls G' xs (trsL i)) ∧ i ≤ n - 1) ⟨by decide, by decide, by omega, by omega⟩
      ⟨⟨p1, _, _, _, _, rfl, G2, _, e1.trans e2, S2, hp1, .cons ⟨p0, [], rfl, e2 _ _ hp0, .nil⟩ .nil⟩, by omega⟩ ?_ ?_
    · rintro i σ' H' hi ⟨⟨q, x3, x4, x5, x6, rfl, G', xs, eG, S, hq, hl⟩, hin⟩
      have hxl : xs.length ≤ 720 := by rw [pr_len hl]; exact trs_len i (by omega)
      walk_at "go"
      refine n_lstG S (by decide) fun p3 G3 H3 _ e3 _ hp3 S3 => ?_
      walk_at "go"
      refine w_list (xs := xs) (fun j σ2 H2 => ∃ l y5 y6, σ2 = [some (.ref W), some (.int (n : Int)), some (.ref q), some (.int (1 + (i : Int))), some (.ref l), y5, y6] ∧ ∃ G4 ys, Ex G3 G4 ∧ Own G4 [(W, wl a b c)] H2 ∧ G4 l = some (.lst ys) ∧
        Tls G4 ys (((trsL i).take j).flatMap fun ts => (List.range (i + 1)).map fun (o : Nat) => ts ++ [((o : Int), ((i + 1 : Nat) : Int))]) ∧ ys.length ≤ j * 7) (SqL.of (S3.ex _ _ (e3 _ _ hq))) ⟨p3, _, _, rfl, G3, [], Ex.refl _, S3, hp3, .nil, by simp⟩ (fun j σ2 H2 ⟨l, y5, y6, _, G4, ys, e4, S4, _⟩ => SqL.of (S4.ex _ _ (e4 _ _ (e3 _ _ hq)))) ?_ ?_
      · rintro j x σ2 H2 hx ⟨l, y5, y6, rfl, G4, ys, e4, S4, hl4, ht4, hys⟩
        obtain ⟨ts, hts, p, zs, rfl, hp, hlk⟩ := pr_get hl hx
        have hp4 := e4 _ _ (e3 _ _ hp)
        have hlk4 := (hlk.mono e3).mono e4
        have hjx : j < 720 := by have := (List.getElem?_eq_some_iff.mp hx).1; omega
        have htl := (trs_ok i ts (List.mem_of_getElem? hts)).2.2
        walk_at "go"
        refine v_rng1 (j := 1 + (i : Int)) (fun m acc G5 L5 => L5 = [(W, wl a b c)] ∧ Tls G5 acc ((List.range m).map fun (o : Nat) => ts ++ [((o : Int), ((i + 1 : Nat) : Int))])) S4 (by omega) ⟨rfl, .nil⟩ ?_ ?_
        · rintro D m acc G5 L5 H5 hm hm' e5 hl5 ⟨rfl, ha⟩ S5
          walk_at "go"
          refine ⟨rfl, ?_⟩
          walk_at "go"
          refine n_tup S5 (by show 2 ≤ 10000000; decide) fun t6 G6 H6 _ e6 _ ht6 S6 => ?_
          walk_at "go"
          refine n_lstG S6 (by show 1 ≤ 10000000; decide) fun p7 G7 H7 _ e7 _ hp7 S7 => ?_
          have e57 := e6.trans e7
          refine n_catG S7 (SqL.of (S7.ex _ _ (e57 _ _ (e5 _ _ hp4)))) (SqL.of (S7.ex _ _ hp7)) (by have := pr_len hlk; show zs.length + 1 ≤ 10000000; omega) fun p8 G8 H8 _ e8 _ hp8 S8 => ?_
          refine c_yes S8 (e5.trans (e57.trans e8)) hl5 hm' ⟨rfl, ?_⟩
          rw [List.range_succ, List.map_append]
          refine pr_snoc (ha.mono (e57.trans e8)) ⟨p8, _, rfl, hp8, pr_snoc (hlk4.mono (e5.trans (e57.trans e8))) ⟨t6, rfl, ?_⟩⟩
          have est : ((i + 1 : Nat) : Int) = 1 + (i : Int) := by omega
          show G8 t6 = some (.tup [.int (m : Int), .int ((i + 1 : Nat) : Int)])
          rw [est]
          exact e8 _ _ (e7 _ _ ht6)
        · rintro p9 acc G9 L9 H9 e9 hl9 ⟨rfl, ha⟩ S9
          obtain ⟨S10, e10, hp10⟩ := S9.freeze
          generalize upd G9 p9 (.lst acc) = G10 at S10 e10 hp10
          have ha10 := ha.mono e10
          have hal : acc.length ≤ 7 := by omega
          walk_at "go"
          refine n_catG S10 (SqL.of (S10.ex _ _ (e10 _ _ (e9 _ _ hl4)))) (SqL.of (S10.ex _ _ hp10)) (by omega) fun p11 G11 H11 _ e11 _ hp11 S11 => ?_
          walk_at "go"
          refine ⟨p11, _, _, rfl, G11, _, e4.trans (e9.trans (e10.trans e11)), S11, hp11, ?_, by rw [List.length_append]; omega⟩
          rw [take_snoc hts, List.flatMap_append, List.flatMap_singleton]
          have em : (1 + (i : Int)).toNat = i + 1 := by omega
          rw [em] at ha10
          exact pr_app ((ht4.mono e9).mono (e10.trans e11)) (ha10.mono e11)
      · rintro σ2 H2 ⟨l, y5, y6, rfl, G4, ys, e4, S4, hl4, ht4, hys⟩
        rw [pr_len hl, List.take_length] at ht4
        walk_at "go"
        refine ⟨⟨l, _, _, _, _, rfl, G4, ys, eG.trans (e3.trans e4), S4, hl4, ht4⟩, by omega⟩
    · rintro σ' H' ⟨⟨q, x3, x4, x5, x6, rfl, G', xs, eG, S, hq, hl⟩, hin⟩
      have en : ((n : Int) - 1).toNat = n - 1 := by omega
      rw [en] at hl
      have hxl : xs.length ≤ 720 := by rw [pr_len hl]; exact trs_len (n - 1) (by omega)
      walk_at "go"
      refine if_2 (fun c5 => ?_) (fun c5 => ?_)
      · have c5 := of_decide_eq_true c5
        refine s_asg ?_
        refine g_step ?_
        walk_at "go"
        refine n_draw S ⟨by decide, by decide⟩ fun r a2 b2 c2 H3 _ _ S3 => ?_
        walk_at "go"
        refine n_step S3 (SqL.of (S3.ex _ _ hq)) (by omega) fun ys p4 G4 H4 hys hyl _ e4 _ hp4 S4 => ?_
        obtain ⟨uss, h1, h2⟩ := tls_pick (ys := ys) fun x hx => tls_of (hl.mono e4) x (hys x hx)
        walk_at "go"
        exact k ys uss p4 H4 G4 a2 b2 c2 (eG.trans e4) S4 hp4 h1 h2 (fun z => by omega) (by omega)
      · walk_at "go"
        exact k xs _ q H' G' a b c eG S hq hl (fun _ h => h) (fun _ => rfl) (by omega)
end
end NX

namespace NX
open PySem PySem.Spec PyProof.Rows L2
open Evl (Ex ex_l ex_t fresh_back)
abbrev s_Network___len__ : Stmt := inClass (top 10) 2
theorem sc_Network___len__ : FnScope ["self"] ["self"] (defScope s_Network___len__) := ⟨rfl, rfl, rfl, by decide +kernel, rfl, by decide +kernel, by decide +kernel⟩
abbrev s_Network___eq__ : Stmt := inClass (top 10) 3
theorem sc_Network___eq__ : FnScope ["self", "other"] ["self", "other"] (defScope s_Network___eq__) := ⟨rfl, rfl, rfl, by decide +kernel, rfl, by decide +kernel, by decide +kernel⟩
section
variable {P : Program} {w : World} {K : PySem.W.Frag} {mg : Str → Option Value} {base : Heap}
theorem ok_len {f C : Addr} {fd : FuncData} (F : Fun K "__len__" "Network.__len__" s_Network___len__ f fd) (T : Txt mg) (NC : NetC K C) : FnOk P w K mg base CX0 1 f fd ["self"] (spLen C) := by
  refine F.ok sc_Network___len__ (fun vs H Q E h => ?_) (fun cdv A outer s H vs Q E hr h => ?_)
  · obtain ⟨a, n, ks, rfl, _⟩ := h
    rfl
  · obtain ⟨a, n, ks, rfl, N, k⟩ := h
    obtain ⟨dx, kp, np, xs, nps, o⟩ := N.at_
    refine ⟨_, (pss_one (ps_ret (pe_callB call_lenN (by rfl) T.n_len (by decide +kernel) (pa_cons (pe_fld (pv 0) rfl) pa_nil)))), ?_⟩
    walk_at "go"
    refine n_fld o.ins NC.cl NC.nN (nf_near kp np) ?_
    walk_at "go"
    refine n_len (SqL.of o.near) ?_
    rw [List.length_map, o.len]
    exact k
theorem ok_eq {f C : Addr} {fd : FuncData} (F : Fun K "__eq__" "Network.__eq__" s_Network___eq__ f fd) (T : Txt mg) (NC : NetC K C) (hC : mg "Network" = some (.ref C)) (M_len : Mth P w K mg base 1 C "__len__" ["self"] (spLen C)) :
    FnOk P w K mg base CX0 3 f fd ["self", "other"] (spEqN C) := by
  refine F.ok sc_Network___eq__ (fun vs H Q E h => ?_) (fun cdv A outer s H vs Q E hr h => ?_)
  · obtain ⟨a, b, n, m, ks, ls, rfl, _⟩ := h
    rfl
  · obtain ⟨a, b, n, m, ks, ls, rfl, N1, N2, k⟩ := h
    have hu65 : ∀ X : Cx, X.A = A.deeper (envOfC "Network.__eq__" (defScope s_Network___eq__) s.heap.objs.size f cdv) → X.A.units + 65 < cLine := fun X e => by rw [e]; have := hr.un; omega
    obtain ⟨dx, kp, np, xs, nps, o⟩ := N1.at_
    obtain ⟨dx', kp', np', xs', nps', o'⟩ := N2.at_
    refine ⟨_, (pss_one (ps_ret (pe_and (pe_callB call_isi (by rfl) T.n_isinstance (by decide +kernel) (pa_cons (pv 1) (pa_cons (pe_glob (v := .ref C) (by rfl) hC rfl) pa_nil))) (pe_and (pe_cmpR op_eq (pe_callB (call_lenNet NC M_len (hr.mono (by first | decide | omega))) (by rfl) T.n_len (by decide +kernel) (pa_cons (pv 0) pa_nil)) (pe_callB (call_lenNet NC M_len (hr.mono (by first | decide | omega))) (by rfl) T.n_len (by decide +kernel) (pa_cons (pv 1) pa_nil)) (nomark _)) (pe_one (pe_cmpR (op_eqD (Nat.lt_of_succ_lt (hu65 _ rfl))) (pe_fld (pv 0) rfl) (pe_fld (pv 1) rfl) (nomark _))))))), ?_⟩
    walk_at "go"
    refine ⟨_, _, _, _, _, rfl, .own C, .base (.ins o'.ins NC.cl NC.ha NC.hn NC.ht NC.hm), NC.kit, ?_⟩
    walk_at "go"
    refine n_lenNet N1 ?_
    walk_at "go"
    refine n_lenNet N2 ?_
    walk_at "go"
    refine if_2 (fun e => ?_) (fun e => ?_)
    · have e := of_decide_eq_true e
      walk_at "go"
      refine n_fld o.ins NC.cl NC.nK (nf_kept kp np) ?_
      walk_at "go"
      refine n_fld o'.ins NC.cl NC.nK (nf_kept kp' np') ?_
      refine ⟨_, _, .lst (SqL.of o.kept) (dp_lks o.lks), .lst (SqL.of o'.kept) (dp_lks o'.lks), shaped_lks ks, shaped_lks ls, ?_⟩
      rw [eqv_lks]
      have z := k H (Ex.refl H)
      have e2 : decide (n = m ∧ ks = ls) = decide (ks = ls) := by
        have hnm : n = m := by omega
        rw [Bool.eq_iff_iff]
        simp [hnm]
      rw [e2] at z
      exact z
    · have e := of_decide_eq_false e
      have z := k H (Ex.refl H)
      have e2 : decide (n = m ∧ ks = ls) = false := decide_eq_false fun c => e (by rw [c.1])
      rw [e2] at z
      exact z
end
end NX

namespace NX
open PySem PySem.Spec PyProof.Rows L2
open Evl (Ex ex_l ex_t fresh_back)
theorem n_gwR {G H : Hp} {L : List (Addr × HO)} {n : Int} {Q : VK} {E : XK} (S : Own G L H) (hn : 1 ≤ n ∧ n ≤ 60) (k : ∀ p G1 H1, Ex G G1 → G1 p = some (.tup (gwL n)) → Own G1 L H1 → Q (.ref p) H1) : spGWith [.int n] H Q E :=
  ⟨n, rfl, hn.1, hn.2, n_retG S fun p G1 H1 _ e _ h S1 => k p G1 H1 e h S1⟩
theorem n_maxT {K : PySem.W.Frag} {H : Hp} {p : Addr} {ns : List Int} {Q : VK} (h : SqT K H p (ns.map V.int)) (h0 : 0 < ns.length) (k : ∀ m, m ∈ ns → (∀ y, y ∈ ns → y ≤ m) → Q (.int m) H) : rMaxT K [.ref p] H Q := ⟨p, ns, rfl, h, h0, k⟩
abbrev s__law_all_right : Stmt := top 35
theorem sc__law_all_right : FnScope ["_law_well", "_law_size", "_law_most", "_law_links_here", "_law_net", "_law_table", "_law_numbers", "_law_due"] ["_law_well", "_law_size"] (defScope s__law_all_right) := ⟨rfl, rfl, rfl, by decide +kernel, rfl, by decide +kernel, by decide +kernel⟩
def spAllR : Sp := fun vs H Q _ => ∃ (W : Addr) (a b c : Int) (n : Nat), vs = [.ref W, .int (n : Int)] ∧ H W = some (wl a b c) ∧ 2 ≤ n ∧ n ≤ 7 ∧ ∀ H' a' b' c', Own (cut H [(W, wl a b c)]) [(W, wl a' b' c')] H' → Q (.bl true) H'
theorem n_allR {G H : Hp} {L : List (Addr × HO)} {W : Addr} {a b c : Int} {n : Nat} {Q : VK} {E : XK} (S : Own G ((W, wl a b c) :: L) H) (h1 : 2 ≤ n) (h2 : n ≤ 7)
    (k : ∀ H1 a' b' c', Own G ((W, wl a' b' c') :: L) H1 → Q (.bl true) H1) : spAllR [.ref W, .int (n : Int)] H Q E :=
  ⟨W, a, b, c, n, rfl, S.get0, h1, h2, fun H' a' b' c' T => k H' a' b' c' (S.back T)⟩
section
variable {P : Program} {w : World} {K : PySem.W.Frag} {mg : Str → Option Value} {base : Heap} {C : Addr}
theorem ok_allR {f : Addr} {fd : FuncData} (F : Fun K "_law_all_right" "_law_all_right" s__law_all_right f fd) (T : Txt mg) (NC : NetC K C)
    (c__law_trees : Cal P w K mg base 2 "_law_trees" ["_law_well", "_law_size"] [] spTrees) (c_Network : Cnw P w K mg base 3 "Network" C ["self", "stations", "links"] (spInit C))
    (c_greatest_channels : Cal P w K mg base 3 "greatest_channels" ["network"] [] (spGC C)) (c_greatest_by_order : Cal P w K mg base 6 "greatest_by_order" ["network"] [] (spGBO C))
    (c_greatest_with : Cal P w K mg base 3 "greatest_with" ["stations"] [] spGWith) : FnOk P w K mg base CX0 7 f fd ["_law_well", "_law_size"] spAllR := by
  refine F.ok sc__law_all_right (fun vs H Q E h => ?_) (fun cdv A outer s H vs Q E hr h => ?_)
  · obtain ⟨W, a, b, c, n, rfl, _⟩ := h
    rfl
  · obtain ⟨W, a, b, c, n, rfl, hW, hn2, hn7, k⟩ := h
    have hu65 : ∀ X : Cx, X.A = A.deeper (envOfC "_law_all_right" (defScope s__law_all_right) s.heap.objs.size f cdv) → X.A.units + 65 < cLine := fun X e => by rw [e]; have := hr.un; omega
    have S0 := Own.give (o := wl a b c) hW
    generalize cut H [(W, wl a b c)] = G at S0 k
    refine ⟨_, (pss_cons (ps_set (i := 2) sc__law_all_right.nd rfl (Or.inl rfl) (pe_lst (pa_cons pe_int (pa_cons pe_int pa_nil))))
      (pss_cons (ps_for PassesOwn.never rfl (pi_list (pe_cal c__law_trees (hr.mono (by first | decide | omega)) passN (pa_cons (pv 0) (pa_cons (pv 1) pa_nil)))) (pg_name (i := 3) sc__law_all_right.nd rfl (Or.inl rfl)) (pss_cons (ps_set (i := 4) sc__law_all_right.nd rfl (Or.inl rfl) (pe_new c_Network (hr.mono (by first | decide | omega)) passN (pa_cons (pv 1) (pa_cons (pv 3) pa_nil))))
      (pss_cons (ps_par (i := 5) (j := 6) rfl sc__law_all_right.nd rfl rfl (by decide) rfl rfl (pa_cons (pe_cal c_greatest_channels (hr.mono (by first | decide | omega)) passN (pa_cons (pv 4) pa_nil)) (pa_cons (pe_cal c_greatest_by_order (hr.mono (by first | decide | omega)) passN (pa_cons (pv 4) pa_nil)) pa_nil)) rfl)
      (pss_one (ps_set (i := 2) sc__law_all_right.nd rfl (Or.inl rfl) (pe_lst (pa_cons (pe_callB (call_maxN rfl) (by rfl) T.n_max (by decide +kernel) (pa_cons (pe_ix ix_list (pv 2) pe_int (fun _ _ => rfl)) (pa_cons (pe_callB (cr_maxT (K := K) rfl) (by rfl) T.n_max (by decide +kernel) (pa_cons (pv 5) pa_nil)) pa_nil))) (pa_cons (pe_callB (call_maxN rfl) (by rfl) T.n_max (by decide +kernel) (pa_cons (pe_ix ix_list (pv 2) pe_int (fun _ _ => rfl)) (pa_cons (pe_callB (cr_maxT (K := K) rfl) (by rfl) T.n_max (by decide +kernel) (pa_cons (pv 6) pa_nil)) pa_nil))) pa_nil))))))))
      (pss_cons (ps_set (i := 7) sc__law_all_right.nd rfl (Or.inl rfl) (pe_callTy call_listN (by rfl) T.n_list (by decide +kernel) (pa_cons (pe_cal c_greatest_with (hr.mono (by first | decide | omega)) passN (pa_cons (pv 1) pa_nil)) pa_nil)))
      (pss_one (ps_ret (pe_ifExp (pt_cmpR op_lt (pv 1) pe_int (nomark _)) (pe_cmpR (op_eqD (Nat.lt_of_succ_lt (hu65 _ rfl))) (pv 2) (pv 7) (nomark _)) (pe_and (pe_cmpR op_le (pe_ix ix_list (pv 2) pe_int (fun _ _ => rfl)) (pe_ix ix_list (pv 7) pe_int (fun _ _ => rfl)) (nomark _)) (pe_one (pe_cmpR op_le (pe_ix ix_list (pv 2) pe_int (fun _ _ => rfl)) (pe_ix ix_list (pv 7) pe_int (fun _ _ => rfl)) (nomark _)))))))))), ?_⟩
    walk_at "go"
    refine n_lstG S0 (by show 2 ≤ 10000000; decide) fun p1 G1 H1 _ e1 _ hp1 S1 => ?_
    walk_at "go"
    refine n_trees S1 hn2 hn7 fun xs tss q G2 H2 a2 b2 c2 e2 S2 hq ht hmem hall hxl => ?_
    have en : n - 1 + 1 = n := by omega
    refine w_list (xs := xs) (fun j σ' H' => ∃ (p : Addr) (m0 m1 : Int) (x3 x4 x5 x6 x7 : Option V) (G' : Hp), σ' = [some (.ref W), some (.int (n : Int)), some (.ref p), x3, x4, x5, x6, x7] ∧ Ex G2 G' ∧ Own G' [(W, wl a2 b2 c2)] H' ∧ G' p = some (.lst [.int m0, .int m1]) ∧
      m0 ≤ gw true (n : Int) ∧ m1 ≤ gw false (n : Int) ∧ (n < 6 → trB n ∈ tss.take j → gw true (n : Int) ≤ m0 ∧ gw false (n : Int) ≤ m1)) (SqL.of (S2.ex _ _ hq))
      ⟨p1, 0, 0, _, _, _, _, _, G2, rfl, Ex.refl _, S2, e2 _ _ hp1, by unfold gw; omega, by unfold gw; omega, fun _ h => by simp at h⟩
      (fun j σ' H' ⟨_, _, _, _, _, _, _, _, G', _, e, S, _⟩ => SqL.of (S.ex _ _ (e _ _ hq))) ?_ ?_
    · rintro j x σ' H' hx ⟨p, m0, m1, x3, x4, x5, x6, x7, G', rfl, e', S', hp, b0, b1, hbest⟩
      obtain ⟨ts, hts, r, ys, rfl, hr', hlk⟩ := pr_get ht hx
      obtain ⟨ok, nd, rt, len⟩ := tr_okl (hmem ts (List.mem_of_getElem? hts))
      rw [en] at ok
      have rts : Rooted (sortP ts) := rt.perm (sortP_perm ts).symm
      obtain ⟨idx, N, hrt⟩ := id rts
      have u := nb_nodup ok.sort (sortP_up ts) ((sortP_perm ts).nodup_iff.mpr nd)
      walk_at "go"
      refine n_net S' (S'.ex _ _ (e' _ _ hr')) (hlk.mono (e'.trans S'.ex)) ok nd ⟨by omega, by omega⟩ (by omega) fun y G3 H3 _ e3 _ S3 N3 => ?_
      walk_at "go"
      refine n_gc S3 N3 fun t p4 G4 H4 htab _ e4 _ hp4 S4 => ?_
      walk_at "go"
      refine n_gbo S4 (N3.mono e4) hrt.ord (hrt.brg ok.sort) fun os p5 G5 H5 ho _ e5 _ hp5 S5 => ?_
      walk_at "go"
      have hp' := e5 _ _ (e4 _ _ (e3 _ _ hp))
      refine g_ixL (i := 0) (SqL.of (S5.ex _ _ hp')) rfl ?_
      walk_at "go"
      refine n_maxT (SqT.of (S5.ex _ _ (e5 _ _ hp4))) (by rw [htab.1]; omega) fun M0 hM0 hM0' => ?_
      walk_at "go"
      refine g_ixL (i := 1) (SqL.of (S5.ex _ _ hp')) rfl ?_
      walk_at "go"
      refine n_maxT (SqT.of (S5.ex _ _ hp5)) (by rw [ho.1]; omega) fun M1 hM1 hM1' => ?_
      walk_at "go"
      refine n_lstG S5 (by show 2 ≤ 10000000; decide) fun p6 G6 H6 _ e6 _ hp6 S6 => ?_
      walk_at "go"
      have t0 := tab_gw rts ok.sort u (by omega) htab hM0
      have t1 := ord_gw rts ok.sort u (by omega) ho hM1
      refine ⟨p6, max m0 M0, max m1 M1, _, _, _, _, _, G6, rfl, e'.trans (e3.trans (e4.trans (e5.trans e6))), S6, hp6, by omega, by omega, fun h6 hb => ?_⟩
      rw [take_snoc hts] at hb
      rcases List.mem_append.mp hb with hb | hb
      · have := hbest h6 hb
        omega
      · have : trB n = ts := by simpa using hb
        subst this
        obtain ⟨z0, hz0, g0⟩ := best_tab hn2 h6 htab
        obtain ⟨z1, hz1, g1⟩ := best_ord hn2 h6 ho
        have := hM0' z0 hz0
        have := hM1' z1 hz1
        omega
    · rintro σ' H' ⟨p, m0, m1, x3, x4, x5, x6, x7, G', rfl, e', S', hp, b0, b1, hbest⟩
      walk_at "go"
      refine n_gwR S' ⟨by omega, by omega⟩ fun p7 G7 H7 e7 hp7 S7 => ?_
      walk_at "go"
      refine n_listT S7 (SqT.of (S7.ex _ _ hp7)) fun p8 H8 _ S8 => ?_
      obtain ⟨S9, e9, hp9⟩ := S8.freeze
      have eG := ((e1.trans e2).trans e').trans (e7.trans e9)
      walk_at "go"
      refine if_2 (fun c6 => ?_) (fun c6 => ?_)
      · have c6 := of_decide_eq_true c6
        walk_at "go"
        refine n_eqIL (ns := [m0, m1]) (ms := [gw true (n : Int), gw false (n : Int)]) (SqL.of (S9.ex _ _ (e9 _ _ (e7 _ _ hp)))) (SqL.of (S9.ex _ _ hp9)) ?_
        have hb : trB n ∈ tss := by rw [hall (by omega)]; exact (tr_best n (by omega) hn2).1
        have hl := pr_len ht
        have := hbest (by omega) (by rw [hl, List.take_length]; exact hb)
        rw [dtrue (by rw [show m0 = gw true (n : Int) by omega, show m1 = gw false (n : Int) by omega])]
        exact k _ _ _ _ (Own.weak eG S9)
      · walk_at "go"
        refine g_ixL (i := 0) (SqL.of (S9.ex _ _ (e9 _ _ (e7 _ _ hp)))) rfl ?_
        walk_at "go"
        refine g_ixL (i := 0) (SqL.of (S9.ex _ _ hp9)) rfl ?_
        walk_at "go"
        refine if_tt (dtrue b0) ?_
        walk_at "go"
        refine g_ixL (i := 1) (SqL.of (S9.ex _ _ (e9 _ _ (e7 _ _ hp)))) rfl ?_
        walk_at "go"
        refine g_ixL (i := 1) (SqL.of (S9.ex _ _ hp9)) rfl ?_
        walk_at "go"
        rw [dtrue b1]
        exact k _ _ _ _ (Own.weak eG S9)
end
end NX

namespace NX
open PySem PySem.Spec PyProof.Rows L2
open Evl (Ex ex_l ex_t fresh_back)
/-! ### slices of tuples, tuple + tuple -/
section
variable {K : PySem.W.Frag} {G H : Hp} {L : List (Addr × HO)} {a b : Addr} {xs ys : List V} {Q : VK}
theorem n_slA {lo hi : Option Int} (S : Own G L H) (h : SqT K G a xs) (k : ∀ r G1 H1, Ex G G1 → Ex H H1 → SqT K G1 r (cutV xs lo hi) → Own G1 L H1 → Q (.ref r) H1) : rSlA K (.ref a) lo hi H Q := by
  refine ⟨a, xs, rfl, S.st h, fun e => k a G H (Ex.refl G) (Ex.refl H) ?_ S, fun _ p hp => k p _ _ (S.still hp).2.1 (Ex.new hp) (SqT.of (S.still hp).2.2) (S.still hp).1⟩
  have z : cutV xs lo hi = xs := by
    unfold cutV
    rw [e.1, e.2, List.drop_zero, Nat.sub_zero, List.take_length]
  rw [z]
  exact h
theorem n_catA (S : Own G L H) (h : SqT K G a xs) (h2 : SqT K G b ys) (hz : xs.length + ys.length ≤ 10000000) (k : ∀ r G1 H1, Ex G G1 → Ex H H1 → SqT K G1 r (xs ++ ys) → Own G1 L H1 → Q (.ref r) H1) : rCatA K (.ref a) (.ref b) H Q := by
  refine ⟨a, b, xs, ys, rfl, rfl, S.st h, S.st h2, small hz, fun e => ?_, fun _ e => ?_, fun _ _ p hp => k p _ _ (S.still hp).2.1 (Ex.new hp) (SqT.of (S.still hp).2.2) (S.still hp).1⟩
  · subst e
    exact k b G H (Ex.refl G) (Ex.refl H) h2 S
  · subst e
    exact k a G H (Ex.refl G) (Ex.refl H) (by rw [List.append_nil]; exact h) S
theorem n_clear (S : Own G ((a, .lst xs) :: L) H) (k : ∀ H1, Own G ((a, .lst []) :: L) H1 → Q .non H1) : rClear (.ref a) [] H Q := ⟨a, xs, rfl, rfl, S.get0, k _ S.put0⟩
theorem n_neP {c d : Addr} {ps qs : List Pr} {x y : List V} (h1 : SqL K H c x) (h2 : SqL K H d y) (l1 : Lks H x ps) (l2 : Lks H y qs) (k : Q (.bl (!decide (ps = qs))) H) : rNeD K (.ref c) (.ref d) H Q :=
  ⟨_, _, .lst h1 (dp_lks l1), .lst h2 (dp_lks l2), shaped_lks ps, shaped_lks qs, by rw [eqv_lks]; exact k⟩
theorem n_eqP {c d : Addr} {ps qs : List Pr} {x y : List V} (h1 : SqL K H c x) (h2 : SqL K H d y) (l1 : Lks H x ps) (l2 : Lks H y qs) (k : Q (.bl (decide (ps = qs))) H) : rEqD K (.ref c) (.ref d) H Q :=
  ⟨_, _, .lst h1 (dp_lks l1), .lst h2 (dp_lks l2), shaped_lks ps, shaped_lks qs, by rw [eqv_lks]; exact k⟩
/-- sorted(links): frozen -/
theorem n_sortPG {ps : List Pr} (S : Own G L H) (hx : SqL K G a xs) (hl : Lks G xs ps) (k : ∀ p ys G1 H1, H p = none → Ex G G1 → Ex H H1 → G1 p = some (.lst ys) → Lks G1 ys (sortP ps) → Own G1 L H1 → Q (.ref p) H1) : rSortedPO K [.ref a] H Q :=
  n_sortP S (S.sl hx) S.ex hl fun p ys G1 H1 h1 h2 h3 h4 h5 h6 => k p ys G1 H1 h1 h2 h3 h4 (h5.mono h2) h6
/-- xs.index(y): numbers, each once -/
theorem n_index {ns : List Int} {i : Nat} {x : Int} (h : SqL K H a (ns.map V.int)) (nd : ns.Nodup) (hi : ns[i]? = some x) (k : Q (.int (i : Nat)) H) : rIndex K (.ref a) [.int x] H Q :=
  ⟨a, _, .int x, i, .int x, rfl, rfl, h, rfl, all_flat ns, by rw [List.getElem?_map, hi] <;> rfl, by simp [eqV], fun m z' hm hz => by
    obtain ⟨y, hy, rfl⟩ := get_map hz
    obtain ⟨h1, e1⟩ := List.getElem?_eq_some_iff.mp hy
    obtain ⟨h2, e2⟩ := List.getElem?_eq_some_iff.mp hi
    have ne : y ≠ x := fun e => by
      have := (List.getElem_inj nd).mp (e1.trans (e.trans e2.symm))
      omega
    simp [eqV, ne], k⟩
end
end NX

namespace NX
open PySem PySem.Spec PyProof.Rows L2
open Evl (Ex ex_l ex_t fresh_back)
abbrev s__law_without : Stmt := top 36
theorem sc__law_without : FnScope ["_law_net", "_law_gone", "_law_names", "_law_links_here", "_law_station", "_law_link", "_law_one", "_law_other"] ["_law_net", "_law_gone"] (defScope s__law_without) := ⟨rfl, rfl, rfl, by decide +kernel, rfl, by decide +kernel, by decide +kernel⟩
section
variable {P : Program} {w : World} {K : PySem.W.Frag} {mg : Str → Option Value} {base : Heap} {C : Addr}
theorem ok_lwo {f : Addr} {fd : FuncData} (F : Fun K "_law_without" "_law_without" s__law_without f fd) (T : Txt mg) (NC : NetC K C) (M_len : Mth P w K mg base 1 C "__len__" ["self"] (spLen C)) (M_links : Mth P w K mg base 1 C "links" ["self"] (spLinks C))
    (c_Network : Cnw P w K mg base 3 "Network" C ["self", "stations", "links"] (spInit C)) : FnOk P w K mg base CX0 5 f fd ["_law_net", "_law_gone"] (spWo C) := by
  refine F.ok sc__law_without (fun vs H Q E h => ?_) (fun cdv A outer s H vs Q E hr h => ?_)
  · obtain ⟨a, n, ks, i, rfl, _⟩ := h
    rfl
  · obtain ⟨a, n, ks, i, rfl, N, hi, hn2, k⟩ := h
    have hz := N.len
    refine ⟨_, (pss_cons (ps_set (i := 2) sc__law_without.nd rfl (Or.inr rfl) (pe_lc (own := [("_law_station", 4)]) (by rfl) sc__law_without.nd (pi_range1 (by rfl) T.n_range (pa_cons (pe_callB (call_lenNet NC M_len (hr.mono (by first | decide | omega))) (by rfl) T.n_len (by decide +kernel) (pa_cons (pv 0) pa_nil)) pa_nil)) (blkOk_by (own := [("_law_station", 4)]) (N := ["_law_net", "_law_gone", "_law_names", "_law_links_here", "_law_station", "_law_link", "_law_one", "_law_other"]) (sc := defScope s__law_without) (by decide +kernel)) (fun _ _ _ _ _ => (pg_name (i := 4) sc__law_without.nd rfl (Or.inl rfl))) (fun _ _ _ _ _ => (pts_one (pt_cmpR op_ne (pv 4) (pv 1) (nomark _)))) (fun _ _ _ _ _ => (pv 4))))
      (pss_cons (ps_setLc (i := 3) (own := [("_law_link", 5)]) (by rfl) sc__law_without.nd rfl rfl (sw_true rfl rfl rfl (by decide +kernel)) (pi_list (pe_mth0 (pv 0) M_links NC.cl (hr.mono (by first | decide | omega)) passN)) (blkOk_by (own := [("_law_link", 5)]) (N := ["_law_net", "_law_gone", "_law_names", "_law_links_here", "_law_station", "_law_link", "_law_one", "_law_other"]) (sc := defScope s__law_without) (by decide +kernel)) (fun _ _ _ _ _ => (pg_name (i := 5) sc__law_without.nd rfl (Or.inl rfl))) (fun _ _ _ _ _ => (pts_one (pt_cmpR (op_notIn_seqK (K := K)) (pv 1) (pv 5) rfl))) (fun _ _ _ _ _ => (pv 5)))
      (pss_one (ps_ret (pe_new c_Network (hr.mono (by first | decide | omega)) passN (pa_cons (pe_callB call_lenN (by rfl) T.n_len (by decide +kernel) (pa_cons (pv 2) pa_nil)) (pa_cons (pe_lc (own := [("_law_one", 6), ("_law_other", 7)]) (by rfl) sc__law_without.nd (pi_list (pv 3)) (blkOk_by (own := [("_law_one", 6), ("_law_other", 7)]) (N := ["_law_net", "_law_gone", "_law_names", "_law_links_here", "_law_station", "_law_link", "_law_one", "_law_other"]) (sc := defScope s__law_without) (by decide +kernel)) (fun _ _ _ _ _ => (pg_tupK (K := K) (n := 2) rfl (pgs_cons (pg_name (i := 6) sc__law_without.nd rfl (Or.inl rfl)) (pgs_cons (pg_name (i := 7) sc__law_without.nd rfl (Or.inl rfl)) pgs_nil)))) (fun _ _ _ _ _ => pts_nil) (fun _ _ _ _ _ => (pe_tup (pa_cons (pe_bmK (K := K) PySem.F.plainAttrs_list PySem.F.slot_list_index PySem.F.type_list_index (mt_indexK (K := K)) (pv 2) (pa_cons (pv 6) pa_nil)) (pa_cons (pe_bmK (K := K) PySem.F.plainAttrs_list PySem.F.slot_list_index PySem.F.type_list_index (mt_indexK (K := K)) (pv 2) (pa_cons (pv 7) pa_nil)) pa_nil))))) pa_nil))))))), ?_⟩
    walk_at "go"
    refine n_lenNet N ?_
    walk_at "go"
    have hn := N.sz
    have h0 : ((([] : List Int).length : Nat) : Int) = shf i ((0 : Nat) : Int) := by
      unfold shf
      rw [if_neg (by omega)] <;> rfl
    refine v_rng1 (j := (n : Int)) (fun j acc G' L' => L' = [] ∧ ∃ ns : List Int, acc = ns.map V.int ∧ ns.Nodup ∧ (∀ x ∈ ns, x < (j : Int)) ∧ (ns.length : Int) = shf i (j : Int) ∧ ∀ x : Int, 0 ≤ x → x < (j : Int) → x ≠ i → ns[(shf i x).toNat]? = some x) (Own.start H) (by omega) ⟨rfl, [], rfl, .nil, (fun _ hx => nomatch hx), h0, fun x h1 h2 => absurd h2 (by omega)⟩ ?_ ?_
    · rintro D j acc G' L' H1 hj hj' e1 hl1 ⟨rfl, ns, rfl, nd, hlt, hlen, hat⟩ S1
      walk_at "go"
      refine ⟨rfl, ?_⟩
      walk_at "go"
      refine if_2 (fun c => ?_) (fun c => ?_)
      · have cne : (j : Int) ≠ i := fun z => by rw [z] at c; simp at c
        walk_at "go"
        refine c_yes S1 e1 hl1 hj' ⟨rfl, ns ++ [(j : Int)], by rw [List.map_append] <;> rfl, ?_, ?_, ?_, ?_⟩
        · refine List.nodup_append.mpr ⟨nd, by simp, fun x hx y hy => ?_⟩
          have := hlt x hx
          rw [List.mem_singleton] at hy
          omega
        · intro x hx
          rcases List.mem_append.mp hx with z | z
          · have := hlt x z
            omega
          · rw [List.mem_singleton] at z
            omega
        · rw [List.length_append]
          show ((ns.length + 1 : Nat) : Int) = _
          unfold shf at hlen ⊢
          split at hlen <;> split <;> omega
        · intro x h1 h2 h3
          by_cases z : x = (j : Int)
          · subst z
            rw [← hlen]
            exact List.getElem?_concat_length
          · have := hat x h1 (by omega) h3
            obtain ⟨hh, _⟩ := List.getElem?_eq_some_iff.mp this
            rw [List.getElem?_append_left hh, this]
      · have ceq : (j : Int) = i := by simpa using c
        refine c_no S1 e1 hl1 ⟨rfl, ns, rfl, nd, fun x hx => by have := hlt x hx; omega, ?_, fun x h1 h2 h3 => hat x h1 (by omega) h3⟩
        unfold shf at hlen ⊢
        split at hlen <;> split <;> omega
    · rintro p2 acc G2 L2 H2 e2 hl2 ⟨rfl, ns, rfl, nd, hlt, hlen', hat⟩ S2
      obtain ⟨S3, e3, hp3⟩ := S2.freeze
      generalize upd G2 p2 (.lst (ns.map V.int)) = G3 at S3 e3 hp3
      have e13 := e2.trans e3
      walk_at "go"
      refine ⟨((N.mono e13).mono S3.ex).ins (by decide) (by decide), ?_⟩
      walk_at "go"
      refine n_links S3 (N.mono e13) fun xs p G4 H4 hl _ e4 _ hp S4 => ?_
      walk_at "go"
      refine v_list (xs := xs) (fun j acc G' L' => L' = [] ∧ Lks G' acc (woF i (ks.take j))) S4 (SqL.of hp) (by rw [pr_len hl]; omega) ⟨rfl, .nil⟩ ?_ ?_
      · rintro D j x acc G' L' H' hx hj e' hl' ⟨rfl, ha⟩ S'
        obtain ⟨q, hq, t, rfl, ht⟩ := pr_get hl hx
        walk_at "go"
        refine ⟨rfl, ?_⟩
        walk_at "go"
        refine n_ninIT (ns := [q.1, q.2]) (SqT.of (S'.ex _ _ (e' _ _ ht))) ?_
        have e3 : decide (i ∈ [q.1, q.2]) = decide (i = q.1 ∨ i = q.2) := by simp
        have e4 : woF i (ks.take (j + 1)) = woF i (ks.take j) ++ woF i [q] := by unfold woF; rw [take_snoc hq, List.filter_append]
        walk_at "go"
        rw [e3]
        refine if_2 (fun c => ?_) (fun c => ?_)
        · have e5 : woF i [q] = [q] := by unfold woF; rw [List.filter_cons, if_pos c] <;> rfl
          walk_at "go"
          refine c_yes S' e' hl' hj ⟨rfl, ?_⟩
          rw [e4, e5]
          exact pr_snoc ha ⟨t, rfl, e' _ _ ht⟩
        · have e5 : woF i [q] = [] := by unfold woF; rw [List.filter_cons, if_neg (by rw [c]; exact Bool.false_ne_true)] <;> rfl
          refine c_no S' e' hl' ⟨rfl, ?_⟩
          rw [e4, e5, List.append_nil]
          exact ha
      · rintro p5 acc G5 L5 H5 e5 hl5 ⟨rfl, ha⟩ S5
        rw [pr_len hl, List.take_length] at ha
        obtain ⟨S6, e6, hp6⟩ := S5.freeze
        generalize upd G5 p5 (.lst acc) = G6 at S6 e6 hp6
        have ha6 := ha.mono e6
        have hlenw : (woF i ks).length ≤ ks.length := List.length_filter_le ..
        have e46 := e4.trans (e5.trans e6)
        walk_at "go"
        refine n_len (SqL.of (S6.ex _ _ (e46 _ _ hp3))) ?_
        walk_at "go"
        have hln : ns.length = n - 1 := by
          unfold shf at hlen'
          rw [if_pos (by omega)] at hlen'
          omega
        refine v_list (xs := acc) (fun j acc5 G' L' => L' = [] ∧ Lks G' acc5 (((woF i ks).take j).map fun q => (shf i q.1, shf i q.2))) S6 (SqL.of hp6) (by rw [pr_len ha]; omega) ⟨rfl, .nil⟩ ?_ ?_
        · rintro D j x acc5 G' L' H' hx hj e' hl' ⟨rfl, h5⟩ S'
          obtain ⟨q, hq, t, rfl, ht⟩ := pr_get ha6 hx
          obtain ⟨hqk, q1, q2⟩ := mem_woF.mp (List.mem_of_getElem? hq)
          have hb := N.ok q hqk
          refine s_gtup (SqT.of (S'.ex _ _ (e' _ _ ht))) rfl ?_
          walk_at "go"
          refine ⟨rfl, ?_⟩
          walk_at "go"
          have hsq : SqL K H' p2 (ns.map V.int) := SqL.of (S'.ex _ _ (e' _ _ (e46 _ _ hp3)))
          refine ⟨tyL hsq, ?_⟩
          walk_at "go"
          refine n_index hsq nd (hat q.1 (by omega) (by omega) q1) ?_
          walk_at "go"
          refine ⟨tyL hsq, ?_⟩
          walk_at "go"
          refine n_index hsq nd (hat q.2 (by omega) (by omega) q2) ?_
          walk_at "go"
          have c1 : (((shf i q.1).toNat : Nat) : Int) = shf i q.1 := by
            unfold shf
            split <;> omega
          have c2 : (((shf i q.2).toNat : Nat) : Int) = shf i q.2 := by
            unfold shf
            split <;> omega
          rw [c1, c2]
          refine n_tup S' (by show 2 ≤ 10000000; decide) fun t2 G7 H7 _ e7 _ ht2 S7 => ?_
          refine c_yes S7 (e'.trans e7) hl' hj ⟨rfl, ?_⟩
          rw [take_snoc hq, List.map_append]
          exact pr_snoc (h5.mono e7) ⟨t2, rfl, ht2⟩
        · rintro p7 acc7 G7 L7 H7 e7 hl7 ⟨rfl, h7⟩ S7
          rw [pr_len ha6, List.take_length] at h7
          walk_at "go"
          have eG : Ex H G7 := (e13.trans e46).trans e7
          rw [List.length_map, hln]
          refine n_netN S7.get0 (h7.mono S7.ex) (wo_ok hi N.ok) (wo_nd N.nd) ⟨by omega, by omega⟩ (Nat.le_trans wo_len hz) fun x H8 hx e8 N8 => ?_
          exact k x H8 (fresh_back (eG.trans S7.ex) hx) ((eG.trans S7.ex).trans e8) (N8.mono (nw_mono (eG.trans S7.ex)))
end
end NX

namespace NX
open PySem PySem.Spec PyProof.Rows L2
open Evl (Ex ex_l ex_t fresh_back)
abbrev s__law_needed_right : Stmt := top 37
theorem sc__law_needed_right : FnScope ["_law_well", "_law_channel", "_law_is_off", "_law_net", "_law_less"] ["_law_well", "_law_channel", "_law_is_off"] (defScope s__law_needed_right) := ⟨rfl, rfl, rfl, by decide +kernel, rfl, by decide +kernel, by decide +kernel⟩
def spNeed : Sp := fun vs H Q _ => ∃ (W : Addr) (a b d : Int) (c : Nat) (off : Bool), vs = [.ref W, .int ((c : Int) + 1), .bl off] ∧ H W = some (wl a b d) ∧ 1 ≤ c ∧ fw off c ≤ 60 ∧ ∀ H' a' b' d', Own (cut H [(W, wl a b d)]) [(W, wl a' b' d')] H' → Q (.bl true) H'
theorem n_need {G H : Hp} {L : List (Addr × HO)} {W : Addr} {a b d i : Int} {off : Bool} {Q : VK} {E : XK} (c : Nat) (S : Own G ((W, wl a b d) :: L) H) (hi : i = (c : Int) + 1) (hc : 1 ≤ c) (h : fw off c ≤ 60)
    (k : ∀ H1 a' b' d', Own G ((W, wl a' b' d') :: L) H1 → Q (.bl true) H1) : spNeed [.ref W, .int i, .bl off] H Q E := by
  subst hi
  exact ⟨W, a, b, d, c, off, rfl, S.get0, hc, h, fun H' a' b' d' T => k H' a' b' d' (S.back T)⟩
section
variable {P : Program} {w : World} {K : PySem.W.Frag} {mg : Str → Option Value} {base : Heap} {C : Addr}
theorem ok_need {f : Addr} {fd : FuncData} (F : Fun K "_law_needed_right" "_law_needed_right" s__law_needed_right f fd) (T : Txt mg) (NC : NetC K C) (M_len : Mth P w K mg base 1 C "__len__" ["self"] (spLen C))
    (c__law_draw : Cal P w K mg base 1 "_law_draw" ["_law_well", "_law_limit"] [] spDraw)
    (c_fibonacci_tree : Cal P w K mg base 11 "fibonacci_tree" ["channel"] [] (spTree1 C true)) (c_doubling_tree : Cal P w K mg base 11 "doubling_tree" ["channel"] [] (spTree1 C false))
    (k_fewest_stations_1_off : CalK P w K mg base 2 "fewest_stations" ["channel", "off"] 1 ["off"] (fun vs zs => vs ++ zs) spFewest)
    (c__law_without : Cal P w K mg base 5 "_law_without" ["_law_net", "_law_gone"] [] (spWo C))
    (c_greatest_channels : Cal P w K mg base 3 "greatest_channels" ["network"] [] (spGC C)) (c_greatest_by_order : Cal P w K mg base 6 "greatest_by_order" ["network"] [] (spGBO C)) : FnOk P w K mg base CX0 12 f fd ["_law_well", "_law_channel", "_law_is_off"] spNeed := by
  refine F.ok sc__law_needed_right (fun vs H Q E h => ?_) (fun cdv A outer s H vs Q E hr h => ?_)
  · obtain ⟨W, a, b, d, c, off, rfl, _⟩ := h
    rfl
  · obtain ⟨W, a, b, d, c, off, rfl, hW, hc, hf, k⟩ := h
    have S0 := Own.give (o := wl a b d) hW
    generalize cut H [(W, wl a b d)] = G at S0 k
    obtain ⟨hn, _, _⟩ := tree_facts hf
    have h9 := fw_small off hf
    have hu := fw_up off (c - 1)
    have hp := (fw_pos off (c - 1)).1
    have ec : c - 1 + 1 = c := by omega
    rw [ec] at hu
    have hn2 : 2 ≤ treeN off c := by omega
    have hlt : ((treeN off c - 1 : Nat) : Int) < fw off c := by omega
    refine ⟨_, (pss_cons (ps_set (i := 3) sc__law_needed_right.nd rfl (Or.inl rfl) (pe_ifExp (pt_val (pv 2)) (pe_cal c_fibonacci_tree (hr.mono (by first | decide | omega)) passN (pa_cons (pv 1) pa_nil)) (pe_cal c_doubling_tree (hr.mono (by first | decide | omega)) passN (pa_cons (pv 1) pa_nil))))
      (pss_cons (ps_if (pt_cmpR op_ne (pe_callB (call_lenNet NC M_len (hr.mono (by first | decide | omega))) (by rfl) T.n_len (by decide +kernel) (pa_cons (pv 3) pa_nil)) (pe_calK k_fewest_stations_1_off (hr.mono (by first | decide | omega)) passN (pa_cons (pv 1) pa_nil) (pk_cons (pv 2) pk_nil)) (nomark _)) (pss_one (ps_ret pe_bl)) pss_nil)
      (pss_cons (ps_set (i := 4) sc__law_needed_right.nd rfl (Or.inl rfl) (pe_cal c__law_without (hr.mono (by first | decide | omega)) passN (pa_cons (pv 3) (pa_cons (pe_op op_add pe_int (pe_cal c__law_draw (hr.mono (by first | decide | omega)) passN (pa_cons (pv 0) (pa_cons (pe_op op_sub (pe_callB (call_lenNet NC M_len (hr.mono (by first | decide | omega))) (by rfl) T.n_len (by decide +kernel) (pa_cons (pv 3) pa_nil)) pe_int) pa_nil)))) pa_nil))))
      (pss_one (ps_ret (pe_cmpR op_lt (pe_ix ix_tup (pe_ifExp (pt_val (pv 2)) (pe_cal c_greatest_channels (hr.mono (by first | decide | omega)) passN (pa_cons (pv 4) pa_nil)) (pe_cal c_greatest_by_order (hr.mono (by first | decide | omega)) passN (pa_cons (pv 4) pa_nil))) pe_int (fun _ _ => rfl)) (pv 1) (nomark _))))))), ?_⟩
    cases off with
    | true =>
      walk_at "go"
      refine n_tree1 c S0 rfl hf fun x1 G1 H1 _ e1 S1 N1 => ?_
      walk_at "go"
      refine n_lenNet (N1.mono S1.ex) ?_
      walk_at "go"
      refine ⟨rfl, rfl, n_few c S1 rfl (by omega) fun H2 S2 => ?_⟩
      walk_at "go"
      refine if_ff (ntrue hn) ?_
      walk_at "go"
      refine n_lenNet (N1.mono S2.ex) ?_
      walk_at "go"
      refine n_draw S2 ⟨by omega, by omega⟩ fun r a2 b2 d2 H3 h0 h1 S3 => ?_
      walk_at "go"
      obtain ⟨rt, ok, nd⟩ := less_rooted (off := true) (c := c) (g := 1 + r) hf ⟨by omega, by omega⟩
      refine n_wo S3 N1 ⟨by omega, by omega⟩ hn2 fun x4 G4 H4 _ e4 _ S4 N4 => ?_
      walk_at "go"
      refine n_gc S4 N4 fun t p G5 H5 ht _ e5 _ hp5 S5 => ?_
      walk_at "go"
      refine g_ixT (i := 0) (SqT.of (S5.ex _ _ hp5)) (at_tv (by omega) (by rw [ht.1]; omega)) ?_
      walk_at "go"
      have z : tv t 0 < (c : Int) + 1 := need_tab (v := 0) rt ok (nb_nodup ok (sortP_up _) nd) ht (by omega) hlt
      rw [dtrue z]
      exact k _ _ _ _ (Own.weak ((e1.trans e4).trans e5) S5)
    | false =>
      walk_at "go"
      refine n_tree1 c S0 rfl hf fun x1 G1 H1 _ e1 S1 N1 => ?_
      walk_at "go"
      refine n_lenNet (N1.mono S1.ex) ?_
      walk_at "go"
      refine ⟨rfl, rfl, n_few c S1 rfl (by omega) fun H2 S2 => ?_⟩
      walk_at "go"
      refine if_ff (ntrue hn) ?_
      walk_at "go"
      refine n_lenNet (N1.mono S2.ex) ?_
      walk_at "go"
      refine n_draw S2 ⟨by omega, by omega⟩ fun r a2 b2 d2 H3 h0 h1 S3 => ?_
      walk_at "go"
      obtain ⟨rt, ok, nd⟩ := less_rooted (off := false) (c := c) (g := 1 + r) hf ⟨by omega, by omega⟩
      refine n_wo S3 N1 ⟨by omega, by omega⟩ hn2 fun x4 G4 H4 _ e4 _ S4 N4 => ?_
      walk_at "go"
      obtain ⟨idx, N, hrt⟩ := id rt
      refine n_gbo S4 N4 hrt.ord (hrt.brg ok) fun os p G5 H5 ho _ e5 _ hp5 S5 => ?_
      walk_at "go"
      refine g_ixT (i := 0) (SqT.of (S5.ex _ _ hp5)) (at_tv (by omega) (by rw [ho.1]; omega)) ?_
      walk_at "go"
      have z : tv os 0 < (c : Int) + 1 := need_ord (v := 0) rt ok (nb_nodup ok (sortP_up _) nd) ho (by omega) hlt
      rw [dtrue z]
      exact k _ _ _ _ (Own.weak ((e1.trans e4).trans e5) S5)
end
end NX

namespace NX
open PySem PySem.Spec PyProof.Rows L2
open Evl (Ex ex_l ex_t fresh_back)
abbrev s__law_right : Stmt := top 38
theorem sc__law_right : FnScope ["_law_well", "_law_k", "_law_size", "_law_net", "_law_due", "_law_turn"] ["_law_well", "_law_k"] (defScope s__law_right) := ⟨rfl, rfl, rfl, by decide +kernel, rfl, by decide +kernel, by decide +kernel⟩
abbrev s_law : Stmt := top 39
theorem sc_law : FnScope ["_law_script", "_law_k", "_law_cell"] ["_law_script"] (defScope s_law) := ⟨rfl, rfl, rfl, by decide +kernel, rfl, by decide +kernel, by decide +kernel⟩
def spRight : Sp := fun vs H Q _ => ∃ (W : Addr) (a b c : Int) (x : V), vs = [.ref W, x] ∧ H W = some (wl a b c) ∧ ∀ H', Ex (cut H [(W, wl a b c)]) H' → Q (.bl true) H'
def spLaw (K : PySem.W.Frag) : Sp := fun vs H Q _ => ∃ (a : Addr) (ns : List Int), vs = [.ref a] ∧ SqL K H a (ns.map V.int) ∧ ns.length ≤ 63 ∧ ∀ H', Q (.bl true) H'
section
variable {P : Program} {w : World} {K : PySem.W.Frag} {mg : Str → Option Value} {base : Heap} {C : Addr}
theorem ok_right {f : Addr} {fd : FuncData} (F : Fun K "_law_right" "_law_right" s__law_right f fd) (T : Txt mg) (NC : NetC K C)
    (c__law_draw : Cal P w K mg base 1 "_law_draw" ["_law_well", "_law_limit"] [] spDraw) (c__law_tree : Cal P w K mg base 3 "_law_tree" ["_law_well", "_law_size"] [] spTreeL)
    (c__law_all_right : Cal P w K mg base 7 "_law_all_right" ["_law_well", "_law_size"] [] spAllR) (c_Network : Cnw P w K mg base 3 "Network" C ["self", "stations", "links"] (spInit C))
    (c_greatest_channels : Cal P w K mg base 3 "greatest_channels" ["network"] [] (spGC C)) (c_greatest_by_order : Cal P w K mg base 6 "greatest_by_order" ["network"] [] (spGBO C))
    (c_greatest_with : Cal P w K mg base 3 "greatest_with" ["stations"] [] spGWith)
    (c__law_needed_right : Cal P w K mg base 12 "_law_needed_right" ["_law_well", "_law_channel", "_law_is_off"] [] spNeed) : FnOk P w K mg base CX0 13 f fd ["_law_well", "_law_k"] spRight := by
  refine F.ok sc__law_right (fun vs H Q E h => ?_) (fun cdv A outer s H vs Q E hr h => ?_)
  · obtain ⟨W, a, b, c, x, rfl, _⟩ := h
    rfl
  · obtain ⟨W, a, b, c, x, rfl, hW, k⟩ := h
    have S0 := Own.give (o := wl a b c) hW
    generalize cut H [(W, wl a b c)] = G at S0 k
    refine ⟨_, (pss_cons (ps_if (pt_not (pt_val (pe_cal c__law_all_right (hr.mono (by first | decide | omega)) passN (pa_cons (pv 0) (pa_cons (pe_op op_add pe_int (pe_cal c__law_draw (hr.mono (by first | decide | omega)) passN (pa_cons (pv 0) (pa_cons pe_int pa_nil)))) pa_nil))))) (pss_one (ps_ret pe_bl)) pss_nil)
      (pss_cons (ps_set (i := 2) sc__law_right.nd rfl (Or.inl rfl) (pe_op op_add pe_int (pe_cal c__law_draw (hr.mono (by first | decide | omega)) passN (pa_cons (pv 0) (pa_cons pe_int pa_nil)))))
      (pss_cons (ps_set (i := 3) sc__law_right.nd rfl (Or.inl rfl) (pe_new c_Network (hr.mono (by first | decide | omega)) passN (pa_cons (pv 2) (pa_cons (pe_cal c__law_tree (hr.mono (by first | decide | omega)) passN (pa_cons (pv 0) (pa_cons (pv 2) pa_nil))) pa_nil))))
      (pss_cons (ps_set (i := 4) sc__law_right.nd rfl (Or.inl rfl) (pe_cal c_greatest_with (hr.mono (by first | decide | omega)) passN (pa_cons (pv 2) pa_nil)))
      (pss_cons (ps_if (PW.pt (pw_or (pt_cmpR op_gt (pe_callB (cr_maxT (K := K) rfl) (by rfl) T.n_max (by decide +kernel) (pa_cons (pe_cal c_greatest_channels (hr.mono (by first | decide | omega)) passN (pa_cons (pv 3) pa_nil)) pa_nil)) (pe_ix ix_tup (pv 4) pe_int (fun _ _ => rfl)) (nomark _)) (pw_or1 (pt_cmpR op_gt (pe_callB (cr_maxT (K := K) rfl) (by rfl) T.n_max (by decide +kernel) (pa_cons (pe_cal c_greatest_by_order (hr.mono (by first | decide | omega)) passN (pa_cons (pv 3) pa_nil)) pa_nil)) (pe_ix ix_tup (pv 4) pe_int (fun _ _ => rfl)) (nomark _))))) (pss_one (ps_ret pe_bl)) pss_nil)
      (pss_cons (ps_for PassesOwn.never rfl (pi_range1 (by rfl) T.n_range (pa_cons pe_int pa_nil)) (pg_name (i := 5) sc__law_right.nd rfl (Or.inl rfl)) (pss_cons (ps_if (pt_not (pt_val (pe_cal c__law_needed_right (hr.mono (by first | decide | omega)) passN (pa_cons (pv 0) (pa_cons (pe_op op_add pe_int (pe_cal c__law_draw (hr.mono (by first | decide | omega)) passN (pa_cons (pv 0) (pa_cons pe_int pa_nil)))) (pa_cons pe_bl pa_nil)))))) (pss_one (ps_ret pe_bl)) pss_nil)
      (pss_one (ps_if (pt_not (pt_val (pe_cal c__law_needed_right (hr.mono (by first | decide | omega)) passN (pa_cons (pv 0) (pa_cons (pe_op op_add pe_int (pe_cal c__law_draw (hr.mono (by first | decide | omega)) passN (pa_cons (pv 0) (pa_cons pe_int pa_nil)))) (pa_cons pe_bl pa_nil)))))) (pss_one (ps_ret pe_bl)) pss_nil))))
      (pss_one (ps_ret pe_bl)))))))), ?_⟩
    walk_at "go"
    refine n_draw S0 ⟨by decide, by decide⟩ fun r1 a1 b1 c1 H1 g1 l1 S1 => ?_
    obtain ⟨n1, hn1⟩ : ∃ n1 : Nat, 2 + r1 = (n1 : Int) := ⟨(2 + r1).toNat, by omega⟩
    walk_at "go"
    rw [hn1]
    refine n_allR S1 (by omega) (by omega) fun H2 a2 b2 c2 S2 => ?_
    walk_at "go"
    refine n_draw S2 ⟨by decide, by decide⟩ fun r3 a3 b3 c3 H3 g3 l3 S3 => ?_
    obtain ⟨n, hn⟩ : ∃ n : Nat, 1 + r3 = (n : Int) := ⟨(1 + r3).toNat, by omega⟩
    walk_at "go"
    rw [hn]
    refine n_treeL S3 (by omega) (by omega) fun xs ps q G4 H4 a4 b4 c4 e4 S4 hl ok nd rt => ?_
    obtain ⟨S5, e5, hq⟩ := S4.swap.freeze
    have hl5 := hl.mono e5
    generalize upd G4 q (.lst xs) = G5 at S5 e5 hq hl5
    have hlen := okl_len ok nd (by omega)
    walk_at "go"
    refine n_net S5 (S5.ex _ _ hq) (hl5.mono S5.ex) ok nd ⟨by omega, by omega⟩ hlen fun y G6 H6 _ e6 _ S6 N6 => ?_
    walk_at "go"
    refine n_gwR S6 ⟨by omega, by omega⟩ fun p7 G7 H7 e7 hp7 S7 => ?_
    have rts : Rooted (sortP ps) := rt.perm (sortP_perm ps).symm
    obtain ⟨idx, N, hrt⟩ := id rts
    have u := nb_nodup ok.sort (sortP_up ps) ((sortP_perm ps).nodup_iff.mpr nd)
    walk_at "go"
    refine n_gc S7 (N6.mono e7) fun t p8 G8 H8 ht _ e8 _ hp8 S8 => ?_
    walk_at "go"
    refine n_maxT (SqT.of (S8.ex _ _ hp8)) (by rw [ht.1]; omega) fun M0 hM0 _ => ?_
    walk_at "go"
    refine g_ixT (i := 0) (SqT.of (S8.ex _ _ (e8 _ _ hp7))) rfl ?_
    walk_at "go"
    have t0 := tab_gw rts ok.sort u (by omega) ht hM0
    refine if_ff (dfalse (by omega)) ?_
    walk_at "go"
    refine n_gbo S8 ((N6.mono e7).mono e8) hrt.ord (hrt.brg ok.sort) fun os p9 G9 H9 ho _ e9 _ hp9 S9 => ?_
    walk_at "go"
    refine n_maxT (SqT.of (S9.ex _ _ hp9)) (by rw [ho.1]; omega) fun M1 hM1 _ => ?_
    walk_at "go"
    refine g_ixT (i := 1) (SqT.of (S9.ex _ _ (e9 _ _ (e8 _ _ hp7)))) rfl ?_
    walk_at "go"
    have t1 := ord_gw rts ok.sort u (by omega) ho hM1
    refine if_ff (dfalse (by omega)) ?_
    walk_at "go"
    have eG : Ex G G9 := e4.trans (e5.trans (e6.trans (e7.trans (e8.trans e9))))
    have w1 : ∀ c : Nat, c ≤ 8 → fw true c ≤ 60 := fun c h => Int.le_trans (fw_le true h) (by decide +kernel)
    have w2 : ∀ c : Nat, c ≤ 5 → fw false c ≤ 60 := fun c h => Int.le_trans (fw_le false h) (by decide +kernel)
    refine w_rng1 (fun i σ' H' => (∃ x1 x2 x3 x4, σ' = [some (.ref W), some x, x1, x2, x3, x4]) ∧ ∃ a' b' c', Own G9 [(W, wl a' b' c')] H') ⟨by decide, by decide⟩ ⟨⟨_, _, _, _, rfl⟩, _, _, _, S9⟩ ?_ ?_
    · rintro i σ' H' hi ⟨⟨x1, x2, x3, x4, rfl⟩, a', b', c', S⟩
      walk_at "go"
      refine n_draw S ⟨by decide, by decide⟩ fun r10 a10 b10 c10 H10 g10 l10 S10 => ?_
      obtain ⟨v, hv⟩ : ∃ v : Nat, r10 = (v : Int) := ⟨r10.toNat, by omega⟩
      walk_at "go"
      refine n_need (v + 1) S10 (by omega) (by omega) (w2 _ (by omega)) fun H11 a11 b11 c11 S11 => ?_
      walk_at "go"
      refine n_draw S11 ⟨by decide, by decide⟩ fun r12 a12 b12 c12 H12 g12 l12 S12 => ?_
      obtain ⟨v2, hv2⟩ : ∃ v : Nat, r12 = (v : Int) := ⟨r12.toNat, by omega⟩
      walk_at "go"
      refine n_need (v2 + 1) S12 (by omega) (by omega) (w1 _ (by omega)) fun H13 a13 b13 c13 S13 => ?_
      walk_at "go"
      exact ⟨⟨_, _, _, _, rfl⟩, _, _, _, S13⟩
    · rintro σ' H' ⟨⟨x1, x2, x3, x4, rfl⟩, a', b', c', S⟩
      walk_at "go"
      exact k _ (eG.trans S.ex)
theorem ok_law {f : Addr} {fd : FuncData} (F : Fun K "law" "law" s_law f fd) (T : Txt mg) (c__law_right : Cal P w K mg base 13 "_law_right" ["_law_well", "_law_k"] [] spRight) : FnOk P w K mg base CX0 14 f fd ["_law_script"] (spLaw K) := by
  refine F.ok sc_law (fun vs H Q E h => ?_) (fun cdv A outer s H vs Q E hr h => ?_)
  · obtain ⟨a, ns, rfl, _⟩ := h
    rfl
  · obtain ⟨a, ns, rfl, hS, hn, k⟩ := h
    refine ⟨_, (pss_cons (ps_for PassesOwn.never rfl (pi_enum (by rfl) T.n_enumerate (pa_cons (pe_slice sl_list (pe_op op_catL (pv 0) (pe_lst (pa_cons pe_int pa_nil))) po_none (po_some pe_int)) pa_nil)) (pg_tup (n := 2) rfl (pgs_cons (pg_name (i := 1) sc_law.nd rfl (Or.inl rfl)) (pgs_cons (pg_name (i := 2) sc_law.nd rfl (Or.inl rfl)) pgs_nil))) (pss_one (ps_if (pt_not (pt_val (pe_cal c__law_right (hr.mono (by first | decide | omega)) passN (pa_cons (pe_lst (pa_cons (pe_op op_mul (pv 2) (pe_callTy call_intN (by rfl) T.n_int (by decide +kernel) (pa_cons (pe_cmpR op_ge (pv 2) (pe_op op_pow pe_int pe_int) (nomark _)) pa_nil))) (pa_cons (pe_op op_add (pe_op op_mod (pv 2) pe_int) (pe_op op_mul pe_int (pv 1))) (pa_cons pe_int pa_nil)))) (pa_cons (pv 1) pa_nil))))) (pss_one (ps_ret pe_bl)) pss_nil)))
      (pss_one (ps_ret pe_bl))), ?_⟩
    walk_at "go"
    refine n_lstG (Own.start H) (by decide) fun p G1 H1 _ e1 _ hp S1 => ?_
    walk_at "go"
    refine n_catG S1 (S1.sl (ex_l e1 hS)) (SqL.of (S1.ex _ _ hp)) (by rw [List.length_map]; simp; omega) fun q G2 H2 _ e2 _ hq S2 => ?_
    walk_at "go"
    refine n_sl S2 (SqL.of (S2.ex _ _ hq)) fun t G3 H3 _ e3 _ ht S3 => ?_
    have hc : cutV (ns.map V.int ++ [.int 0]) none (some ((3 : Nat) : Int)) = ((ns ++ [0]).take 3).map V.int := by
      rw [cutV_to, List.map_take, List.map_append] <;> rfl
    have ht : G3 t = some (.lst (((ns ++ [0]).take 3).map V.int)) := ht.trans (by rw [← hc] <;> rfl)
    walk_at "go"
    refine w_enum (fun i σ' H' => (∃ x y, σ' = [some (.ref a), x, y]) ∧ Own G3 [] H') (SqL.of (S3.ex _ _ ht)) ⟨⟨_, _, rfl⟩, S3⟩ (fun i σ' H' h => SqL.of (h.2.ex _ _ ht)) ?_ ?_
    · rintro i x T' σ' H' hx ⟨⟨x0, y0, rfl⟩, S⟩ hT
      obtain ⟨z, _, rfl⟩ := get_map hx
      have S4 := S.grow (Ex.new (o := .tup [.int (i : Int), .int z]) hT)
      refine s_gtup (SqT.of upd_same) rfl ?_
      walk_at "go"
      refine g_I ⟨by decide, by decide, by decide⟩ ?_
      walk_at "go"
      refine g_I (.inr (by split <;> decide)) ?_
      walk_at "go"
      refine g_I (by decide) ?_
      walk_at "go"
      refine g_I (.inl ⟨by decide, by decide⟩) ?_
      walk_at "go"
      refine n_lst S4 (by show 3 ≤ 10000000; decide) fun W H5 hW S5 => ?_
      walk_at "go"
      refine ⟨W, _, _, _, _, rfl, S5.get0, fun H6 e6 => ?_⟩
      walk_at "go"
      exact ⟨⟨_, _, rfl⟩, (Own.start G3).grow (S5.keep.trans e6)⟩
    · rintro σ' H' ⟨⟨x, y, rfl⟩, S⟩
      walk_at "go"
      exact k _
end
end NX

namespace NX
open PySem PySem.Spec PyProof.Rows L2
section
variable {P : Program} {w : World} {K : PySem.W.Frag} {mg : Str → Option Value} {base : Heap}
theorem mkCal {x : Str} {f : Addr} {fd : FuncData} {k : Nat} {ps : List Str} {sp : Sp} (F : FnOk P w K mg base (L2.CX P w) k f fd ps sp) (g : mg x = some (.ref f)) (kp : PySem.W.keepIn K (.ref f) = true) (b : Binds K fd ps []) : Cal P w K mg base k x ps [] sp := ⟨f, fd, [], F, g, kp, b, .nil⟩
/-- how a plain def binds keywords -/
theorem fun_kbn {x qual : Str} {st : Stmt} {f : Addr} {fd : FuncData} {ps ks : List Str} {n : Nat} {g : List Value → List Value → List Value} {gV : List V → List V → List V} (F : Fun K x qual st f fd)
    (hrel : ∀ {vs : List V} {us : List Value} {zs : List V} {ws : List Value}, Vals vs us → Vals zs ws → Vals (gV vs zs) (g us ws))
    (h : ∀ (kV doc pm : Value) (an : Option Addr) (cdv ct : Value) (us ws : List Value), us.length = n → ws.length = ks.length → bindArgs (PySem.W.fnOf x qual (defArgs st) (defBody st) (defScope st) .none kV doc pm an cdv ct) ⟨us, ks.zip ws⟩ = pure (ps.zip (g us ws))) : KBn K fd ps n ks g gV := by
  obtain ⟨oc, od, kV, doc, pm, an, cdv, ct, osl, rfl, lk, hcd⟩ := F.ex
  exact ⟨fun s us ws _ h1 h2 => .of_eq (h kV doc pm an cdv ct us ws h1 h2), hrel⟩
theorem mkCalK {x : Str} {f : Addr} {fd : FuncData} {k n : Nat} {ps ks : List Str} {g : List Value → List Value → List Value} {gV : List V → List V → List V} {sp : Sp} (F : FnOk P w K mg base (L2.CX P w) k f fd ps sp) (hm : mg x = some (.ref f)) (kp : PySem.W.keepIn K (.ref f) = true) (b : KBn K fd ps n ks g gV) :
    CalK P w K mg base k x ps n ks gV sp := ⟨f, fd, g, F, hm, kp, b⟩
theorem walk {l : PySem.W.OpenLaw} {q : Program} {loose : List Str} {XP : (Str → Option Value) → Heap → Prop} {YP : World → Heap → Prop} {d : DefRec} {K : Params → PySem.W.Frag} {k : Nat} (hn : l.most = some 63) (hdf : d.params.defaults = []) (hr : Room k callerA)
    (hY : ∀ (w : World) (h : Heap), YP w h → (K w.params).In h) {sp : PySem.W.Frag → Sp}
    (F : ∀ (w : World) (mg : Str → Option Value) (fa : Addr) (h : Heap), (K w.params).In h → h.Ns mainGlobals mg → mg d.name = some (.ref fa) →
      ∃ fd : FuncData, (∀ (s : Shared) (u : Value), BindsTo s fd ⟨[u], []⟩ [("_law_script", u)]) ∧ ∀ base : Heap, (K w.params).In base → base.Ns mainGlobals mg → FnOk l.prog w (K w.params) mg base CX0 k fa fd ["_law_script"] (sp (K w.params)))
    (hsp : ∀ (K : PySem.W.Frag) (H : Hp) (a : Addr) (ns : List Int), ns.length ≤ 63 → SqL K H a (ns.map V.int) → sp K [.ref a] H (fun v _ => v = .bl true) fun _ _ _ => False) :
    PySem.W.WalkO q loose XP YP l.row.toRowW d [] (fun f vs => PySem.call f vs) :=
  L2.walk_of (n := 63) (k := k) (x := "_law_script") (CX := fun _ => CX0) (sp := fun w => sp (K w.params)) hn (by decide) hdf hr hY F (fun w _ a ns hl _ hS => hsp (K w.params) _ a ns hl hS) fun _ _ _ _ _ z => z
end
end NX


namespace NX
open PySem PySem.Spec PyProof.Rows L2
theorem all_mk {l : PySem.W.OpenLaw} {w : World} {K : PySem.W.Frag} {h : Heap} {mg : Str → Option Value} {fa f_is_int f_is_link f_chain f_greatest_channels f_is_forest f_ring_of f_check_forest f_branches f_greatest_at f_greatest_by_order f_grown f_tree f_fibonacci_tree f_doubling_tree f_greatest_with f__law_draw f__law_shuffled f__law_tree f__law_trees f__law_all_right f__law_without f__law_needed_right f__law_right f_law f_fewest_stations D_fewest_stations C f_M_init f_M_len f_M_links : Addr} (X : K.In h) (G : h.Ns mainGlobals mg) (hfa : mg "law" = some (.ref fa))
    {od_is_int an_is_int od_is_link an_is_link od_chain an_chain od_greatest_channels an_greatest_channels od_is_forest an_is_forest od_ring_of an_ring_of od_check_forest an_check_forest od_branches an_branches od_greatest_at an_greatest_at od_greatest_by_order an_greatest_by_order od_grown an_grown od_tree an_tree od_fibonacci_tree an_fibonacci_tree od_doubling_tree an_doubling_tree od_greatest_with an_greatest_with od__law_draw an__law_draw od__law_shuffled an__law_shuffled od__law_tree an__law_tree od__law_trees an__law_trees od__law_all_right an__law_all_right od__law_without an__law_without od__law_needed_right an__law_needed_right od__law_right an__law_right od_law an_law od_fewest_stations an_fewest_stations od_M_init an_M_init od_M_len an_M_len od_M_links an_M_links : Option Addr} {sl_is_int sl_is_link sl_chain sl_greatest_channels sl_is_forest sl_ring_of sl_check_forest sl_branches sl_greatest_at sl_greatest_by_order sl_grown sl_tree sl_fibonacci_tree sl_doubling_tree sl_greatest_with sl__law_draw sl__law_shuffled sl__law_tree sl__law_trees sl__law_all_right sl__law_without sl__law_needed_right sl__law_right sl_law sl_fewest_stations sl_M_init sl_M_len sl_M_links : Array (Option Value)} {oc_is_int dc_is_int pm_is_int cd_is_int ct_is_int kV_is_int oc_is_link dc_is_link pm_is_link cd_is_link ct_is_link kV_is_link oc_chain dc_chain pm_chain cd_chain ct_chain kV_chain oc_greatest_channels dc_greatest_channels pm_greatest_channels cd_greatest_channels ct_greatest_channels kV_greatest_channels oc_is_forest dc_is_forest pm_is_forest cd_is_forest ct_is_forest kV_is_forest oc_ring_of dc_ring_of pm_ring_of cd_ring_of ct_ring_of kV_ring_of oc_check_forest dc_check_forest pm_check_forest cd_check_forest ct_check_forest kV_check_forest oc_branches dc_branches pm_branches cd_branches ct_branches kV_branches oc_greatest_at dc_greatest_at pm_greatest_at cd_greatest_at ct_greatest_at kV_greatest_at oc_greatest_by_order dc_greatest_by_order pm_greatest_by_order cd_greatest_by_order ct_greatest_by_order kV_greatest_by_order oc_grown dc_grown pm_grown cd_grown ct_grown kV_grown oc_tree dc_tree pm_tree cd_tree ct_tree kV_tree oc_fibonacci_tree dc_fibonacci_tree pm_fibonacci_tree cd_fibonacci_tree ct_fibonacci_tree kV_fibonacci_tree oc_doubling_tree dc_doubling_tree pm_doubling_tree cd_doubling_tree ct_doubling_tree kV_doubling_tree oc_greatest_with dc_greatest_with pm_greatest_with cd_greatest_with ct_greatest_with kV_greatest_with oc__law_draw dc__law_draw pm__law_draw cd__law_draw ct__law_draw kV__law_draw oc__law_shuffled dc__law_shuffled pm__law_shuffled cd__law_shuffled ct__law_shuffled kV__law_shuffled oc__law_tree dc__law_tree pm__law_tree cd__law_tree ct__law_tree kV__law_tree oc__law_trees dc__law_trees pm__law_trees cd__law_trees ct__law_trees kV__law_trees oc__law_all_right dc__law_all_right pm__law_all_right cd__law_all_right ct__law_all_right kV__law_all_right oc__law_without dc__law_without pm__law_without cd__law_without ct__law_without kV__law_without oc__law_needed_right dc__law_needed_right pm__law_needed_right cd__law_needed_right ct__law_needed_right kV__law_needed_right oc__law_right dc__law_right pm__law_right cd__law_right ct__law_right kV__law_right oc_law dc_law pm_law cd_law ct_law kV_law oc_fewest_stations dc_fewest_stations pm_fewest_stations cd_fewest_stations ct_fewest_stations oc_M_init dc_M_init pm_M_init cd_M_init ct_M_init kV_M_init oc_M_len dc_M_len pm_M_len cd_M_len ct_M_len kV_M_len oc_M_links dc_M_links pm_M_links cd_M_links ct_M_links kV_M_links : Value} {t_MAX_CHANNEL t_MAX_STATIONS : Tok}
    (z_all : PySem.W.nsIn K mainGlobals "all" = some none)
    (z_bool : PySem.W.nsIn K mainGlobals "bool" = some none)
    (z_enumerate : PySem.W.nsIn K mainGlobals "enumerate" = some none)
    (z_int : PySem.W.nsIn K mainGlobals "int" = some none)
    (z_isinstance : PySem.W.nsIn K mainGlobals "isinstance" = some none)
    (z_len : PySem.W.nsIn K mainGlobals "len" = some none)
    (z_list : PySem.W.nsIn K mainGlobals "list" = some none)
    (z_max : PySem.W.nsIn K mainGlobals "max" = some none)
    (z_min : PySem.W.nsIn K mainGlobals "min" = some none)
    (z_range : PySem.W.nsIn K mainGlobals "range" = some none)
    (z_sorted : PySem.W.nsIn K mainGlobals "sorted" = some none)
    (z_tuple : PySem.W.nsIn K mainGlobals "tuple" = some none)
    (v_MAX_CHANNEL : PySem.W.nsIn K mainGlobals "MAX_CHANNEL" = some (some (.int 60 t_MAX_CHANNEL)))
    (v_MAX_STATIONS : PySem.W.nsIn K mainGlobals "MAX_STATIONS" = some (some (.int 60 t_MAX_STATIONS)))
    (a_is_int : PySem.W.nsIn K mainGlobals "is_int" = some (some (.ref f_is_int)))
    (l_is_int : K.lookup f_is_int = some ⟨oc_is_int, od_is_int, .func (PySem.W.fnOf "is_int" "is_int" (defArgs s_is_int) (defBody s_is_int) (defScope s_is_int) .none kV_is_int dc_is_int pm_is_int an_is_int cd_is_int ct_is_int), sl_is_int⟩)
    (c_is_int : PySem.W.codeIn K cd_is_int "is_int" = true)
    (k_is_int : PySem.W.keepIn K (.ref f_is_int) = true)
    (a_is_link : PySem.W.nsIn K mainGlobals "is_link" = some (some (.ref f_is_link)))
    (l_is_link : K.lookup f_is_link = some ⟨oc_is_link, od_is_link, .func (PySem.W.fnOf "is_link" "is_link" (defArgs s_is_link) (defBody s_is_link) (defScope s_is_link) .none kV_is_link dc_is_link pm_is_link an_is_link cd_is_link ct_is_link), sl_is_link⟩)
    (c_is_link : PySem.W.codeIn K cd_is_link "is_link" = true)
    (k_is_link : PySem.W.keepIn K (.ref f_is_link) = true)
    (a_chain : PySem.W.nsIn K mainGlobals "chain" = some (some (.ref f_chain)))
    (l_chain : K.lookup f_chain = some ⟨oc_chain, od_chain, .func (PySem.W.fnOf "chain" "chain" (defArgs s_chain) (defBody s_chain) (defScope s_chain) .none kV_chain dc_chain pm_chain an_chain cd_chain ct_chain), sl_chain⟩)
    (c_chain : PySem.W.codeIn K cd_chain "chain" = true)
    (k_chain : PySem.W.keepIn K (.ref f_chain) = true)
    (a_greatest_channels : PySem.W.nsIn K mainGlobals "greatest_channels" = some (some (.ref f_greatest_channels)))
    (l_greatest_channels : K.lookup f_greatest_channels = some ⟨oc_greatest_channels, od_greatest_channels, .func (PySem.W.fnOf "greatest_channels" "greatest_channels" (defArgs s_greatest_channels) (defBody s_greatest_channels) (defScope s_greatest_channels) .none kV_greatest_channels dc_greatest_channels pm_greatest_channels an_greatest_channels cd_greatest_channels ct_greatest_channels), sl_greatest_channels⟩)
    (c_greatest_channels : PySem.W.codeIn K cd_greatest_channels "greatest_channels" = true)
    (k_greatest_channels : PySem.W.keepIn K (.ref f_greatest_channels) = true)
    (a_is_forest : PySem.W.nsIn K mainGlobals "is_forest" = some (some (.ref f_is_forest)))
    (l_is_forest : K.lookup f_is_forest = some ⟨oc_is_forest, od_is_forest, .func (PySem.W.fnOf "is_forest" "is_forest" (defArgs s_is_forest) (defBody s_is_forest) (defScope s_is_forest) .none kV_is_forest dc_is_forest pm_is_forest an_is_forest cd_is_forest ct_is_forest), sl_is_forest⟩)
    (c_is_forest : PySem.W.codeIn K cd_is_forest "is_forest" = true)
    (k_is_forest : PySem.W.keepIn K (.ref f_is_forest) = true)
    (a_ring_of : PySem.W.nsIn K mainGlobals "ring_of" = some (some (.ref f_ring_of)))
    (l_ring_of : K.lookup f_ring_of = some ⟨oc_ring_of, od_ring_of, .func (PySem.W.fnOf "ring_of" "ring_of" (defArgs s_ring_of) (defBody s_ring_of) (defScope s_ring_of) .none kV_ring_of dc_ring_of pm_ring_of an_ring_of cd_ring_of ct_ring_of), sl_ring_of⟩)
    (c_ring_of : PySem.W.codeIn K cd_ring_of "ring_of" = true)
    (k_ring_of : PySem.W.keepIn K (.ref f_ring_of) = true)
    (a_check_forest : PySem.W.nsIn K mainGlobals "check_forest" = some (some (.ref f_check_forest)))
    (l_check_forest : K.lookup f_check_forest = some ⟨oc_check_forest, od_check_forest, .func (PySem.W.fnOf "check_forest" "check_forest" (defArgs s_check_forest) (defBody s_check_forest) (defScope s_check_forest) .none kV_check_forest dc_check_forest pm_check_forest an_check_forest cd_check_forest ct_check_forest), sl_check_forest⟩)
    (c_check_forest : PySem.W.codeIn K cd_check_forest "check_forest" = true)
    (k_check_forest : PySem.W.keepIn K (.ref f_check_forest) = true)
    (a_branches : PySem.W.nsIn K mainGlobals "branches" = some (some (.ref f_branches)))
    (l_branches : K.lookup f_branches = some ⟨oc_branches, od_branches, .func (PySem.W.fnOf "branches" "branches" (defArgs s_branches) (defBody s_branches) (defScope s_branches) .none kV_branches dc_branches pm_branches an_branches cd_branches ct_branches), sl_branches⟩)
    (c_branches : PySem.W.codeIn K cd_branches "branches" = true)
    (k_branches : PySem.W.keepIn K (.ref f_branches) = true)
    (a_greatest_at : PySem.W.nsIn K mainGlobals "greatest_at" = some (some (.ref f_greatest_at)))
    (l_greatest_at : K.lookup f_greatest_at = some ⟨oc_greatest_at, od_greatest_at, .func (PySem.W.fnOf "greatest_at" "greatest_at" (defArgs s_greatest_at) (defBody s_greatest_at) (defScope s_greatest_at) .none kV_greatest_at dc_greatest_at pm_greatest_at an_greatest_at cd_greatest_at ct_greatest_at), sl_greatest_at⟩)
    (c_greatest_at : PySem.W.codeIn K cd_greatest_at "greatest_at" = true)
    (k_greatest_at : PySem.W.keepIn K (.ref f_greatest_at) = true)
    (a_greatest_by_order : PySem.W.nsIn K mainGlobals "greatest_by_order" = some (some (.ref f_greatest_by_order)))
    (l_greatest_by_order : K.lookup f_greatest_by_order = some ⟨oc_greatest_by_order, od_greatest_by_order, .func (PySem.W.fnOf "greatest_by_order" "greatest_by_order" (defArgs s_greatest_by_order) (defBody s_greatest_by_order) (defScope s_greatest_by_order) .none kV_greatest_by_order dc_greatest_by_order pm_greatest_by_order an_greatest_by_order cd_greatest_by_order ct_greatest_by_order), sl_greatest_by_order⟩)
    (c_greatest_by_order : PySem.W.codeIn K cd_greatest_by_order "greatest_by_order" = true)
    (k_greatest_by_order : PySem.W.keepIn K (.ref f_greatest_by_order) = true)
    (a_grown : PySem.W.nsIn K mainGlobals "grown" = some (some (.ref f_grown)))
    (l_grown : K.lookup f_grown = some ⟨oc_grown, od_grown, .func (PySem.W.fnOf "grown" "grown" (defArgs s_grown) (defBody s_grown) (defScope s_grown) .none kV_grown dc_grown pm_grown an_grown cd_grown ct_grown), sl_grown⟩)
    (c_grown : PySem.W.codeIn K cd_grown "grown" = true)
    (k_grown : PySem.W.keepIn K (.ref f_grown) = true)
    (a_tree : PySem.W.nsIn K mainGlobals "tree" = some (some (.ref f_tree)))
    (l_tree : K.lookup f_tree = some ⟨oc_tree, od_tree, .func (PySem.W.fnOf "tree" "tree" (defArgs s_tree) (defBody s_tree) (defScope s_tree) .none kV_tree dc_tree pm_tree an_tree cd_tree ct_tree), sl_tree⟩)
    (c_tree : PySem.W.codeIn K cd_tree "tree" = true)
    (k_tree : PySem.W.keepIn K (.ref f_tree) = true)
    (a_fibonacci_tree : PySem.W.nsIn K mainGlobals "fibonacci_tree" = some (some (.ref f_fibonacci_tree)))
    (l_fibonacci_tree : K.lookup f_fibonacci_tree = some ⟨oc_fibonacci_tree, od_fibonacci_tree, .func (PySem.W.fnOf "fibonacci_tree" "fibonacci_tree" (defArgs s_fibonacci_tree) (defBody s_fibonacci_tree) (defScope s_fibonacci_tree) .none kV_fibonacci_tree dc_fibonacci_tree pm_fibonacci_tree an_fibonacci_tree cd_fibonacci_tree ct_fibonacci_tree), sl_fibonacci_tree⟩)
    (c_fibonacci_tree : PySem.W.codeIn K cd_fibonacci_tree "fibonacci_tree" = true)
    (k_fibonacci_tree : PySem.W.keepIn K (.ref f_fibonacci_tree) = true)
    (a_doubling_tree : PySem.W.nsIn K mainGlobals "doubling_tree" = some (some (.ref f_doubling_tree)))
    (l_doubling_tree : K.lookup f_doubling_tree = some ⟨oc_doubling_tree, od_doubling_tree, .func (PySem.W.fnOf "doubling_tree" "doubling_tree" (defArgs s_doubling_tree) (defBody s_doubling_tree) (defScope s_doubling_tree) .none kV_doubling_tree dc_doubling_tree pm_doubling_tree an_doubling_tree cd_doubling_tree ct_doubling_tree), sl_doubling_tree⟩)
    (c_doubling_tree : PySem.W.codeIn K cd_doubling_tree "doubling_tree" = true)
    (k_doubling_tree : PySem.W.keepIn K (.ref f_doubling_tree) = true)
    (a_greatest_with : PySem.W.nsIn K mainGlobals "greatest_with" = some (some (.ref f_greatest_with)))
    (l_greatest_with : K.lookup f_greatest_with = some ⟨oc_greatest_with, od_greatest_with, .func (PySem.W.fnOf "greatest_with" "greatest_with" (defArgs s_greatest_with) (defBody s_greatest_with) (defScope s_greatest_with) .none kV_greatest_with dc_greatest_with pm_greatest_with an_greatest_with cd_greatest_with ct_greatest_with), sl_greatest_with⟩)
    (c_greatest_with : PySem.W.codeIn K cd_greatest_with "greatest_with" = true)
    (k_greatest_with : PySem.W.keepIn K (.ref f_greatest_with) = true)
    (a__law_draw : PySem.W.nsIn K mainGlobals "_law_draw" = some (some (.ref f__law_draw)))
    (l__law_draw : K.lookup f__law_draw = some ⟨oc__law_draw, od__law_draw, .func (PySem.W.fnOf "_law_draw" "_law_draw" (defArgs s__law_draw) (defBody s__law_draw) (defScope s__law_draw) .none kV__law_draw dc__law_draw pm__law_draw an__law_draw cd__law_draw ct__law_draw), sl__law_draw⟩)
    (c__law_draw : PySem.W.codeIn K cd__law_draw "_law_draw" = true)
    (k__law_draw : PySem.W.keepIn K (.ref f__law_draw) = true)
    (a__law_shuffled : PySem.W.nsIn K mainGlobals "_law_shuffled" = some (some (.ref f__law_shuffled)))
    (l__law_shuffled : K.lookup f__law_shuffled = some ⟨oc__law_shuffled, od__law_shuffled, .func (PySem.W.fnOf "_law_shuffled" "_law_shuffled" (defArgs s__law_shuffled) (defBody s__law_shuffled) (defScope s__law_shuffled) .none kV__law_shuffled dc__law_shuffled pm__law_shuffled an__law_shuffled cd__law_shuffled ct__law_shuffled), sl__law_shuffled⟩)
    (c__law_shuffled : PySem.W.codeIn K cd__law_shuffled "_law_shuffled" = true)
    (k__law_shuffled : PySem.W.keepIn K (.ref f__law_shuffled) = true)
    (a__law_tree : PySem.W.nsIn K mainGlobals "_law_tree" = some (some (.ref f__law_tree)))
    (l__law_tree : K.lookup f__law_tree = some ⟨oc__law_tree, od__law_tree, .func (PySem.W.fnOf "_law_tree" "_law_tree" (defArgs s__law_tree) (defBody s__law_tree) (defScope s__law_tree) .none kV__law_tree dc__law_tree pm__law_tree an__law_tree cd__law_tree ct__law_tree), sl__law_tree⟩)
    (c__law_tree : PySem.W.codeIn K cd__law_tree "_law_tree" = true)
    (k__law_tree : PySem.W.keepIn K (.ref f__law_tree) = true)
    (a__law_trees : PySem.W.nsIn K mainGlobals "_law_trees" = some (some (.ref f__law_trees)))
    (l__law_trees : K.lookup f__law_trees = some ⟨oc__law_trees, od__law_trees, .func (PySem.W.fnOf "_law_trees" "_law_trees" (defArgs s__law_trees) (defBody s__law_trees) (defScope s__law_trees) .none kV__law_trees dc__law_trees pm__law_trees an__law_trees cd__law_trees ct__law_trees), sl__law_trees⟩)
    (c__law_trees : PySem.W.codeIn K cd__law_trees "_law_trees" = true)
    (k__law_trees : PySem.W.keepIn K (.ref f__law_trees) = true)
    (a__law_all_right : PySem.W.nsIn K mainGlobals "_law_all_right" = some (some (.ref f__law_all_right)))
    (l__law_all_right : K.lookup f__law_all_right = some ⟨oc__law_all_right, od__law_all_right, .func (PySem.W.fnOf "_law_all_right" "_law_all_right" (defArgs s__law_all_right) (defBody s__law_all_right) (defScope s__law_all_right) .none kV__law_all_right dc__law_all_right pm__law_all_right an__law_all_right cd__law_all_right ct__law_all_right), sl__law_all_right⟩)
    (c__law_all_right : PySem.W.codeIn K cd__law_all_right "_law_all_right" = true)
    (k__law_all_right : PySem.W.keepIn K (.ref f__law_all_right) = true)
    (a__law_without : PySem.W.nsIn K mainGlobals "_law_without" = some (some (.ref f__law_without)))
    (l__law_without : K.lookup f__law_without = some ⟨oc__law_without, od__law_without, .func (PySem.W.fnOf "_law_without" "_law_without" (defArgs s__law_without) (defBody s__law_without) (defScope s__law_without) .none kV__law_without dc__law_without pm__law_without an__law_without cd__law_without ct__law_without), sl__law_without⟩)
    (c__law_without : PySem.W.codeIn K cd__law_without "_law_without" = true)
    (k__law_without : PySem.W.keepIn K (.ref f__law_without) = true)
    (a__law_needed_right : PySem.W.nsIn K mainGlobals "_law_needed_right" = some (some (.ref f__law_needed_right)))
    (l__law_needed_right : K.lookup f__law_needed_right = some ⟨oc__law_needed_right, od__law_needed_right, .func (PySem.W.fnOf "_law_needed_right" "_law_needed_right" (defArgs s__law_needed_right) (defBody s__law_needed_right) (defScope s__law_needed_right) .none kV__law_needed_right dc__law_needed_right pm__law_needed_right an__law_needed_right cd__law_needed_right ct__law_needed_right), sl__law_needed_right⟩)
    (c__law_needed_right : PySem.W.codeIn K cd__law_needed_right "_law_needed_right" = true)
    (k__law_needed_right : PySem.W.keepIn K (.ref f__law_needed_right) = true)
    (a__law_right : PySem.W.nsIn K mainGlobals "_law_right" = some (some (.ref f__law_right)))
    (l__law_right : K.lookup f__law_right = some ⟨oc__law_right, od__law_right, .func (PySem.W.fnOf "_law_right" "_law_right" (defArgs s__law_right) (defBody s__law_right) (defScope s__law_right) .none kV__law_right dc__law_right pm__law_right an__law_right cd__law_right ct__law_right), sl__law_right⟩)
    (c__law_right : PySem.W.codeIn K cd__law_right "_law_right" = true)
    (k__law_right : PySem.W.keepIn K (.ref f__law_right) = true)
    (a_law : PySem.W.nsIn K mainGlobals "law" = some (some (.ref f_law)))
    (l_law : K.lookup f_law = some ⟨oc_law, od_law, .func (PySem.W.fnOf "law" "law" (defArgs s_law) (defBody s_law) (defScope s_law) .none kV_law dc_law pm_law an_law cd_law ct_law), sl_law⟩)
    (c_law : PySem.W.codeIn K cd_law "law" = true)
    (k_law : PySem.W.keepIn K (.ref f_law) = true)
    (a_fewest_stations : PySem.W.nsIn K mainGlobals "fewest_stations" = some (some (.ref f_fewest_stations)))
    (l_fewest_stations : K.lookup f_fewest_stations = some ⟨oc_fewest_stations, od_fewest_stations, .func (PySem.W.fnOf "fewest_stations" "fewest_stations" (defArgs s_fewest_stations) (defBody s_fewest_stations) (defScope s_fewest_stations) .none (.ref D_fewest_stations) dc_fewest_stations pm_fewest_stations an_fewest_stations cd_fewest_stations ct_fewest_stations), sl_fewest_stations⟩)
    (c_fewest_stations : PySem.W.codeIn K cd_fewest_stations "fewest_stations" = true)
    (k_fewest_stations : PySem.W.keepIn K (.ref f_fewest_stations) = true)
    (d_fewest_stations_off : PySem.W.nsIn K D_fewest_stations "off" = some (some (.bool true)))
    (aC : PySem.W.nsIn K mainGlobals "Network" = some (some (.ref C)))
    (a_M_init : PySem.W.findIn K (.ref C) "__init__" = some (some (.ref f_M_init)))
    (i_M_init : PySem.W.isFn K (.ref f_M_init) = true)
    (l_M_init : K.lookup f_M_init = some ⟨oc_M_init, od_M_init, .func (PySem.W.fnOf "__init__" "Network.__init__" (defArgs s_Network___init__) (defBody s_Network___init__) (defScope s_Network___init__) .none kV_M_init dc_M_init pm_M_init an_M_init cd_M_init ct_M_init), sl_M_init⟩)
    (c_M_init : PySem.W.codeIn K cd_M_init "Network.__init__" = true)
    (k_M_init : PySem.W.keepIn K (.ref f_M_init) = true)
    (a_M_len : PySem.W.findIn K (.ref C) "__len__" = some (some (.ref f_M_len)))
    (i_M_len : PySem.W.isFn K (.ref f_M_len) = true)
    (l_M_len : K.lookup f_M_len = some ⟨oc_M_len, od_M_len, .func (PySem.W.fnOf "__len__" "Network.__len__" (defArgs s_Network___len__) (defBody s_Network___len__) (defScope s_Network___len__) .none kV_M_len dc_M_len pm_M_len an_M_len cd_M_len ct_M_len), sl_M_len⟩)
    (c_M_len : PySem.W.codeIn K cd_M_len "Network.__len__" = true)
    (k_M_len : PySem.W.keepIn K (.ref f_M_len) = true)
    (a_M_links : PySem.W.findIn K (.ref C) "links" = some (some (.ref f_M_links)))
    (i_M_links : PySem.W.isFn K (.ref f_M_links) = true)
    (l_M_links : K.lookup f_M_links = some ⟨oc_M_links, od_M_links, .func (PySem.W.fnOf "links" "Network.links" (defArgs s_Network_links) (defBody s_Network_links) (defScope s_Network_links) .none kV_M_links dc_M_links pm_M_links an_M_links cd_M_links ct_M_links), sl_M_links⟩)
    (c_M_links : PySem.W.codeIn K cd_M_links "Network.links" = true)
    (k_M_links : PySem.W.keepIn K (.ref f_M_links) = true)
    (pg : PySem.W.plainGet K C Str.empty = true)
    (hd : PySem.W.hasDictIn K C = true)
    (po : PySem.W.plainOver K C = true)
    (sa : PySem.W.findIn K (.ref C) "__setattr__" = some (some (.builtin "object.__setattr__")))
    (mk : PySem.W.makesIn K C = true)
    (kc : PySem.W.keepIn K (.ref C) = true)
    (nK : PySem.W.findIn K (.ref C) "kept" = some none)
    (nN : PySem.W.findIn K (.ref C) "near" = some none)
    (ha : PySem.W.findIn K (.ref C) "__class__" = some (some (.builtin "object.__class__")))
    (hn : PySem.W.specialIn K (.builtin "object.__class__") "__get__" = some (some (.builtin "getset_descriptor.__get__")))
    (ht : PySem.W.takesIn K (.builtin "object.__class__") = some true)
    (hm : PySem.W.mroIn K C (.type "object") = some true)
    (ne : PySem.W.findIn K (.ref C) "__ne__" = some (some (.builtin "object.__ne__"))) :
    ∃ fd : FuncData, (∀ (s : Shared) (v : Value), BindsTo s fd ⟨[v], []⟩ [("_law_script", v)]) ∧ ∀ base : Heap, K.In base → base.Ns mainGlobals mg → FnOk l.prog w K mg base CX0 14 fa fd ["_law_script"] (spLaw K) := by
  have e := hfa.symm.trans (PySem.W.mg_of X G a_law)
  cases e
  have T : Txt mg := ⟨PySem.W.mg_none_of X G z_all, PySem.W.mg_none_of X G z_bool, PySem.W.mg_none_of X G z_enumerate, PySem.W.mg_none_of X G z_int, PySem.W.mg_none_of X G z_isinstance, PySem.W.mg_none_of X G z_len, PySem.W.mg_none_of X G z_list, PySem.W.mg_none_of X G z_max, PySem.W.mg_none_of X G z_min, PySem.W.mg_none_of X G z_range, PySem.W.mg_none_of X G z_sorted, PySem.W.mg_none_of X G z_tuple, ⟨_, PySem.W.mg_of X G v_MAX_CHANNEL⟩, ⟨_, PySem.W.mg_of X G v_MAX_STATIONS⟩⟩
  have F_is_int := fun_mk (st := s_is_int) l_is_int c_is_int k_is_int
  have g_is_int := PySem.W.mg_of X G a_is_int
  have b_is_int := F_is_int.binds (ps := ["value"]) fun _ _ _ _ _ _ us hl => match us, hl with | [_], _ => rfl
  have F_is_link := fun_mk (st := s_is_link) l_is_link c_is_link k_is_link
  have g_is_link := PySem.W.mg_of X G a_is_link
  have b_is_link := F_is_link.binds (ps := ["value", "stations"]) fun _ _ _ _ _ _ us hl => match us, hl with | [_, _], _ => rfl
  have F_chain := fun_mk (st := s_chain) l_chain c_chain k_chain
  have g_chain := PySem.W.mg_of X G a_chain
  have b_chain := F_chain.binds (ps := ["numbers"]) fun _ _ _ _ _ _ us hl => match us, hl with | [_], _ => rfl
  have F_greatest_channels := fun_mk (st := s_greatest_channels) l_greatest_channels c_greatest_channels k_greatest_channels
  have g_greatest_channels := PySem.W.mg_of X G a_greatest_channels
  have b_greatest_channels := F_greatest_channels.binds (ps := ["network"]) fun _ _ _ _ _ _ us hl => match us, hl with | [_], _ => rfl
  have F_is_forest := fun_mk (st := s_is_forest) l_is_forest c_is_forest k_is_forest
  have g_is_forest := PySem.W.mg_of X G a_is_forest
  have b_is_forest := F_is_forest.binds (ps := ["network"]) fun _ _ _ _ _ _ us hl => match us, hl with | [_], _ => rfl
  have F_ring_of := fun_mk (st := s_ring_of) l_ring_of c_ring_of k_ring_of
  have g_ring_of := PySem.W.mg_of X G a_ring_of
  have b_ring_of := F_ring_of.binds (ps := ["network"]) fun _ _ _ _ _ _ us hl => match us, hl with | [_], _ => rfl
  have F_check_forest := fun_mk (st := s_check_forest) l_check_forest c_check_forest k_check_forest
  have g_check_forest := PySem.W.mg_of X G a_check_forest
  have b_check_forest := F_check_forest.binds (ps := ["network"]) fun _ _ _ _ _ _ us hl => match us, hl with | [_], _ => rfl
  have F_branches := fun_mk (st := s_branches) l_branches c_branches k_branches
  have g_branches := PySem.W.mg_of X G a_branches
  have b_branches := F_branches.binds (ps := ["network"]) fun _ _ _ _ _ _ us hl => match us, hl with | [_], _ => rfl
  have F_greatest_at := fun_mk (st := s_greatest_at) l_greatest_at c_greatest_at k_greatest_at
  have g_greatest_at := PySem.W.mg_of X G a_greatest_at
  have b_greatest_at := F_greatest_at.binds (ps := ["network", "known", "top"]) fun _ _ _ _ _ _ us hl => match us, hl with | [_, _, _], _ => rfl
  have F_greatest_by_order := fun_mk (st := s_greatest_by_order) l_greatest_by_order c_greatest_by_order k_greatest_by_order
  have g_greatest_by_order := PySem.W.mg_of X G a_greatest_by_order
  have b_greatest_by_order := F_greatest_by_order.binds (ps := ["network"]) fun _ _ _ _ _ _ us hl => match us, hl with | [_], _ => rfl
  have F_grown := fun_mk (st := s_grown) l_grown c_grown k_grown
  have g_grown := PySem.W.mg_of X G a_grown
  have b_grown := F_grown.binds (ps := ["links", "top", "kinds", "off"]) fun _ _ _ _ _ _ us hl => match us, hl with | [_, _, _, _], _ => rfl
  have F_tree := fun_mk (st := s_tree) l_tree c_tree k_tree
  have g_tree := PySem.W.mg_of X G a_tree
  have b_tree := F_tree.binds (ps := ["channel", "off"]) fun _ _ _ _ _ _ us hl => match us, hl with | [_, _], _ => rfl
  have F_fibonacci_tree := fun_mk (st := s_fibonacci_tree) l_fibonacci_tree c_fibonacci_tree k_fibonacci_tree
  have g_fibonacci_tree := PySem.W.mg_of X G a_fibonacci_tree
  have b_fibonacci_tree := F_fibonacci_tree.binds (ps := ["channel"]) fun _ _ _ _ _ _ us hl => match us, hl with | [_], _ => rfl
  have F_doubling_tree := fun_mk (st := s_doubling_tree) l_doubling_tree c_doubling_tree k_doubling_tree
  have g_doubling_tree := PySem.W.mg_of X G a_doubling_tree
  have b_doubling_tree := F_doubling_tree.binds (ps := ["channel"]) fun _ _ _ _ _ _ us hl => match us, hl with | [_], _ => rfl
  have F_greatest_with := fun_mk (st := s_greatest_with) l_greatest_with c_greatest_with k_greatest_with
  have g_greatest_with := PySem.W.mg_of X G a_greatest_with
  have b_greatest_with := F_greatest_with.binds (ps := ["stations"]) fun _ _ _ _ _ _ us hl => match us, hl with | [_], _ => rfl
  have F__law_draw := fun_mk (st := s__law_draw) l__law_draw c__law_draw k__law_draw
  have g__law_draw := PySem.W.mg_of X G a__law_draw
  have b__law_draw := F__law_draw.binds (ps := ["_law_well", "_law_limit"]) fun _ _ _ _ _ _ us hl => match us, hl with | [_, _], _ => rfl
  have F__law_shuffled := fun_mk (st := s__law_shuffled) l__law_shuffled c__law_shuffled k__law_shuffled
  have g__law_shuffled := PySem.W.mg_of X G a__law_shuffled
  have b__law_shuffled := F__law_shuffled.binds (ps := ["_law_well", "_law_items"]) fun _ _ _ _ _ _ us hl => match us, hl with | [_, _], _ => rfl
  have F__law_tree := fun_mk (st := s__law_tree) l__law_tree c__law_tree k__law_tree
  have g__law_tree := PySem.W.mg_of X G a__law_tree
  have b__law_tree := F__law_tree.binds (ps := ["_law_well", "_law_size"]) fun _ _ _ _ _ _ us hl => match us, hl with | [_, _], _ => rfl
  have F__law_trees := fun_mk (st := s__law_trees) l__law_trees c__law_trees k__law_trees
  have g__law_trees := PySem.W.mg_of X G a__law_trees
  have b__law_trees := F__law_trees.binds (ps := ["_law_well", "_law_size"]) fun _ _ _ _ _ _ us hl => match us, hl with | [_, _], _ => rfl
  have F__law_all_right := fun_mk (st := s__law_all_right) l__law_all_right c__law_all_right k__law_all_right
  have g__law_all_right := PySem.W.mg_of X G a__law_all_right
  have b__law_all_right := F__law_all_right.binds (ps := ["_law_well", "_law_size"]) fun _ _ _ _ _ _ us hl => match us, hl with | [_, _], _ => rfl
  have F__law_without := fun_mk (st := s__law_without) l__law_without c__law_without k__law_without
  have g__law_without := PySem.W.mg_of X G a__law_without
  have b__law_without := F__law_without.binds (ps := ["_law_net", "_law_gone"]) fun _ _ _ _ _ _ us hl => match us, hl with | [_, _], _ => rfl
  have F__law_needed_right := fun_mk (st := s__law_needed_right) l__law_needed_right c__law_needed_right k__law_needed_right
  have g__law_needed_right := PySem.W.mg_of X G a__law_needed_right
  have b__law_needed_right := F__law_needed_right.binds (ps := ["_law_well", "_law_channel", "_law_is_off"]) fun _ _ _ _ _ _ us hl => match us, hl with | [_, _, _], _ => rfl
  have F__law_right := fun_mk (st := s__law_right) l__law_right c__law_right k__law_right
  have g__law_right := PySem.W.mg_of X G a__law_right
  have b__law_right := F__law_right.binds (ps := ["_law_well", "_law_k"]) fun _ _ _ _ _ _ us hl => match us, hl with | [_, _], _ => rfl
  have F_law := fun_mk (st := s_law) l_law c_law k_law
  have g_law := PySem.W.mg_of X G a_law
  have g_fewest_stations := PySem.W.mg_of X G a_fewest_stations
  have F_fewest_stations : FunD K "fewest_stations" "fewest_stations" (defArgs s_fewest_stations) (defBody s_fewest_stations) (defScope s_fewest_stations) [] [(("off" : Str), V.bl true)] f_fewest_stations _ := ⟨⟨_, _, _, _, _, _, _, _, _, _, rfl, l_fewest_stations, c_fewest_stations, .inl ⟨rfl, rfl⟩, .inr ⟨D_fewest_stations, rfl, fun q hq => by
    obtain rfl : q = (("off" : Str), V.bl true) := by simpa using hq
    exact ⟨_, d_fewest_stations_off, rfl⟩⟩⟩, k_fewest_stations⟩
  have hC := PySem.W.mg_of X G aC
  have NC : NetC K C := ⟨⟨pg, hd, po, sa⟩, nK, nN, ha, hn, ht, hm, if_pos (beq_self_eq_true _), ne⟩
  have F_M_init := fun_mk (st := s_Network___init__) l_M_init c_M_init k_M_init
  have b_M_init := F_M_init.binds (ps := ["self", "stations", "links"]) fun _ _ _ _ _ _ us hl => match us, hl with | [_, _, _], _ => rfl
  have F_M_len := fun_mk (st := s_Network___len__) l_M_len c_M_len k_M_len
  have b_M_len := F_M_len.binds (ps := ["self"]) fun _ _ _ _ _ _ us hl => match us, hl with | [_], _ => rfl
  have F_M_links := fun_mk (st := s_Network_links) l_M_links c_M_links k_M_links
  have b_M_links := F_M_links.binds (ps := ["self"]) fun _ _ _ _ _ _ us hl => match us, hl with | [_], _ => rfl
  refine ⟨PySem.W.fnOf "law" "law" (defArgs s_law) (defBody s_law) (defScope s_law) .none kV_law dc_law pm_law an_law cd_law ct_law, fun s v => .of_eq rfl, fun base _ _ => ?_⟩
  have O_is_int : FnOk l.prog w K mg base (L2.CX l.prog w) 1 _ _ _ _ := fn_up (ok_is_int F_is_int T)
  have c_is_int := mkCal O_is_int g_is_int F_is_int.kp b_is_int
  have O_is_link : FnOk l.prog w K mg base (L2.CX l.prog w) 2 _ _ _ _ := fn_up (ok_is_link F_is_link T c_is_int)
  have c_is_link := mkCal O_is_link g_is_link F_is_link.kp b_is_link
  have O_few : FnOk l.prog w K mg base (L2.CX l.prog w) 2 _ _ _ _ := ok_fewest F_fewest_stations T c_is_int
  have k_few : CalK l.prog w K mg base 2 "fewest_stations" ["channel", "off"] 1 ["off"] (fun vs zs => vs ++ zs) spFewest := by
    obtain ⟨mv, q⟩ := F_fewest_stations.kbinds0 (ps := ["channel", "off"]) 1 ["off"] [] (fun us mv ws => us ++ ws) (by simp) (by simp) (fun r1 _ r2 => r1.append r2) (fun D doc pm an cdv ct us mv ws h1 h2 h3 => by
      match us, h1, mv, h2, ws, h3 with
      | [_], _, [], _, [_], _ => rfl)
    exact mkCalK O_few g_fewest_stations F_fewest_stations.kp q
  have O_gw : FnOk l.prog w K mg base (L2.CX l.prog w) 3 _ _ _ _ := fn_up (ok_gwith F_greatest_with T c_is_int k_few)
  have c_gw := mkCal O_gw g_greatest_with F_greatest_with.kp b_greatest_with
  have c_grown : ∀ d, d ≤ 8 → Cal l.prog w K mg base 9 "grown" ["links", "top", "kinds", "off"] [] (spGrown K d) := fun d hd => mkCal ((ok_grown F_grown T g_grown b_grown d).mono (by omega)) g_grown F_grown.kp b_grown
  have O_init : FnOk l.prog w K mg base (L2.CX l.prog w) 3 _ _ _ _ := fn_up (ok_init F_M_init T NC c_is_int c_is_link)
  have c_Network : Cnw l.prog w K mg base 3 "Network" C ["self", "stations", "links"] (spInit C) := ⟨_, _, ⟨mk, a_M_init, i_M_init, kc⟩, O_init, hC, b_M_init⟩
  have M_len : Mth l.prog w K mg base 1 C "__len__" ["self"] (spLen C) := ⟨_, _, ⟨a_M_len, i_M_len, F_M_len.kp⟩, fn_up (ok_len F_M_len T NC), b_M_len⟩
  have M_links : Mth l.prog w K mg base 1 C "links" ["self"] (spLinks C) := ⟨_, _, ⟨a_M_links, i_M_links, F_M_links.kp⟩, fn_up (ok_links F_M_links T NC), b_M_links⟩
  have O_tree : FnOk l.prog w K mg base (L2.CX l.prog w) 10 _ _ _ _ := fn_up (ok_tree F_tree T c_is_int k_few c_grown c_Network)
  have c_tree := mkCal O_tree g_tree F_tree.kp b_tree
  have O_fib : FnOk l.prog w K mg base (L2.CX l.prog w) 11 _ _ _ _ := fn_up (ok_fib F_fibonacci_tree c_tree)
  have c_fib := mkCal O_fib g_fibonacci_tree F_fibonacci_tree.kp b_fibonacci_tree
  have O_dbl : FnOk l.prog w K mg base (L2.CX l.prog w) 11 _ _ _ _ := fn_up (ok_dbl F_doubling_tree c_tree)
  have c_dbl := mkCal O_dbl g_doubling_tree F_doubling_tree.kp b_doubling_tree
  have O_chain : FnOk l.prog w K mg base (L2.CX l.prog w) 1 _ _ _ _ := fn_up (ok_chain F_chain T)
  have c_chain := mkCal O_chain g_chain F_chain.kp b_chain
  have O_gc : FnOk l.prog w K mg base (L2.CX l.prog w) 3 _ _ _ _ := fn_up (ok_gc F_greatest_channels T NC c_chain M_len)
  have c_gc := mkCal O_gc g_greatest_channels F_greatest_channels.kp b_greatest_channels
  have O_forest : FnOk l.prog w K mg base (L2.CX l.prog w) 3 _ _ _ _ := fn_up (ok_forest F_is_forest T NC M_len)
  have c_forest := mkCal O_forest g_is_forest F_is_forest.kp b_is_forest
  have O_ring : FnOk l.prog w K mg base (L2.CX l.prog w) 4 _ _ _ _ := fn_up (ok_ring F_ring_of T NC c_forest)
  have c_ring := mkCal O_ring g_ring_of F_ring_of.kp b_ring_of
  have O_chkF : FnOk l.prog w K mg base (L2.CX l.prog w) 5 _ _ _ _ := fn_up (ok_chkForest F_check_forest T NC c_ring)
  have c_chkF := mkCal O_chkF g_check_forest F_check_forest.kp b_check_forest
  have O_br : FnOk l.prog w K mg base (L2.CX l.prog w) 3 _ _ _ _ := fn_up (ok_branches F_branches T NC c_chain M_len)
  have c_br := mkCal O_br g_branches F_branches.kp b_branches
  have O_gat : FnOk l.prog w K mg base (L2.CX l.prog w) 2 _ _ _ _ := fn_up (ok_gat F_greatest_at T NC c_chain)
  have c_gat := mkCal O_gat g_greatest_at F_greatest_at.kp b_greatest_at
  have O_gbo : FnOk l.prog w K mg base (L2.CX l.prog w) 6 _ _ _ _ := fn_up (ok_gbo F_greatest_by_order T NC M_len c_chkF c_br c_gat)
  have c_gbo := mkCal O_gbo g_greatest_by_order F_greatest_by_order.kp b_greatest_by_order
  have O_draw : FnOk l.prog w K mg base (L2.CX l.prog w) 1 _ _ _ _ := fn_up (ok_draw F__law_draw)
  have c_draw := mkCal O_draw g__law_draw F__law_draw.kp b__law_draw
  have O_shuf : FnOk l.prog w K mg base (L2.CX l.prog w) 2 _ _ _ _ := fn_up (ok_shuffled F__law_shuffled T c_draw)
  have c_shuf := mkCal O_shuf g__law_shuffled F__law_shuffled.kp b__law_shuffled
  have O_treeL : FnOk l.prog w K mg base (L2.CX l.prog w) 3 _ _ _ _ := fn_up (ok_treeL F__law_tree T c_draw c_shuf)
  have c_treeL := mkCal O_treeL g__law_tree F__law_tree.kp b__law_tree
  have O_trees : FnOk l.prog w K mg base (L2.CX l.prog w) 2 _ _ _ _ := fn_up (ok_trees F__law_trees T c_draw)
  have c_trees := mkCal O_trees g__law_trees F__law_trees.kp b__law_trees
  have O_allR : FnOk l.prog w K mg base (L2.CX l.prog w) 7 _ _ _ _ := fn_up (ok_allR F__law_all_right T NC c_trees c_Network c_gc c_gbo c_gw)
  have c_allR := mkCal O_allR g__law_all_right F__law_all_right.kp b__law_all_right
  have O_lwo : FnOk l.prog w K mg base (L2.CX l.prog w) 5 _ _ _ _ := fn_up (ok_lwo F__law_without T NC M_len M_links c_Network)
  have c_lwo := mkCal O_lwo g__law_without F__law_without.kp b__law_without
  have O_need : FnOk l.prog w K mg base (L2.CX l.prog w) 12 _ _ _ _ := fn_up (ok_need F__law_needed_right T NC M_len c_draw c_fib c_dbl k_few c_lwo c_gc c_gbo)
  have c_need := mkCal O_need g__law_needed_right F__law_needed_right.kp b__law_needed_right
  have O_right : FnOk l.prog w K mg base (L2.CX l.prog w) 13 _ _ _ _ := fn_up (ok_right F__law_right T NC c_draw c_treeL c_allR c_Network c_gc c_gbo c_gw c_need)
  have c_right := mkCal O_right g__law_right F__law_right.kp b__law_right
  exact ok_law F_law T c_right
end NX
open PySem PySem.W PyProof.Rows in
set_option maxRecDepth 100000 in
set_option maxHeartbeats 0 in
theorem PySem.Challenge.cw_nextchannel_k32_whole_no_smaller_network_holds : PySem.Challenge.rw_nextchannel_k32_whole_no_smaller_network.Holds := by
  w_on; o_law; k_head; (case hw => w_witness2)
  k_fill
  refine NX.walk (l := PySem.Challenge.rw_nextchannel_k32_whole_no_smaller_network) (k := 14) (sp := NX.spLaw) rfl rfl ⟨rfl, by decide, by decide⟩ (fun w h Y => PySem.W.kIn_of Y) ?F (fun K H a ns hl hS => ⟨a, ns, rfl, hS, hl, fun _ => rfl⟩)
  case F =>
    intro w mg fa h KX G hmg
    refine' NX.all_mk KX G hmg ?h_z_all ?h_z_bool ?h_z_enumerate ?h_z_int ?h_z_isinstance ?h_z_len ?h_z_list ?h_z_max ?h_z_min ?h_z_range ?h_z_sorted ?h_z_tuple ?h_v_MAX_CHANNEL ?h_v_MAX_STATIONS ?h_a_is_int ?h_l_is_int ?h_c_is_int ?h_k_is_int ?h_a_is_link ?h_l_is_link ?h_c_is_link ?h_k_is_link ?h_a_chain ?h_l_chain ?h_c_chain ?h_k_chain ?h_a_greatest_channels ?h_l_greatest_channels ?h_c_greatest_channels ?h_k_greatest_channels ?h_a_is_forest ?h_l_is_forest ?h_c_is_forest ?h_k_is_forest ?h_a_ring_of ?h_l_ring_of ?h_c_ring_of ?h_k_ring_of ?h_a_check_forest ?h_l_check_forest ?h_c_check_forest ?h_k_check_forest ?h_a_branches ?h_l_branches ?h_c_branches ?h_k_branches ?h_a_greatest_at ?h_l_greatest_at ?h_c_greatest_at ?h_k_greatest_at ?h_a_greatest_by_order ?h_l_greatest_by_order ?h_c_greatest_by_order ?h_k_greatest_by_order ?h_a_grown ?h_l_grown ?h_c_grown ?h_k_grown ?h_a_tree ?h_l_tree ?h_c_tree ?h_k_tree ?h_a_fibonacci_tree ?h_l_fibonacci_tree ?h_c_fibonacci_tree ?h_k_fibonacci_tree ?h_a_doubling_tree ?h_l_doubling_tree ?h_c_doubling_tree ?h_k_doubling_tree ?h_a_greatest_with ?h_l_greatest_with ?h_c_greatest_with ?h_k_greatest_with ?h_a__law_draw ?h_l__law_draw ?h_c__law_draw ?h_k__law_draw ?h_a__law_shuffled ?h_l__law_shuffled ?h_c__law_shuffled ?h_k__law_shuffled ?h_a__law_tree ?h_l__law_tree ?h_c__law_tree ?h_k__law_tree ?h_a__law_trees ?h_l__law_trees ?h_c__law_trees ?h_k__law_trees ?h_a__law_all_right ?h_l__law_all_right ?h_c__law_all_right ?h_k__law_all_right ?h_a__law_without ?h_l__law_without ?h_c__law_without ?h_k__law_without ?h_a__law_needed_right ?h_l__law_needed_right ?h_c__law_needed_right ?h_k__law_needed_right ?h_a__law_right ?h_l__law_right ?h_c__law_right ?h_k__law_right ?h_a_law ?h_l_law ?h_c_law ?h_k_law ?h_a_fewest_stations ?h_l_fewest_stations ?h_c_fewest_stations ?h_k_fewest_stations ?h_d_fewest_stations_off ?h_aC ?h_a_M_init ?h_i_M_init ?h_l_M_init ?h_c_M_init ?h_k_M_init ?h_a_M_len ?h_i_M_len ?h_l_M_len ?h_c_M_len ?h_k_M_len ?h_a_M_links ?h_i_M_links ?h_l_M_links ?h_c_M_links ?h_k_M_links ?h_pg ?h_hd ?h_po ?h_sa ?h_mk ?h_kc ?h_nK ?h_nN ?h_ha ?h_hn ?h_ht ?h_hm ?h_ne
    (case h_z_all => first | k_is | rfl)
    (case h_z_bool => first | k_is | rfl)
    (case h_z_enumerate => first | k_is | rfl)
    (case h_z_int => first | k_is | rfl)
    (case h_z_isinstance => first | k_is | rfl)
    (case h_z_len => first | k_is | rfl)
    (case h_z_list => first | k_is | rfl)
    (case h_z_max => first | k_is | rfl)
    (case h_z_min => first | k_is | rfl)
    (case h_z_range => first | k_is | rfl)
    (case h_z_sorted => first | k_is | rfl)
    (case h_z_tuple => first | k_is | rfl)
    (case h_v_MAX_CHANNEL => first | k_is | rfl)
    (case h_v_MAX_STATIONS => first | k_is | rfl)
    (case h_a_is_int => first | k_is | rfl)
    (case h_l_is_int => first | k_is | rfl)
    (case h_c_is_int => first | k_is | rfl)
    (case h_k_is_int => first | k_is | rfl)
    (case h_a_is_link => first | k_is | rfl)
    (case h_l_is_link => first | k_is | rfl)
    (case h_c_is_link => first | k_is | rfl)
    (case h_k_is_link => first | k_is | rfl)
    (case h_a_chain => first | k_is | rfl)
    (case h_l_chain => first | k_is | rfl)
    (case h_c_chain => first | k_is | rfl)
    (case h_k_chain => first | k_is | rfl)
    (case h_a_greatest_channels => first | k_is | rfl)
    (case h_l_greatest_channels => first | k_is | rfl)
    (case h_c_greatest_channels => first | k_is | rfl)
    (case h_k_greatest_channels => first | k_is | rfl)
    (case h_a_is_forest => first | k_is | rfl)
    (case h_l_is_forest => first | k_is | rfl)
    (case h_c_is_forest => first | k_is | rfl)
    (case h_k_is_forest => first | k_is | rfl)
    (case h_a_ring_of => first | k_is | rfl)
    (case h_l_ring_of => first | k_is | rfl)
    (case h_c_ring_of => first | k_is | rfl)
    (case h_k_ring_of => first | k_is | rfl)
    (case h_a_check_forest => first | k_is | rfl)
    (case h_l_check_forest => first | k_is | rfl)
    (case h_c_check_forest => first | k_is | rfl)
    (case h_k_check_forest => first | k_is | rfl)
    (case h_a_branches => first | k_is | rfl)
    (case h_l_branches => first | k_is | rfl)
    (case h_c_branches => first | k_is | rfl)
    (case h_k_branches => first | k_is | rfl)
    (case h_a_greatest_at => first | k_is | rfl)
    (case h_l_greatest_at => first | k_is | rfl)
    (case h_c_greatest_at => first | k_is | rfl)
    (case h_k_greatest_at => first | k_is | rfl)
    (case h_a_greatest_by_order => first | k_is | rfl)
    (case h_l_greatest_by_order => first | k_is | rfl)
    (case h_c_greatest_by_order => first | k_is | rfl)
    (case h_k_greatest_by_order => first | k_is | rfl)
    (case h_a_grown => first | k_is | rfl)
    (case h_l_grown => first | k_is | rfl)
    (case h_c_grown => first | k_is | rfl)
    (case h_k_grown => first | k_is | rfl)
    (case h_a_tree => first | k_is | rfl)
    (case h_l_tree => first | k_is | rfl)
    (case h_c_tree => first | k_is | rfl)
    (case h_k_tree => first | k_is | rfl)
    (case h_a_fibonacci_tree => first | k_is | rfl)
    (case h_l_fibonacci_tree => first | k_is | rfl)
    (case h_c_fibonacci_tree => first | k_is | rfl)
    (case h_k_fibonacci_tree => first | k_is | rfl)
    (case h_a_doubling_tree => first | k_is | rfl)
    (case h_l_doubling_tree => first | k_is | rfl)
    (case h_c_doubling_tree => first | k_is | rfl)
    (case h_k_doubling_tree => first | k_is | rfl)
    (case h_a_greatest_with => first | k_is | rfl)
    (case h_l_greatest_with => first | k_is | rfl)
    (case h_c_greatest_with => first | k_is | rfl)
    (case h_k_greatest_with => first | k_is | rfl)
    (case h_a__law_draw => first | k_is | rfl)
    (case h_l__law_draw => first | k_is | rfl)
    (case h_c__law_draw => first | k_is | rfl)
    (case h_k__law_draw => first | k_is | rfl)
    (case h_a__law_shuffled => first | k_is | rfl)
    (case h_l__law_shuffled => first | k_is | rfl)
    (case h_c__law_shuffled => first | k_is | rfl)
    (case h_k__law_shuffled => first | k_is | rfl)
    (case h_a__law_tree => first | k_is | rfl)
    (case h_l__law_tree => first | k_is | rfl)
    (case h_c__law_tree => first | k_is | rfl)
    (case h_k__law_tree => first | k_is | rfl)
    (case h_a__law_trees => first | k_is | rfl)
    (case h_l__law_trees => first | k_is | rfl)
    (case h_c__law_trees => first | k_is | rfl)
    (case h_k__law_trees => first | k_is | rfl)
    (case h_a__law_all_right => first | k_is | rfl)
    (case h_l__law_all_right => first | k_is | rfl)
    (case h_c__law_all_right => first | k_is | rfl)
    (case h_k__law_all_right => first | k_is | rfl)
    (case h_a__law_without => first | k_is | rfl)
    (case h_l__law_without => first | k_is | rfl)
    (case h_c__law_without => first | k_is | rfl)
    (case h_k__law_without => first | k_is | rfl)
    (case h_a__law_needed_right => first | k_is | rfl)
    (case h_l__law_needed_right => first | k_is | rfl)
    (case h_c__law_needed_right => first | k_is | rfl)
    (case h_k__law_needed_right => first | k_is | rfl)
    (case h_a__law_right => first | k_is | rfl)
    (case h_l__law_right => first | k_is | rfl)
    (case h_c__law_right => first | k_is | rfl)
    (case h_k__law_right => first | k_is | rfl)
    (case h_a_law => first | k_is | rfl)
    (case h_l_law => first | k_is | rfl)
    (case h_c_law => first | k_is | rfl)
    (case h_k_law => first | k_is | rfl)
    (case h_a_fewest_stations => first | k_is | rfl)
    (case h_l_fewest_stations => first | k_is | rfl)
    (case h_c_fewest_stations => first | k_is | rfl)
    (case h_k_fewest_stations => first | k_is | rfl)
    (case h_d_fewest_stations_off => first | k_is | rfl)
    (case h_aC => first | k_is | rfl)
    (case h_a_M_init => first | k_is | rfl)
    (case h_i_M_init => first | k_is | rfl)
    (case h_l_M_init => first | k_is | rfl)
    (case h_c_M_init => first | k_is | rfl)
    (case h_k_M_init => first | k_is | rfl)
    (case h_a_M_len => first | k_is | rfl)
    (case h_i_M_len => first | k_is | rfl)
    (case h_l_M_len => first | k_is | rfl)
    (case h_c_M_len => first | k_is | rfl)
    (case h_k_M_len => first | k_is | rfl)
    (case h_a_M_links => first | k_is | rfl)
    (case h_i_M_links => first | k_is | rfl)
    (case h_l_M_links => first | k_is | rfl)
    (case h_c_M_links => first | k_is | rfl)
    (case h_k_M_links => first | k_is | rfl)
    (case h_pg => first | k_is | rfl)
    (case h_hd => first | k_is | rfl)
    (case h_po => first | k_is | rfl)
    (case h_sa => first | k_is | rfl)
    (case h_mk => first | k_is | rfl)
    (case h_kc => first | k_is | rfl)
    (case h_nK => first | k_is | rfl)
    (case h_nN => first | k_is | rfl)
    (case h_ha => first | k_is | rfl)
    (case h_hn => first | k_is | rfl)
    (case h_ht => first | k_is | rfl)
    (case h_hm => first | k_is | rfl)
    (case h_ne => first | k_is | rfl)
#print axioms PySem.Challenge.cw_nextchannel_k32_whole_no_smaller_network_holds

