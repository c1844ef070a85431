import PyProof.Rows.All
import Wide.All
import OpenK.AllK
import Wide.FinOn
import HandS.ForMost
import HandS.ForExc
import HandS.Evl
import HandS.IsInst
import HandS.Defaults
import HandS.Conv
import HandS.Deep
import HandS.SortInts
import HandS.SortRule
import HandS.TupAny
import HandS.TupMul
import HandS.OwnEq
import HandS.Strs
import HandS.SetFor
import HandS.ExcInit
import HandS.ExcIs
import HandS.ExcField
import HandS.ClsMeth
import HandS.Zip
import HandS.MakeKwOnly
import HandS.Lambda
import HandS.EndTab
import KE.KExcIs
import PySem.Challenge.RW_nextchannel_k31_smallest_networks
set_option Elab.async false
set_option linter.all false
set_option maxRecDepth 100000
set_option maxHeartbeats 4000000
/-! Own layer over HandS: owned local objects (Own), readings step by step (g_..). -/
namespace NX
open PySem PySem.Spec PyProof.Rows L2
open Evl (Ex ex_l ex_t fresh_back)

/-! ### heaps -/
/-- H without the addresses of L -/
def cut (H : Hp) (L : List (Addr × HO)) : Hp := fun a => if a ∈ L.map Prod.fst then none else H a
theorem cut_in {H : Hp} {L : List (Addr × HO)} {a : Addr} (h : a ∈ L.map Prod.fst) : cut H L a = none := by unfold cut; rw [if_pos h]
theorem cut_out {H : Hp} {L : List (Addr × HO)} {a : Addr} (h : a ∉ L.map Prod.fst) : cut H L a = H a := by unfold cut; rw [if_neg h]
def noTup : HO → Bool
  | .tup _ => false
  | .frz _ _ => false
  | _ => true
/-- G: what stands still; L: what the body may change, as it is now -/
structure Own (G : Hp) (L : List (Addr × HO)) (H : Hp) : Prop where
  ex : Ex G H
  at_ : ∀ p ∈ L, G p.1 = none ∧ H p.1 = some p.2
  nd : (L.map Prod.fst).Nodup
  nt : ∀ p ∈ L, noTup p.2 = true
section
variable {G H H' : Hp} {L : List (Addr × HO)} {p q r s : Addr} {o o' o1 o2 o3 o4 : HO}
theorem Own.start (H : Hp) : Own H [] H := ⟨Ex.refl H, fun _ h => (nomatch h), by simp, fun _ h => (nomatch h)⟩
theorem Own.grow (S : Own G L H) (e : Ex H H') : Own G L H' := ⟨S.ex.trans e, fun p h => ⟨(S.at_ p h).1, e _ _ (S.at_ p h).2⟩, S.nd, S.nt⟩
theorem Own.fresh (S : Own G L H) (h : H p = none) : p ∉ L.map Prod.fst := fun m => by
  obtain ⟨x, hx, e⟩ := List.mem_map.mp m
  have z := (S.at_ x hx).2
  rw [e, h] at z
  cases z
theorem Own.new (S : Own G L H) (e : Ex H H') (hp : H p = none) (h : H' p = some o) (ht : noTup o = true := by rfl) : Own G ((p, o) :: L) H' :=
  ⟨S.ex.trans e, fun x hx => by
    rcases List.mem_cons.mp hx with rfl | hx
    · exact ⟨fresh_back S.ex hp, h⟩
    · exact ⟨(S.at_ x hx).1, e _ _ (S.at_ x hx).2⟩, by
    rw [List.map_cons, List.nodup_cons]
    exact ⟨S.fresh hp, S.nd⟩, fun x hx => by
    rcases List.mem_cons.mp hx with rfl | hx
    · exact ht
    · exact S.nt x hx⟩
theorem ex_upd (hp : H p = none) : Ex H (upd H p o) := Ex.new hp
theorem Own.lay (S : Own G L H) (hp : H p = none) (ht : noTup o = true := by rfl) : Own G ((p, o) :: L) (upd H p o) := S.new (Ex.new hp) hp upd_same ht
theorem Own.forget (S : Own G ((p, o) :: L) H) : Own G L H := ⟨S.ex, fun x hx => S.at_ x (List.mem_cons_of_mem _ hx), by
  have z := S.nd
  rw [List.map_cons, List.nodup_cons] at z
  exact z.2, fun x hx => S.nt x (List.mem_cons_of_mem _ hx)⟩
theorem Own.get0 (S : Own G ((p, o) :: L) H) : H p = some o := (S.at_ _ List.mem_cons_self).2
theorem Own.get1 (S : Own G ((q, o1) :: (p, o) :: L) H) : H p = some o := S.forget.get0
theorem Own.get2 (S : Own G ((r, o2) :: (q, o1) :: (p, o) :: L) H) : H p = some o := S.forget.get1
theorem Own.get3 (S : Own G ((s, o3) :: (r, o2) :: (q, o1) :: (p, o) :: L) H) : H p = some o := S.forget.get2
theorem Own.no0 (S : Own G ((p, o) :: L) H) : G p = none := (S.at_ _ List.mem_cons_self).1
theorem Own.nin (S : Own G ((p, o) :: L) H) : p ∉ L.map Prod.fst := by
  have z := S.nd
  rw [List.map_cons, List.nodup_cons] at z
  exact z.1
theorem ex_mut (e : Ex G H) (h : G p = none) : Ex G (upd H p o) := fun a u ha => by
  rw [upd_ne (ne_of_none ha h)]
  exact e a u ha
theorem Own.put0 (S : Own G ((p, o) :: L) H) (ht : noTup o' = true := by rfl) : Own G ((p, o') :: L) (upd H p o') :=
  ⟨ex_mut S.ex S.no0, fun x hx => by
    rcases List.mem_cons.mp hx with rfl | hx
    · exact ⟨S.no0, upd_same⟩
    · have ne : x.1 ≠ p := fun e => S.nin (e ▸ List.mem_map_of_mem hx)
      rw [upd_ne ne]
      exact S.at_ x (List.mem_cons_of_mem _ hx), S.nd, fun x hx => by
    rcases List.mem_cons.mp hx with rfl | hx
    · exact ht
    · exact S.nt x (List.mem_cons_of_mem _ hx)⟩
theorem Own.perm {L' : List (Addr × HO)} (S : Own G L H) (h : L'.Perm L) : Own G L' H :=
  ⟨S.ex, fun x hx => S.at_ x (h.mem_iff.mp hx), (h.map Prod.fst).nodup_iff.mpr S.nd, fun x hx => S.nt x (h.mem_iff.mp hx)⟩
theorem Own.getM (S : Own G L H) (h : (p, o) ∈ L) : H p = some o := (S.at_ _ h).2
theorem nd_ne {L : List (Addr × HO)} (nd : (L.map Prod.fst).Nodup) {i j : Nat} {a b : Addr × HO} (hi : L[i]? = some a) (hj : L[j]? = some b) (ne : i ≠ j) : a.1 ≠ b.1 := fun e => by
  have h1 : (L.map Prod.fst)[i]? = some a.1 := by rw [List.getElem?_map, hi] <;> rfl
  have h2 : (L.map Prod.fst)[j]? = some a.1 := by rw [List.getElem?_map, hj, e] <;> rfl
  obtain ⟨l1, e1⟩ := List.getElem?_eq_some_iff.mp h1
  obtain ⟨l2, e2⟩ := List.getElem?_eq_some_iff.mp h2
  exact ne ((List.getElem_inj nd).mp (e1.trans e2.symm))
theorem Own.putM {j : Nat} (S : Own G L H) (h : L[j]? = some (p, o)) (ht : noTup o' = true := by rfl) : Own G (L.set j (p, o')) (upd H p o') := by
  have hm : (p, o) ∈ L := List.mem_of_getElem? h
  have hj : j < L.length := (List.getElem?_eq_some_iff.mp h).1
  have np : G p = none := (S.at_ _ hm).1
  have em : (L.set j (p, o')).map Prod.fst = L.map Prod.fst := by
    rw [List.map_set]
    refine List.ext_getElem? fun i => ?_
    by_cases c : j = i
    · subst c
      rw [List.getElem?_set_self (by rw [List.length_map]; exact hj), List.getElem?_map, h] <;> rfl
    · rw [List.getElem?_set_ne c]
  have cases_ : ∀ x ∈ L.set j (p, o'), x = (p, o') ∨ (x ∈ L ∧ x.1 ≠ p) := fun x hx => by
    obtain ⟨i, hi, e⟩ := List.mem_iff_getElem.mp hx
    have e' : (L.set j (p, o'))[i]? = some x := by rw [List.getElem?_eq_getElem hi, e]
    by_cases c : j = i
    · subst c
      rw [List.getElem?_set_self hj] at e'
      exact .inl (Option.some.inj e').symm
    · rw [List.getElem?_set_ne c] at e'
      exact .inr ⟨List.mem_of_getElem? e', nd_ne S.nd e' h (Ne.symm c)⟩
  refine ⟨ex_mut S.ex np, fun x hx => ?_, by rw [em]; exact S.nd, fun x hx => ?_⟩
  · rcases cases_ x hx with rfl | ⟨m, ne⟩
    · exact ⟨np, upd_same⟩
    · rw [upd_ne ne]
      exact S.at_ x m
  · rcases cases_ x hx with rfl | ⟨m, ne⟩
    · exact ht
    · exact S.nt x m
theorem Own.swap (S : Own G ((p, o) :: (q, o1) :: L) H) : Own G ((q, o1) :: (p, o) :: L) H := S.perm (List.Perm.swap _ _ _)
theorem Own.put1 (S : Own G ((q, o1) :: (p, o) :: L) H) (ht : noTup o' = true := by rfl) : Own G ((q, o1) :: (p, o') :: L) (upd H p o') := (S.swap.put0 ht).swap
theorem rot_perm {α : Type} (a b c : α) (l : List α) : (c :: a :: b :: l).Perm (a :: b :: c :: l) := (List.Perm.swap a c _).trans ((List.Perm.swap b c _).cons _)
theorem Own.rot (S : Own G ((r, o2) :: (q, o1) :: (p, o) :: L) H) : Own G ((p, o) :: (r, o2) :: (q, o1) :: L) H := S.perm (rot_perm _ _ _ _)
theorem Own.unrot (S : Own G ((p, o) :: (r, o2) :: (q, o1) :: L) H) : Own G ((r, o2) :: (q, o1) :: (p, o) :: L) H := S.perm (rot_perm _ _ _ _).symm
theorem Own.put2 (S : Own G ((r, o2) :: (q, o1) :: (p, o) :: L) H) (ht : noTup o' = true := by rfl) : Own G ((r, o2) :: (q, o1) :: (p, o') :: L) (upd H p o') := (S.rot.put0 ht).unrot
/-- what is new in H' (and the tuples of H) -/
def nw (H H' : Hp) : Hp := fun a => match H a with
  | none => H' a
  | some o => if noTup o then none else H' a
theorem nw_new {a : Addr} (h : H a = none) : nw H H' a = H' a := by unfold nw; rw [h]
theorem nw_tup {a : Addr} {o : HO} (h : H a = some o) (ht : noTup o = false) : nw H H' a = H' a := by
  unfold nw; rw [h]
  show (if noTup o = true then none else H' a) = H' a
  rw [ht] <;> rfl
theorem nw_mono {G H H' : Hp} (e : Ex G H) : Ex (nw H H') (nw G H') := fun a u h => by
  cases q : H a with
  | none =>
    rw [nw_new q] at h
    rw [nw_new (fresh_back e q)]
    exact h
  | some o =>
    cases t : noTup o with
    | true => unfold nw at h; rw [q] at h; simp [t] at h
    | false =>
      rw [nw_tup q t] at h
      cases z : G a with
      | none => rw [nw_new z]; exact h
      | some o' =>
        have y := e _ _ z
        rw [q] at y
        cases y
        rw [nw_tup z t]
        exact h
/-- what is new stands still from now on -/
theorem Own.absorb (S : Own G L H) (e : Ex H H') : Own (cut H' L) L H' ∧ Ex G (cut H' L) ∧ Ex (nw H H') (cut H' L) :=
  ⟨⟨fun a u h => by
      by_cases m : a ∈ L.map Prod.fst
      · rw [cut_in m] at h; cases h
      · rw [cut_out m] at h; exact h, fun x hx => ⟨cut_in (List.mem_map_of_mem hx), e _ _ (S.at_ x hx).2⟩, S.nd, S.nt⟩,
    fun a u h => by
      have m : a ∉ L.map Prod.fst := fun m => by
        obtain ⟨x, hx, z⟩ := List.mem_map.mp m
        have y := (S.at_ x hx).1
        rw [z, h] at y
        cases y
      rw [cut_out m]
      exact e _ _ (S.ex _ _ h),
    fun a o h => by
      cases q : H a with
      | none => rw [cut_out (S.fresh q), ← nw_new (H' := H') q]; exact h
      | some u =>
        cases t : noTup u with
        | true => unfold nw at h; rw [q] at h; simp [t] at h
        | false =>
          have m : a ∉ L.map Prod.fst := fun m => by
            obtain ⟨x, hx, z⟩ := List.mem_map.mp m
            have y := (S.at_ x hx).2
            rw [z, q] at y
            have n := S.nt x hx
            rw [← Option.some.inj y, t] at n
            cases n
          rw [cut_out m, ← nw_tup (H' := H') q t]
          exact h⟩
/-- the head of L stands still from now on -/
theorem Own.freeze (S : Own G ((p, o) :: L) H) : Own (upd G p o) L H ∧ Ex G (upd G p o) ∧ upd G p o p = some o :=
  ⟨⟨fun a u h => by
      by_cases e : a = p
      · subst e
        rw [upd_same] at h
        cases h
        exact S.get0
      · rw [upd_ne e] at h
        exact S.ex _ _ h, fun x hx => ⟨by
      have ne : x.1 ≠ p := fun e => S.nin (e ▸ List.mem_map_of_mem hx)
      rw [upd_ne ne]
      exact (S.at_ x (List.mem_cons_of_mem _ hx)).1, (S.at_ x (List.mem_cons_of_mem _ hx)).2⟩, S.forget.nd, S.forget.nt⟩, Ex.new S.no0, upd_same⟩
/-- from all that is known: a call that may change the object at p -/
theorem Own.give (h : H p = some o) (ht : noTup o = true := by rfl) : Own (cut H [(p, o)]) [(p, o)] H :=
  ⟨fun a u e => by
      by_cases m : a ∈ ([(p, o)] : List (Addr × HO)).map Prod.fst
      · rw [cut_in m] at e; cases e
      · rw [cut_out m] at e; exact e, fun x hx => by
      have z : x = (p, o) := by simpa using hx
      subst z
      exact ⟨cut_in (by simp), h⟩, by simp, fun x hx => by
      have z : x = (p, o) := by simpa using hx
      subst z
      exact ht⟩
/-- behind such a call -/
theorem Own.back {L' : List (Addr × HO)} (S : Own G ((p, o) :: L) H) (T : Own (cut H [(p, o)]) ((p, o') :: L') H') : Own G ((p, o') :: L' ++ L) H' := by
  have k : ∀ a u, a ≠ p → H a = some u → H' a = some u := fun a u ne e => T.ex _ _ (by rw [cut_out (by simpa using ne)]; exact e)
  refine ⟨fun a u e => k a u (ne_of_none e S.no0) (S.ex _ _ e), fun x hx => ?_, ?_, fun x hx => (List.mem_append.mp hx).elim (T.nt x) (S.forget.nt x)⟩
  · rcases List.mem_append.mp hx with hx | hx
    · refine ⟨?_, (T.at_ x hx).2⟩
      have z := (T.at_ x hx).1
      by_cases e : x.1 = p
      · rw [e]; exact S.no0
      · rw [cut_out (by simpa using e)] at z
        exact fresh_back S.ex z
    · have ne : x.1 ≠ p := fun e => S.nin (e ▸ List.mem_map_of_mem hx)
      exact ⟨(S.at_ x (List.mem_cons_of_mem _ hx)).1, k _ _ ne (S.at_ x (List.mem_cons_of_mem _ hx)).2⟩
  · rw [List.map_append, List.nodup_append]
    refine ⟨T.nd, S.forget.nd, fun a ha b hb e => ?_⟩
    subst e
    obtain ⟨x, hx, ex⟩ := List.mem_map.mp ha
    obtain ⟨y, hy, ey⟩ := List.mem_map.mp hb
    have ne : y.1 ≠ p := fun e => S.nin (e ▸ List.mem_map_of_mem hy)
    have z := (T.at_ x hx).1
    rw [ex, ← ey, cut_out (by simpa using ne), (S.at_ y (List.mem_cons_of_mem _ hy)).2] at z
    cases z
/-- what stood still, without the object that a call may change -/
theorem Own.keep (S : Own G ((p, o) :: L) H) : Ex G (cut H [(p, o)]) := fun a u e => by
  rw [cut_out (by simpa using ne_of_none e S.no0)]
  exact S.ex _ _ e
end

/-! ### readings, one step back at a time -/
/-- a new list, a new tuple is laid -/
def NewL (xs : List V) (H : Hp) (Q : VK) : Prop := xs.length ≤ sizeLine ∧ ∀ p, H p = none → Q (.ref p) (upd H p (.lst xs))
def NewT (xs : List V) (H : Hp) (Q : VK) : Prop := xs.length ≤ sizeLine ∧ ∀ p, H p = none → Q (.ref p) (upd H p (.tup xs))
def NewR (a b : Int) (H : Hp) (Q : VK) : Prop := RgOk a b ∧ ∀ q, H q = none → Q (.ref q) (upd H q (.lst (rgV a b)))
def rTupS (K : PySem.W.Frag) : List V → Hp → VK → Prop := fun xs H Q => ∃ p ys, xs = [.ref p] ∧ ((SqL K H p ys ∧ ∀ l, H l = none → Q (.ref l) (upd H l (.tup ys))) ∨ (SqT K H p ys ∧ Q (.ref p) H))
def rInt1 : List V → Hp → VK → Prop := fun xs H Q => (∃ i, xs = [.int i] ∧ Q (.int i) H) ∨ ∃ k, xs = [.bl k] ∧ Q (.int (if k then 1 else 0)) H
def rMin2 : List V → Hp → VK → Prop := fun xs H Q => ∃ i j, xs = [.int i, .int j] ∧ Q (.int (if j < i then j else i)) H
def rMax2 : List V → Hp → VK → Prop := fun xs H Q => ∃ i j, xs = [.int i, .int j] ∧ Q (.int (if j > i then j else i)) H
def rIsN : R2 := fun x y H Q => y = .non ∧ Q (.bl (decide (x = .non))) H
def rNotN : R2 := fun x y H Q => y = .non ∧ Q (.bl (!decide (x = .non))) H
section
variable {X : Cx}
theorem call_lenN : CallR X (.builtin "len") (Evl.rLenS X.K) := call_len_seq
theorem call_listN : CallR X (.type "list") (Evl.rListS X.K) := call_list_of
theorem call_tupN : CallR X (.type "tuple") (rTupS X.K) := call_tuple_of
theorem call_intN : CallR X (.type "int") rInt1 := call_int1
theorem call_minN (hc : X.calm = true) : CallR X (.builtin "min") rMin2 := call_min2 hc
theorem call_maxN (hc : X.calm = true) : CallR X (.builtin "max") rMax2 := call_max2 hc
theorem op_isNone : OpR X (compareOp .Is) rIsN := op_isN
theorem op_notNone : OpR X (compareOp .IsNot) rNotN := op_notN
end
section
variable {K : PySem.W.Frag} {σ : L2.St} {H : Hp} {ta tb tc te : TE} {t u : TT} {tr : TA} {Q : VK} {v x y : V} {r : R2}
theorem g_var {i : Nat} (h : σ[i]? = some (some v)) (k : Q v H) : tVar i σ H Q := ⟨v, h, k⟩
theorem g_c (k : Q v H) : tC v σ H Q := k
theorem g_op (k : ta σ H fun x H1 => tb σ H1 fun y H2 => r x y H2 Q) : tOp r ta tb σ H Q := k
theorem g_un {r : V → Hp → VK → Prop} (k : ta σ H fun x H1 => r x H1 Q) : tUn r ta σ H Q := k
theorem g_I0 {g : Int → Int → V} {i j : Int} (k : Q (g i j) H) : rI0 g (.int i) (.int j) H Q := ⟨i, j, rfl, rfl, k⟩
theorem g_I {C : Int → Int → Prop} {g : Int → Int → V} {i j : Int} (c : C i j) (k : Q (g i j) H) : rI C g (.int i) (.int j) H Q := ⟨i, j, rfl, rfl, c, k⟩
theorem g_U {g : Int → V} {i : Int} (k : Q (g i) H) : rU g (.int i) H Q := ⟨i, rfl, k⟩
theorem g_eqI {i j : Int} (k : Q (.bl (decide (i = j))) H) : rEq (.int i) (.int j) H Q := ⟨rfl, by
  have e : decide (V.int i = V.int j) = decide (i = j) := by
    by_cases z : i = j
    · rw [decide_eq_true z, decide_eq_true (by rw [z])]
    · rw [decide_eq_false z, decide_eq_false (fun q => z (V.int.inj q))]
  rw [e]; exact k⟩
theorem g_neI {i j : Int} (k : Q (.bl (!decide (i = j))) H) : rNe (.int i) (.int j) H Q := ⟨rfl, by
  have e : decide (V.int i = V.int j) = decide (i = j) := by
    by_cases z : i = j
    · rw [decide_eq_true z, decide_eq_true (by rw [z])]
    · rw [decide_eq_false z, decide_eq_false (fun q => z (V.int.inj q))]
  rw [e]; exact k⟩
theorem g_neB {i j : Bool} (k : Q (.bl (!decide (i = j))) H) : rNe (.bl i) (.bl j) H Q := ⟨rfl, by
  have e : decide (V.bl i = V.bl j) = decide (i = j) := by
    by_cases z : i = j
    · rw [decide_eq_true z, decide_eq_true (by rw [z])]
    · rw [decide_eq_false z, decide_eq_false (fun q => z (V.bl.inj q))]
  rw [e]; exact k⟩
theorem g_eqB {i j : Bool} (k : Q (.bl (decide (i = j))) H) : rEq (.bl i) (.bl j) H Q := ⟨rfl, by
  have e : decide (V.bl i = V.bl j) = decide (i = j) := by
    by_cases z : i = j
    · rw [decide_eq_true z, decide_eq_true (by rw [z])]
    · rw [decide_eq_false z, decide_eq_false (fun q => z (V.bl.inj q))]
  rw [e]; exact k⟩
theorem g_cb {r : List V → Hp → VK → Prop} (k : tr σ H fun vs H1 => r vs H1 Q) : tCB r tr σ H Q := k
theorem g_call {sp : Sp} {dvs : List V} {E : XK} (k : tr σ H fun vs H1 => sp (vs ++ dvs) H1 Q E) : tCall sp dvs E tr σ H Q := k
theorem g_nil {Q : List V → Hp → Prop} (k : Q [] H) : tNil σ H Q := k
theorem g_cons {Q : List V → Hp → Prop} (k : ta σ H fun x H1 => tr σ H1 fun xs H2 => Q (x :: xs) H2) : tCons ta tr σ H Q := k
theorem g_test {Q : Bool → Hp → Prop} (k : te σ H fun x H1 => ∃ b, x = .bl b ∧ Q b H1) : tTest te σ H Q := k
theorem g_B {Q : Bool → Hp → Prop} (k : te σ H fun x H1 => ∃ b, x = .bl b ∧ Q b H1) : tB te σ H Q := k
theorem g_bl {b : Bool} {Q : Bool → Hp → Prop} (k : Q b H) : ∃ c, V.bl b = .bl c ∧ Q c H := ⟨b, rfl, k⟩
theorem g_and {Q : Bool → Hp → Prop} (k : t σ H fun c H1 => if c = true then u σ H1 Q else Q false H1) : tAnd t u σ H Q := k
theorem g_or {Q : Bool → Hp → Prop} (k : t σ H fun c H1 => if c = true then Q true H1 else u σ H1 Q) : tOr t u σ H Q := k
theorem g_not {Q : Bool → Hp → Prop} (k : t σ H fun c H1 => Q (!c) H1) : tNot t σ H Q := k
theorem g_andV (k : ta σ H fun x H1 => ∃ c, x = .bl c ∧ if c = true then tb σ H1 Q else Q (.bl false) H1) : tAndV ta tb σ H Q := k
theorem g_orV (k : ta σ H fun x H1 => ∃ c, x = .bl c ∧ if c = true then Q (.bl true) H1 else tb σ H1 Q) : tOrV ta tb σ H Q := k
theorem g_notV (k : ta σ H fun x H1 => ∃ c, x = .bl c ∧ Q (.bl (!c)) H1) : tNotV ta σ H Q := k
theorem g_exV {b : Bool} {P : Bool → Prop} (k : P b) : ∃ c, V.bl b = .bl c ∧ P c := ⟨b, rfl, k⟩
theorem g_if (k : t σ H fun c H1 => if c = true then ta σ H1 Q else tb σ H1 Q) : tIf t ta tb σ H Q := k
theorem g_chain {r' : R2} (k : ta σ H fun x H1 => tb σ H1 fun y H2 => r x y H2 fun z H3 => ∃ k, z = .bl k ∧ (if k = true then tc σ H3 fun w' H4 => r' y w' H4 Q else Q (.bl false) H3)) : tChain r r' ta tb tc σ H Q := k
theorem g_tup (k : tr σ H fun xs H1 => NewT xs H1 Q) : tTup tr σ H Q := k
theorem g_lst (k : tr σ H fun xs H1 => NewL xs H1 Q) : tLst tr σ H Q := k
theorem g_sl {rs : V → Option Int → Option Int → Hp → VK → Prop} {tl th : TO} (k : te σ H fun x H1 => tl σ H1 fun l H2 => th σ H2 fun u H3 => rs x l u H3 Q) : tSl rs te tl th σ H Q := k
theorem g_noPart {Q : Option Int → Hp → Prop} (k : Q none H) : tNoPart σ H Q := k
theorem g_part {Q : Option Int → Hp → Prop} (k : te σ H fun x H1 => ∃ i, x = .int i ∧ Q (some i) H1) : tPart te σ H Q := k
theorem g_exI {i : Int} {P : Int → Prop} (k : P i) : ∃ j, V.int i = .int j ∧ P j := ⟨i, rfl, k⟩
theorem g_bm {T : String} {rm : V → List V → Hp → VK → Prop} (k : te σ H fun x H1 => tyV K T x H1 ∧ tr σ H1 fun xs H2 => rm x xs H2 Q) : tBM K T rm te tr σ H Q := k
theorem g_bm0 {T : String} {rm : V → List V → Hp → VK → Prop} (k : te σ H fun x H1 => tyV K T x H1 ∧ rm x [] H1 Q) : tBM0 K T rm te σ H Q := k
end
section
variable {K : PySem.W.Frag} {σ : L2.St} {H : Hp} {te : TE} {tt : TT} {ts us : TS} {tr : TA} {v : V} {n b c : L2.St → Hp → Prop} {rt : VK} {g : TG}
theorem s_seq (k : ts ⟨us ⟨n, rt, b, c⟩, rt, b, c⟩ σ H) : tSeq ts us ⟨n, rt, b, c⟩ σ H := k
theorem s_next (k : n σ H) : tNext ⟨n, rt, b, c⟩ σ H := k
theorem s_brk (k : b σ H) : tBreak ⟨n, rt, b, c⟩ σ H := k
theorem s_cont (k : c σ H) : tCont ⟨n, rt, b, c⟩ σ H := k
theorem s_drop (k : te σ H fun _ H1 => n σ H1) : tDrop te ⟨n, rt, b, c⟩ σ H := k
theorem s_ret (k : te σ H rt) : tRet te ⟨n, rt, b, c⟩ σ H := k
theorem s_retN (k : rt .non H) : tRetN ⟨n, rt, b, c⟩ σ H := k
theorem s_if (k : tt σ H fun x H1 => if x = true then ts ⟨n, rt, b, c⟩ σ H1 else us ⟨n, rt, b, c⟩ σ H1) : tIfS tt ts us ⟨n, rt, b, c⟩ σ H := k
theorem s_asg (k : te σ H fun x H1 => g x σ H1 n) : tAsg te g ⟨n, rt, b, c⟩ σ H := k
theorem s_name {i : Nat} {Q : L2.St → Hp → Prop} (k : Q (σ.set i (some v)) H) : gName i v σ H Q := k
theorem s_par {i j : Nat} (k : tr σ H fun vs H1 => ∃ v w, vs = [v, w] ∧ n ((σ.set i (some v)).set j (some w)) H1) : tPar i j tr ⟨n, rt, b, c⟩ σ H := k
theorem s_two {v w : V} {P : V → V → Prop} (k : P v w) : ∃ v' w', [v, w] = [v', w'] ∧ P v' w' := ⟨v, w, rfl, k⟩
theorem s_aug {i : Nat} {ti : TIp} {x : V} (h : σ[i]? = some (some x)) (k : te σ H fun y H1 => ti x y H1 fun z H2 => n (σ.set i (some z)) H2) : tAug i te ti ⟨n, rt, b, c⟩ σ H := ⟨x, h, k⟩
theorem s_ipI {f : Int → Int → Int} {i j : Int} {Q : VK} (k : Q (.int (f i j)) H) : ipI f (.int i) (.int j) H Q := ⟨i, j, rfl, rfl, k⟩
theorem s_sub {to ti : TE} {t : TSet} {Q : L2.St → Hp → Prop} (k : to σ H fun o H1 => ti σ H1 fun i H2 => t o i v H2 fun H3 => Q σ H3) : gSub to ti t v σ H Q := k
theorem s_gtup {K : PySem.W.Frag} {m : Nat} {t : TGs} {a : Addr} {xs : List V} {Q : L2.St → Hp → Prop} (h : SqT K H a xs) (e : xs.length = m) (k : t xs σ H Q) : gTup K m t (.ref a) σ H Q := ⟨a, xs, rfl, h, e, k⟩
theorem s_gcons {t : TG} {u : TGs} {r : List V} {Q : L2.St → Hp → Prop} (k : t v σ H fun σ' H' => u r σ' H' Q) : gCons t u (v :: r) σ H Q := ⟨v, r, rfl, k⟩
theorem s_gnil {Q : L2.St → Hp → Prop} (k : Q σ H) : gNil [] σ H Q := ⟨rfl, k⟩
end
/-! ### what is read of the heap: G stands still -/
section
variable {K : PySem.W.Frag} {G H : Hp} {L : List (Addr × HO)} {p : Addr} {xs : List V} {v : V} {Q : VK}
theorem Own.sl (S : Own G L H) (h : SqL K G p xs) : SqL K H p xs := ex_l S.ex h
theorem Own.st (S : Own G L H) (h : SqT K G p xs) : SqT K H p xs := ex_t S.ex h
theorem g_ixL {i : Int} (h : SqL K H p xs) (a : atI xs i = some v) (k : Q v H) : rIxL K (.ref p) (.int i) H Q := ⟨p, xs, i, v, rfl, rfl, h, a, k⟩
theorem g_ixT {i : Int} (h : SqT K H p xs) (a : atI xs i = some v) (k : Q v H) : rIxT K (.ref p) (.int i) H Q := ⟨p, xs, i, v, rfl, rfl, h, a, k⟩
end
/-! ### calls of defs -/
/-- the def x: its promise, how its arguments come -/
def Cal (P : Program) (w : World) (K : PySem.W.Frag) (mg : Str → Option Value) (base : Heap) (k : Nat) (x : Str) (ps : List Str) (dvs : List V) (sp : Sp) : Prop :=
  ∃ (f : Addr) (fd : FuncData) (ds : List Value), FnOk P w K mg base (L2.CX P w) k f fd ps sp ∧ mg x = some (.ref f) ∧ PySem.W.keepIn K (.ref f) = true ∧ Binds K fd ps ds ∧ Vals dvs ds
/-- .. called with n positional arguments and the keywords ks -/
def CalK (P : Program) (w : World) (K : PySem.W.Frag) (mg : Str → Option Value) (base : Heap) (k : Nat) (x : Str) (ps : List Str) (n : Nat) (ks : List Str) (gV : List V → List V → List V) (sp : Sp) : Prop :=
  ∃ (f : Addr) (fd : FuncData) (g : List Value → List Value → List Value), FnOk P w K mg base (L2.CX P w) k f fd ps sp ∧ mg x = some (.ref f) ∧ PySem.W.keepIn K (.ref f) = true ∧ KBn K fd ps n ks g gV
theorem fn_up {P : Program} {w : World} {K : PySem.W.Frag} {mg : Str → Option Value} {base : Heap} {k : Nat} {f : Addr} {fd : FuncData} {ps : List Str} {sp : Sp} (F : FnOk P w K mg base CX0 k f fd ps sp) : FnOk P w K mg base (L2.CX P w) k f fd ps sp :=
  ⟨F.len, fun A outer s H args us vs Q E hr he hb hv hs => codeAny_mono (F.run A outer s H args us vs Q E hr he hb hv hs) fun r s' h => by
    cases r with
    | error e => exact (show False from h).elim
    | ok fl => cases fl <;> exact h⟩
section
variable {X : Cx} {k n : Nat} {ps ks : List Str} {sp : Sp} {dvs : List V} {E : XK} {x : Str} {p pos : Pos} {e : Expr} {es : List Expr} {kws : List Keyword} {t tk : TA} {gV : List V → List V → List V}
theorem passN : Passes (L2.CX X.prog X.w) X E0 := L2.passL
/-- f(e, ..): what is written, no defaults -/
def tCal (sp : Sp) (E : XK) (t : TA) : TE := fun σ H Q => t σ H fun vs H1 => sp vs H1 Q E
theorem pe_cal (C : Cal X.prog X.w X.K X.mg X.base k x ps [] sp) (hr : Room k X.A) (hx : Passes (L2.CX X.prog X.w) X E) (ha : PA X (e :: es) t) (hg : Gl X x := by rfl) (hdb : (x == ("__debug__" : Str)) = false := by decide)
    (he : starEach (e :: es) X.env = (false, eval e X.env) :: starEach es X.env := by rfl) (hpl : (backTo pos (starEach es X.env)).any (·.1) = false := by rfl) : PE X (.Call (.Name x p) (e :: es) [] pos) (tCal sp E t) := by
  obtain ⟨f, fd, ds, F, hm, hk, hb, hd⟩ := C
  have q : PE X (.Call (.Name x p) (e :: es) [] pos) (tCall sp [] E t) := pe_call F hr hg hm hk hb hd hx ha hdb he hpl
  refine ⟨fun pins s σ H Q I h => q.run pins s σ H Q I ?_⟩
  have e : (fun (vs : List V) (H1 : Hp) => sp (vs ++ []) H1 Q E) = (fun vs H1 => sp vs H1 Q E) := by
    funext vs H1
    rw [List.append_nil]
  show t σ H fun vs H1 => sp (vs ++ []) H1 Q E
  rw [e]
  exact h
theorem pe_calD (C : Cal X.prog X.w X.K X.mg X.base k x ps dvs sp) (hr : Room k X.A) (hx : Passes (L2.CX X.prog X.w) X E) (ha : PA X (e :: es) t) (hg : Gl X x := by rfl) (hdb : (x == ("__debug__" : Str)) = false := by decide)
    (he : starEach (e :: es) X.env = (false, eval e X.env) :: starEach es X.env := by rfl) (hpl : (backTo pos (starEach es X.env)).any (·.1) = false := by rfl) : PE X (.Call (.Name x p) (e :: es) [] pos) (tCall sp dvs E t) := by
  obtain ⟨f, fd, ds, F, hm, hk, hb, hd⟩ := C
  exact pe_call F hr hg hm hk hb hd hx ha hdb he hpl
theorem g_cal {sp : Sp} {E : XK} {tr : TA} {σ : L2.St} {H : Hp} {Q : VK} (k : tr σ H fun vs H1 => sp vs H1 Q E) : tCal sp E tr σ H Q := k
theorem g_calN {sp : Sp} {E : XK} {tr tk : TA} {n m : Nat} {gV : List V → List V → List V} {σ : L2.St} {H : Hp} {Q : VK} (k : tr σ H fun vs H1 => tk σ H1 fun zs H2 => vs.length = n ∧ zs.length = m ∧ sp (gV vs zs) H2 Q E) : tCallN n m sp gV E tr tk σ H Q := k
theorem pe_calK (C : CalK X.prog X.w X.K X.mg X.base k x ps n ks gV sp) (hr : Room k X.A) (hx : Passes (L2.CX X.prog X.w) X E) (ha : PA X (e :: es) t) (hkw : PK X kws tk) (hg : Gl X x := by rfl)
    (hall : (backToKw pos (keywordEach kws X.env)).all (·.1.isSome) = true := by rfl) (hks : (backToKw pos (keywordEach kws X.env)).filterMap (·.1) = ks := by rfl)
    (hdb : (x == ("__debug__" : Str)) = false := by decide) (he : starEach (e :: es) X.env = (false, eval e X.env) :: starEach es X.env := by rfl)
    (hpl : ((backTo pos (starEach (e :: es) X.env)).any (·.1) || (backToKw pos (keywordEach kws X.env)).any (·.1.isNone)) = false := by rfl) :
    PE X (.Call (.Name x p) (e :: es) kws pos) (tCallN n ks.length sp gV E t tk) := by
  obtain ⟨f, fd, g, F, hm, hk, hb⟩ := C
  exact pe_callN F hr hg hm hk hb hx ha hkw hall hks hdb he hpl
theorem pe_calK0 (C : CalK X.prog X.w X.K X.mg X.base k x ps 0 ks gV sp) (hr : Room k X.A) (hx : Passes (L2.CX X.prog X.w) X E) (hkw : PK X kws tk) (hg : Gl X x := by rfl)
    (hall : (backToKw pos (keywordEach kws X.env)).all (·.1.isSome) = true := by rfl) (hks : (backToKw pos (keywordEach kws X.env)).filterMap (·.1) = ks := by rfl)
    (hdb : (x == ("__debug__" : Str)) = false := by decide)
    (hpl : ((backTo pos (starEach [] X.env)).any (·.1) || (backToKw pos (keywordEach kws X.env)).any (·.1.isNone)) = false := by rfl) :
    PE X (.Call (.Name x p) [] kws pos) (tCallN 0 ks.length sp gV E tNil tk) := by
  obtain ⟨f, fd, g, F, hm, hk, hb⟩ := C
  refine ⟨fun pins s σ H Q I h => ?_⟩
  refine wpAny_Call_Name_kw (ld_glob I hg hm ?_ hdb)
  refine PySem.W.callWith_KW0 (h₀ := X.base) I.ok.mod.kin hk hall ?_ hpl
  refine thn (hkw.run pos pins s σ H _ I h) fun ws s2 ⟨zs, H2, I2, rz, l1, l2, q2⟩ => ⟨I2.kIn, ?_⟩
  rw [hks]
  exact run_fnN (us := []) (vs := []) F hr hb hx I2 .nil rz rfl l2 q2
/-- a module's whole number -/
theorem pe_cst {i : Int} (hg : Gl X x) (hm : ∃ t, X.mg x = some (.int i t)) (hd : (x == ("__debug__" : Str)) = false := by decide) : PE X (.Name x pos) (tC (.int i)) := by
  obtain ⟨t, hm⟩ := hm
  exact pe_glob hg hm ⟨t, rfl⟩ hd
/-- a op1 b op2 c op3 d -/
def tChain3 (r r' r'' : R2) (ta tb tc td : TE) : TE := fun σ H Q => ta σ H fun x H1 => tb σ H1 fun y H2 => r x y H2 fun z H3 => ∃ k, z = .bl k ∧
  (if k = true then tc σ H3 fun w H4 => r' y w H4 fun z' H5 => ∃ k', z' = .bl k' ∧ (if k' = true then td σ H5 fun w' H6 => r'' w w' H6 Q else Q (.bl false) H5) else Q (.bl false) H3)
theorem pe_chain3 {op op' op'' : CmpOp} {r r' r'' : R2} {a b c d : Expr} {ta tb tc td : TE} (ho : OpR X (compareOp op) r) (ho' : OpR X (compareOp op') r') (ho'' : OpR X (compareOp op'') r'') (ha : PE X a ta) (hb : PE X b tb) (hc : PE X c tc) (hd : PE X d td)
    (hm : lastMarks [op, op', op''] [b, c, d] = false := by with_unfolding_all rfl) : PE X (.Compare a [op, op', op''] [b, c, d] pos) (tChain3 r r' r'' ta tb tc td) := by
  refine ⟨fun pins s σ H Q I h => ?_⟩
  refine Compare_chain (thn (ha.run pins s σ H _ I h) fun v s1 ⟨x, H1, I1, r1, q1⟩ => chain_link (thn (hb.run pins s1 σ H1 _ I1 q1) fun u s2 ⟨y, H2, I2, r2, q2⟩ =>
    thn (ho pins s2 σ H2 x y v u _ I2 r1 r2 q2) fun w s3 ⟨z, H3, I3, r3, k, e, q3⟩ => ?_)) hm
  subst e
  cases r3
  refine wpAny_truthy_bool ?_
  cases k with
  | false => exact ite_ff ⟨.bl false, H3, I3, rfl, q3⟩
  | true =>
    refine ite_tt (chain_link (thn (hc.run pins s3 σ H3 _ I3 q3) fun w' s4 ⟨z', H4, I4, r4, q4⟩ => thn (ho' pins s4 σ H4 y z' u w' _ I4 r2 r4 q4) fun w5 s5 ⟨z5, H5, I5, r5, k5, e5, q5⟩ => ?_))
    subst e5
    cases r5
    refine wpAny_truthy_bool ?_
    cases k5 with
    | false => exact ite_ff ⟨.bl false, H5, I5, rfl, q5⟩
    | true => exact ite_tt (chain_last (thn (hd.run pins s5 σ H5 _ I5 q5) fun w6 s6 ⟨z6, H6, I6, r6, q6⟩ => ho'' pins s6 σ H6 z' z6 w' w6 Q I6 r4 r6 q6))
theorem g_chain3 {σ : L2.St} {H : Hp} {Q : VK} {r r' r'' : R2} {ta tb tc td : TE} (k : ta σ H fun x H1 => tb σ H1 fun y H2 => r x y H2 fun z H3 => ∃ k, z = .bl k ∧
  (if k = true then tc σ H3 fun w H4 => r' y w H4 fun z' H5 => ∃ k', z' = .bl k' ∧ (if k' = true then td σ H5 fun w' H6 => r'' w w' H6 Q else Q (.bl false) H5) else Q (.bl false) H3)) : tChain3 r r' r'' ta tb tc td σ H Q := k
end
/-! ### loops -/
/-- what a for asks of the iterator J -/
def FORJ (J : It) (g : TG) (tb : TS) (D : Ends) (σ : L2.St) (H1 : Hp) : Prop := ∃ W : Nat → Nat → L2.St → Hp → Prop, (∃ m, W 0 m σ H1) ∧ ∀ i m σ H, W i m σ H →
  (J.stop i H ∧ D.nx σ H) ∨ (J.go i H ∧ ∃ N : L2.St → Hp → Prop, (∀ σ' H', N σ' H' → ∃ m', m' < m ∧ W (i + 1) m' σ' H') ∧ ∀ x H', J.yld i H x H' → g x σ H' fun σ2 H2 => tb { D with nx := N, ct := N, bk := D.nx } σ2 H2)
/-- what a comprehension asks -/
def LCJ (J : It) (g : TG) (tt : TT) (te : TE) (vs : List Nat) (σ : L2.St) (H1 : Hp) (Q : VK) : Prop := ∀ D, H1 D = none → ∃ W : Nat → Nat → Hp → Prop, (∃ m, W 0 m (upd H1 D (.lst []))) ∧ ∀ i m H, W i m H →
  (J.stop i H ∧ Q (.ref D) H) ∨ (J.go i H ∧ ∃ Nx : Hp → Prop, (∀ H', Nx H' → ∃ m', m' < m ∧ W (i + 1) m' H') ∧ ∀ x H', J.yld i H x H' → g x (wipe σ vs) H' fun σ2 H2 => wipe σ2 vs = wipe σ vs ∧ tt σ2 H2 fun b H3 =>
    if b = true then te σ2 H3 fun y H4 => ∃ acc, H4 D = some (.lst acc) ∧ acc.length < sizeLine ∧ Nx (upd H4 D (.lst (acc ++ [y]))) else Nx H3)
section
variable {K : PySem.W.Frag} {σ : L2.St} {G H : Hp} {L : List (Addr × HO)} {te ta : TE} {tt tc : TT} {tb : TS} {tr : TA} {g : TG} {wi : TI} {vs : List Nat} {Q : VK} {n b c : L2.St → Hp → Prop} {rt : VK} {a : Addr} {xs : List V}
theorem s_for (k : wi σ H fun J H1 => FORJ J g tb ⟨n, rt, b, c⟩ σ H1) : tFor wi g tb ⟨n, rt, b, c⟩ σ H := k
theorem g_lc (k : wi σ H fun J H1 => LCJ J g tt te vs σ H1 Q) : tLc wi g tt te vs σ H Q := k
theorem g_iList {R : It → Hp → Prop} (k : te σ H fun x H1 => ∃ a, x = .ref a ∧ (∃ xs, SqL K H1 a xs) ∧ R (Itl K a) H1) : iList K te σ H R := k
theorem g_iTup {R : It → Hp → Prop} (k : te σ H fun x H1 => ∃ a, x = .ref a ∧ (∃ xs, SqT K H1 a xs) ∧ R (Itt K a) H1) : iTup K te σ H R := k
theorem g_iRng1 {R : It → Hp → Prop} (k : tr σ H fun vs H1 => ∃ j : Int, vs = [.int j] ∧ -(2 ^ 62) ≤ j ∧ j < 2 ^ 62 ∧ R (Itr 0 j.toNat) H1) : iRng1 tr σ H R := k
theorem g_iRng2 {R : It → Hp → Prop} (k : tr σ H fun vs H1 => ∃ i j : Int, vs = [.int i, .int j] ∧ (-(2 ^ 62) ≤ i ∧ i < 2 ^ 62 ∧ -(2 ^ 62) ≤ j ∧ j < 2 ^ 62) ∧ R (Itr i (j - i).toNat) H1) : iRng2 tr σ H R := k
theorem g_iEnum {R : It → Hp → Prop} (k : tr σ H fun vs H1 => ∃ a xs, vs = [.ref a] ∧ SqL K H1 a xs ∧ R (Ite K a) H1) : iEnum K tr σ H R := k
theorem s_while (W : Nat → L2.St → Hp → Prop) (m0 : Nat) (h0 : W m0 σ H)
    (hs : ∀ m σ' H', W m σ' H' → tc σ' H' fun x H1 => if x = true then ∃ N : L2.St → Hp → Prop, (∀ σ2 H2, N σ2 H2 → ∃ m', m' < m ∧ W m' σ2 H2) ∧ tb ⟨N, rt, n, N⟩ σ' H1 else n σ' H1) : tWhile tc tb ⟨n, rt, b, c⟩ σ H :=
  ⟨W, ⟨m0, h0⟩, hs⟩
theorem s_turn {m : Nat} {W : Nat → L2.St → Hp → Prop} (k : tb ⟨fun σ2 H2 => ∃ m', m' < m ∧ W m' σ2 H2, rt, n, fun σ2 H2 => ∃ m', m' < m ∧ W m' σ2 H2⟩ σ H) :
    ∃ N : L2.St → Hp → Prop, (∀ σ2 H2, N σ2 H2 → ∃ m', m' < m ∧ W m' σ2 H2) ∧ tb ⟨N, rt, n, N⟩ σ H := ⟨_, fun _ _ h => h, k⟩
theorem w_list (Pv : Nat → L2.St → Hp → Prop) (hx : SqL K H a xs) (h0 : Pv 0 σ H) (hl : ∀ i σ H, Pv i σ H → SqL K H a xs)
    (hs : ∀ i x σ H, xs[i]? = some x → Pv i σ H → g x σ H fun σ2 H2 => tb ⟨Pv (i + 1), rt, n, Pv (i + 1)⟩ σ2 H2) (hd : ∀ σ H, Pv xs.length σ H → n σ H) :
    ∃ p, V.ref a = .ref p ∧ (∃ xs, SqL K H p xs) ∧ FORJ (Itl K p) g tb ⟨n, rt, b, c⟩ σ H := ⟨a, rfl, ⟨xs, hx⟩, for_list Pv h0 (fun i σ H _ p => hl i σ H p) hs hd⟩
theorem w_tup (Pv : Nat → L2.St → Hp → Prop) (hx : SqT K H a xs) (h0 : Pv 0 σ H) (hl : ∀ i σ H, Pv i σ H → SqT K H a xs)
    (hs : ∀ i x σ H, xs[i]? = some x → Pv i σ H → g x σ H fun σ2 H2 => tb ⟨Pv (i + 1), rt, n, Pv (i + 1)⟩ σ2 H2) (hd : ∀ σ H, Pv xs.length σ H → n σ H) :
    ∃ p, V.ref a = .ref p ∧ (∃ xs, SqT K H p xs) ∧ FORJ (Itt K p) g tb ⟨n, rt, b, c⟩ σ H := ⟨a, rfl, ⟨xs, hx⟩, for_tup Pv h0 (fun i σ H _ p => hl i σ H p) hs hd⟩
theorem w_rng1 {j : Int} (Pv : Nat → L2.St → Hp → Prop) (hj : -(2 ^ 62) ≤ j ∧ j < 2 ^ 62) (h0 : Pv 0 σ H)
    (hs : ∀ (i : Nat) σ H, (i : Int) < j → Pv i σ H → g (.int (i : Int)) σ H fun σ2 H2 => tb ⟨Pv (i + 1), rt, n, Pv (i + 1)⟩ σ2 H2) (hd : ∀ σ H, Pv j.toNat σ H → n σ H) :
    ∃ j' : Int, [V.int j] = [.int j'] ∧ -(2 ^ 62) ≤ j' ∧ j' < 2 ^ 62 ∧ FORJ (Itr 0 j'.toNat) g tb ⟨n, rt, b, c⟩ σ H :=
  ⟨j, rfl, hj.1, hj.2, for_range (lo := 0) Pv h0 (fun i σ H hi p => by
    have e : (0 : Int) + (i : Int) = (i : Int) := Int.zero_add _
    rw [e]
    exact hs i σ H (by omega) p) hd⟩
theorem w_rng2 {lo j : Int} (Pv : Nat → L2.St → Hp → Prop) (hj : -(2 ^ 62) ≤ lo ∧ lo < 2 ^ 62 ∧ -(2 ^ 62) ≤ j ∧ j < 2 ^ 62) (h0 : Pv 0 σ H)
    (hs : ∀ (i : Nat) σ H, lo + (i : Int) < j → Pv i σ H → g (.int (lo + (i : Int))) σ H fun σ2 H2 => tb ⟨Pv (i + 1), rt, n, Pv (i + 1)⟩ σ2 H2) (hd : ∀ σ H, Pv (j - lo).toNat σ H → n σ H) :
    ∃ i' j' : Int, [V.int lo, V.int j] = [.int i', .int j'] ∧ (-(2 ^ 62) ≤ i' ∧ i' < 2 ^ 62 ∧ -(2 ^ 62) ≤ j' ∧ j' < 2 ^ 62) ∧ FORJ (Itr i' (j' - i').toNat) g tb ⟨n, rt, b, c⟩ σ H :=
  ⟨lo, j, rfl, hj, for_range (lo := lo) Pv h0 (fun i σ H hi p => hs i σ H (by omega) p) hd⟩
/-- over enumerate(a list): each turn's pair is a new tuple -/
theorem w_enum (Pv : Nat → L2.St → Hp → Prop) (hx : SqL K H a xs) (h0 : Pv 0 σ H) (hl : ∀ i σ H, Pv i σ H → SqL K H a xs)
    (hs : ∀ (i : Nat) x T σ H, xs[i]? = some x → Pv i σ H → H T = none → g (.ref T) σ (upd H T (.tup [.int (i : Int), x])) fun σ2 H2 => tb ⟨Pv (i + 1), rt, n, Pv (i + 1)⟩ σ2 H2) (hd : ∀ σ H, Pv xs.length σ H → n σ H) :
    ∃ p xs, [V.ref a] = [.ref p] ∧ SqL K H p xs ∧ FORJ (Ite K p) g tb ⟨n, rt, b, c⟩ σ H := by
  refine ⟨a, xs, rfl, hx, fun i m σ H => m = xs.length - i ∧ i ≤ xs.length ∧ Pv i σ H, ⟨xs.length, rfl, Nat.zero_le _, h0⟩, ?_⟩
  rintro i m σ H ⟨rfl, hi, p⟩
  have q := hl i σ H p
  by_cases hlt : i < xs.length
  · refine .inr ⟨⟨xs, xs[i], q, by simp [hlt]⟩, Pv (i + 1), fun σ' H' p' => ⟨xs.length - (i + 1), by omega, rfl, hlt, p'⟩, fun v H' y => ?_⟩
    obtain ⟨T, x, rfl, hT, rfl, hxx⟩ := y
    exact hs i x T σ H (hxx xs q) p hT
  · have e : i = xs.length := by omega
    subst e
    exact .inl ⟨⟨xs, q, Nat.le_refl _⟩, hd _ _ p⟩
/-! ### comprehensions: F says what holds behind i turns of what has been given (acc) and of what may be changed -/
def CP (G : Hp) (D : Addr) (F : Nat → List V → Hp → List (Addr × HO) → Prop) (i : Nat) (H : Hp) : Prop := ∃ acc G1 L1, Ex G G1 ∧ acc.length ≤ i ∧ F i acc G1 L1 ∧ Own G1 ((D, .lst acc) :: L1) H
def CE (G : Hp) (D : Addr) (F : Nat → List V → Hp → List (Addr × HO) → Prop) (i : Nat) (y : V) (H : Hp) : Prop := ∃ acc, H D = some (.lst acc) ∧ acc.length < sizeLine ∧ CP G D F (i + 1) (upd H D (.lst (acc ++ [y])))
theorem c_yes {F : Nat → List V → Hp → List (Addr × HO) → Prop} {D : Addr} {i : Nat} {acc : List V} {G1 : Hp} {L1 : List (Addr × HO)} {y : V} (S : Own G1 ((D, .lst acc) :: L1) H) (e : Ex G G1) (hl : acc.length ≤ i) (hi : i < 1000000) (f : F (i + 1) (acc ++ [y]) G1 L1) : CE G D F i y H :=
  ⟨acc, S.get0, Nat.lt_of_le_of_lt hl (Nat.lt_trans hi (by decide)), acc ++ [y], G1, L1, e, by rw [List.length_append]; exact Nat.succ_le_succ hl, f, S.put0⟩
theorem c_no {F : Nat → List V → Hp → List (Addr × HO) → Prop} {D : Addr} {i : Nat} {acc : List V} {G1 : Hp} {L1 : List (Addr × HO)} (S : Own G1 ((D, .lst acc) :: L1) H) (e : Ex G G1) (hl : acc.length ≤ i) (f : F (i + 1) acc G1 L1) : CP G D F (i + 1) H :=
  ⟨acc, G1, L1, e, Nat.le_succ_of_le hl, f, S⟩
theorem v_list (F : Nat → List V → Hp → List (Addr × HO) → Prop) (S : Own G L H) (hx : SqL K G a xs) (hz : xs.length ≤ 1000000) (h0 : F 0 [] G L)
    (hs : ∀ D i x acc G1 L1 H1, xs[i]? = some x → i < 1000000 → Ex G G1 → acc.length ≤ i → F i acc G1 L1 → Own G1 ((D, .lst acc) :: L1) H1 → g x (wipe σ vs) H1 fun σ2 H2 => wipe σ2 vs = wipe σ vs ∧ tt σ2 H2 fun b H3 =>
      if b = true then te σ2 H3 fun y H4 => CE G D F i y H4 else CP G D F (i + 1) H3)
    (hd : ∀ p acc G1 L1 H1, Ex G G1 → acc.length ≤ xs.length → F xs.length acc G1 L1 → Own G1 ((p, .lst acc) :: L1) H1 → Q (.ref p) H1) :
    ∃ p, V.ref a = .ref p ∧ (∃ xs, SqL K H p xs) ∧ LCJ (Itl K p) g tt te vs σ H Q :=
  ⟨a, rfl, ⟨xs, S.sl hx⟩, fun D hD => lc_list (K := K) (a := a) (xs := xs) (CP G D F) ⟨[], G, L, Ex.refl G, Nat.le_refl _, h0, S.lay hD⟩ (fun i H1 _ ⟨acc, G1, L1, e, _, _, S1⟩ => S1.sl (ex_l e hx))
    (fun i x H1 hi ⟨acc, G1, L1, e, hl, f, S1⟩ => hs D i x acc G1 L1 H1 hi (Nat.lt_of_lt_of_le (List.getElem?_eq_some_iff.mp hi).1 hz) e hl f S1) (fun H1 ⟨acc, G1, L1, e, hl, f, S1⟩ => hd D acc G1 L1 H1 e hl f S1)⟩
theorem v_tup (F : Nat → List V → Hp → List (Addr × HO) → Prop) (S : Own G L H) (hx : SqT K G a xs) (hz : xs.length ≤ 1000000) (h0 : F 0 [] G L)
    (hs : ∀ D i x acc G1 L1 H1, xs[i]? = some x → i < 1000000 → Ex G G1 → acc.length ≤ i → F i acc G1 L1 → Own G1 ((D, .lst acc) :: L1) H1 → g x (wipe σ vs) H1 fun σ2 H2 => wipe σ2 vs = wipe σ vs ∧ tt σ2 H2 fun b H3 =>
      if b = true then te σ2 H3 fun y H4 => CE G D F i y H4 else CP G D F (i + 1) H3)
    (hd : ∀ p acc G1 L1 H1, Ex G G1 → acc.length ≤ xs.length → F xs.length acc G1 L1 → Own G1 ((p, .lst acc) :: L1) H1 → Q (.ref p) H1) :
    ∃ p, V.ref a = .ref p ∧ (∃ xs, SqT K H p xs) ∧ LCJ (Itt K p) g tt te vs σ H Q :=
  ⟨a, rfl, ⟨xs, S.st hx⟩, fun D hD => lc_tup (K := K) (a := a) (xs := xs) (CP G D F) ⟨[], G, L, Ex.refl G, Nat.le_refl _, h0, S.lay hD⟩ (fun i H1 _ ⟨acc, G1, L1, e, _, _, S1⟩ => S1.st (ex_t e hx))
    (fun i x H1 hi ⟨acc, G1, L1, e, hl, f, S1⟩ => hs D i x acc G1 L1 H1 hi (Nat.lt_of_lt_of_le (List.getElem?_eq_some_iff.mp hi).1 hz) e hl f S1) (fun H1 ⟨acc, G1, L1, e, hl, f, S1⟩ => hd D acc G1 L1 H1 e hl f S1)⟩
theorem v_rng1 {j : Int} (F : Nat → List V → Hp → List (Addr × HO) → Prop) (S : Own G L H) (hj : 0 ≤ j ∧ j ≤ 1000000) (h0 : F 0 [] G L)
    (hs : ∀ D (i : Nat) acc G1 L1 H1, (i : Int) < j → i < 1000000 → Ex G G1 → acc.length ≤ i → F i acc G1 L1 → Own G1 ((D, .lst acc) :: L1) H1 → g (.int (i : Int)) (wipe σ vs) H1 fun σ2 H2 => wipe σ2 vs = wipe σ vs ∧ tt σ2 H2 fun b H3 =>
      if b = true then te σ2 H3 fun y H4 => CE G D F i y H4 else CP G D F (i + 1) H3)
    (hd : ∀ p acc G1 L1 H1, Ex G G1 → acc.length ≤ j.toNat → F j.toNat acc G1 L1 → Own G1 ((p, .lst acc) :: L1) H1 → Q (.ref p) H1) :
    ∃ j' : Int, [V.int j] = [.int j'] ∧ -(2 ^ 62) ≤ j' ∧ j' < 2 ^ 62 ∧ LCJ (Itr 0 j'.toNat) g tt te vs σ H Q :=
  ⟨j, rfl, by omega, by omega, fun D hD => lc_range (lo := 0) (n := j.toNat) (CP G D F) ⟨[], G, L, Ex.refl G, Nat.le_refl _, h0, S.lay hD⟩
    (fun i H1 hi ⟨acc, G1, L1, e, hl, f, S1⟩ => by
      have z : (0 : Int) + (i : Int) = (i : Int) := Int.zero_add _
      rw [z]
      exact hs D i acc G1 L1 H1 (by omega) (by omega) e hl f S1) (fun H1 ⟨acc, G1, L1, e, hl, f, S1⟩ => hd D acc G1 L1 H1 e hl f S1)⟩
theorem v_rng2 {lo j : Int} (F : Nat → List V → Hp → List (Addr × HO) → Prop) (S : Own G L H) (hj : -1000 ≤ lo ∧ lo ≤ 1000000 ∧ -1000 ≤ j ∧ j ≤ 900000) (h0 : F 0 [] G L)
    (hs : ∀ D (i : Nat) acc G1 L1 H1, lo + (i : Int) < j → i < 1000000 → Ex G G1 → acc.length ≤ i → F i acc G1 L1 → Own G1 ((D, .lst acc) :: L1) H1 → g (.int (lo + (i : Int))) (wipe σ vs) H1 fun σ2 H2 => wipe σ2 vs = wipe σ vs ∧ tt σ2 H2 fun b H3 =>
      if b = true then te σ2 H3 fun y H4 => CE G D F i y H4 else CP G D F (i + 1) H3)
    (hd : ∀ p acc G1 L1 H1, Ex G G1 → acc.length ≤ (j - lo).toNat → F (j - lo).toNat acc G1 L1 → Own G1 ((p, .lst acc) :: L1) H1 → Q (.ref p) H1) :
    ∃ i' j' : Int, [V.int lo, V.int j] = [.int i', .int j'] ∧ (-(2 ^ 62) ≤ i' ∧ i' < 2 ^ 62 ∧ -(2 ^ 62) ≤ j' ∧ j' < 2 ^ 62) ∧ LCJ (Itr i' (j' - i').toNat) g tt te vs σ H Q :=
  ⟨lo, j, rfl, ⟨by omega, by omega, by omega, by omega⟩, fun D hD => lc_range (lo := lo) (n := (j - lo).toNat) (CP G D F) ⟨[], G, L, Ex.refl G, Nat.le_refl _, h0, S.lay hD⟩
    (fun i H1 hi ⟨acc, G1, L1, e, hl, f, S1⟩ => hs D i acc G1 L1 H1 (by omega) (by omega) e hl f S1) (fun H1 ⟨acc, G1, L1, e, hl, f, S1⟩ => hd D acc G1 L1 H1 e hl f S1)⟩
theorem g_yes {Q : Bool → Hp → Prop} (k : Q true H) : tYes σ H Q := k
end
/-! ### tests -/
theorem if_tt {c : Bool} {A B : Prop} (e : c = true) (h : A) : if c = true then A else B := by rw [if_pos e]; exact h
theorem if_ff {c : Bool} {A B : Prop} (e : c = false) (h : B) : if c = true then A else B := by rw [if_neg (by rw [e]; exact Bool.false_ne_true)]; exact h
theorem if_2 {c : Bool} {A B : Prop} (h1 : c = true → A) (h2 : c = false → B) : if c = true then A else B := by
  cases c with
  | true => exact if_tt rfl (h1 rfl)
  | false => exact if_ff rfl (h2 rfl)
theorem dtrue' {p : Prop} [Decidable p] (h : p) : decide p = true := decide_eq_true h
theorem dfalse' {p : Prop} [Decidable p] (h : ¬p) : decide p = false := decide_eq_false h
theorem if_nt {A B : Prop} (h : B) : if (!true) = true then A else B := if_ff rfl h
theorem if_nf {A B : Prop} (h : A) : if (!false) = true then A else B := if_tt rfl h
theorem ntrue {p : Prop} [Decidable p] (h : p) : (!decide p) = false := by rw [dtrue' h]; rfl
theorem nfalse {p : Prop} [Decidable p] (h : ¬p) : (!decide p) = true := by rw [dfalse' h]; rfl
theorem dtrue {p : Prop} [Decidable p] (h : p) : decide p = true := decide_eq_true h
theorem dfalse {p : Prop} [Decidable p] (h : ¬p) : decide p = false := decide_eq_false h
theorem small {n : Nat} (h : n ≤ 10000000) : n ≤ sizeLine := Nat.le_trans h (by decide)
theorem smallL {n : Nat} (h : n ≤ 10000000) : n < sizeLine := Nat.lt_of_le_of_lt h (by decide)
section
variable {K : PySem.W.Frag} {G H : Hp} {L : List (Addr × HO)} {p : Addr} {xs : List V} {v : V} {Q : VK}
/-- a new list | a new tuple has been laid -/
theorem n_lst (S : Own G L H) (hz : xs.length ≤ 10000000) (k : ∀ p H1, H p = none → Own G ((p, .lst xs) :: L) H1 → Q (.ref p) H1) : NewL xs H Q :=
  ⟨small hz, fun p hp => k p _ hp (S.lay hp)⟩
/-- a new object stands still from now on -/
theorem Own.still {o : HO} (S : Own G L H) (hp : H p = none) : Own (upd G p o) L (upd H p o) ∧ Ex G (upd G p o) ∧ upd G p o p = some o :=
  ⟨⟨fun a u h => by
      by_cases e : a = p
      · subst e
        rw [upd_same] at h ⊢
        exact h
      · rw [upd_ne e] at h ⊢
        exact S.ex _ _ h, fun x hx => by
      have ne : x.1 ≠ p := fun e => S.fresh hp (e ▸ List.mem_map_of_mem hx)
      rw [upd_ne ne, upd_ne ne]
      exact S.at_ x hx, S.nd, S.nt⟩, Ex.new (fresh_back S.ex hp), upd_same⟩
theorem n_tup (S : Own G L H) (hz : xs.length ≤ 10000000) (k : ∀ p G1 H1, H p = none → Ex G G1 → Ex H H1 → G1 p = some (.tup xs) → Own G1 L H1 → Q (.ref p) H1) : NewT xs H Q :=
  ⟨small hz, fun p hp => k p _ _ hp (S.still hp).2.1 (Ex.new hp) (S.still hp).2.2 (S.still hp).1⟩
/-- a new list that is only read from now on -/
theorem n_lstG (S : Own G L H) (hz : xs.length ≤ 10000000) (k : ∀ p G1 H1, H p = none → Ex G G1 → Ex H H1 → G1 p = some (.lst xs) → Own G1 L H1 → Q (.ref p) H1) : NewL xs H Q :=
  ⟨small hz, fun p hp => k p _ _ hp (S.lay hp).freeze.2.1 (Ex.new hp) (S.lay hp).freeze.2.2 (S.lay hp).freeze.1⟩
/-- list(range(a, b)) -/
theorem n_rg {a b : Int} (S : Own G L H) (h : -1000 ≤ a ∧ a ≤ 1000000 ∧ -1000 ≤ b ∧ b ≤ 1000000) (k : ∀ p H1, H p = none → Own G ((p, .lst (rgV a b)) :: L) H1 → Q (.ref p) H1) : NewR a b H Q :=
  ⟨⟨by omega, by omega, by omega, by omega, by omega⟩, fun p hp => k p _ hp (S.lay hp)⟩
theorem n_rgG {a b : Int} (S : Own G L H) (h : -1000 ≤ a ∧ a ≤ 1000000 ∧ -1000 ≤ b ∧ b ≤ 1000000) (k : ∀ p G1 H1, H p = none → Ex G G1 → Ex H H1 → G1 p = some (.lst (rgV a b)) → Own G1 L H1 → Q (.ref p) H1) : NewR a b H Q :=
  ⟨⟨by omega, by omega, by omega, by omega, by omega⟩, fun p hp => k p _ _ hp (S.lay hp).freeze.2.1 (Ex.new hp) (S.lay hp).freeze.2.2 (S.lay hp).freeze.1⟩
theorem g_lrg {te : L2.St → Hp → (Int → Int → Hp → Prop) → Prop} {σ : L2.St} (k : te σ H fun a b H1 => NewR a b H1 Q) : tLstRg te σ H Q := k
theorem g_rg1 {ta : TE} {σ : L2.St} {R : Int → Int → Hp → Prop} (k : ta σ H fun x H1 => ∃ n, x = .int n ∧ R 0 n H1) : tRg1 ta σ H R := k
theorem g_rg2 {ta tb : TE} {σ : L2.St} {R : Int → Int → Hp → Prop} (k : ta σ H fun x H1 => tb σ H1 fun y H2 => ∃ i j, x = .int i ∧ y = .int j ∧ R i j H2) : tRg2 ta tb σ H R := k
theorem g_ex2I {i j : Int} {R : Int → Int → Prop} (k : R i j) : ∃ i' j', V.int i = .int i' ∧ V.int j = .int j' ∧ R i' j' := ⟨i, j, rfl, rfl, k⟩
/-- len(a list) -/
theorem n_len (h : SqL K H p xs) (k : Q (.int xs.length) H) : Evl.rLenS K [.ref p] H Q := ⟨p, xs, rfl, .inl h, k⟩
theorem n_lenT (h : SqT K H p xs) (k : Q (.int xs.length) H) : Evl.rLenS K [.ref p] H Q := ⟨p, xs, rfl, .inr h, k⟩
theorem n_int {i : Int} (k : Q (.int i) H) : rInt1 [.int i] H Q := .inl ⟨i, rfl, k⟩
theorem n_intB {b : Bool} (k : Q (.int (if b then 1 else 0)) H) : rInt1 [.bl b] H Q := .inr ⟨b, rfl, k⟩
theorem n_min {i j : Int} (k : Q (.int (min i j)) H) : rMin2 [.int i, .int j] H Q := ⟨i, j, rfl, by
  have e : (if j < i then j else i) = min i j := by split <;> omega
  rw [e]; exact k⟩
theorem n_max {i j : Int} (k : Q (.int (max i j)) H) : rMax2 [.int i, .int j] H Q := ⟨i, j, rfl, by
  have e : (if j > i then j else i) = max i j := by split <;> omega
  rw [e]; exact k⟩
/-- list(a list), tuple(a list) -/
theorem n_list (S : Own G L H) (h : SqL K H p xs) (k : ∀ p H1, H p = none → Own G ((p, .lst xs) :: L) H1 → Q (.ref p) H1) : Evl.rListS K [.ref p] H Q := ⟨p, xs, rfl, .inl h, fun p hp => k p _ hp (S.lay hp)⟩
theorem n_listT (S : Own G L H) (h : SqT K H p xs) (k : ∀ p H1, H p = none → Own G ((p, .lst xs) :: L) H1 → Q (.ref p) H1) : Evl.rListS K [.ref p] H Q := ⟨p, xs, rfl, .inr h, fun p hp => k p _ hp (S.lay hp)⟩
theorem n_tupL (S : Own G L H) (h : SqL K H p xs) (k : ∀ p G1 H1, H p = none → Ex G G1 → Ex H H1 → G1 p = some (.tup xs) → Own G1 L H1 → Q (.ref p) H1) : rTupS K [.ref p] H Q :=
  ⟨p, xs, rfl, .inl ⟨h, fun p hp => k p _ _ hp (S.still hp).2.1 (Ex.new hp) (S.still hp).2.2 (S.still hp).1⟩⟩
theorem n_isN (k : Q (.bl (decide (v = .non))) H) : rIsN v .non H Q := ⟨rfl, k⟩
theorem n_notN (k : Q (.bl (!decide (v = .non))) H) : rNotN v .non H Q := ⟨rfl, k⟩
/-- xs.append(v), the list at the head of what may be changed -/
theorem n_app (S : Own G ((p, .lst xs) :: L) H) (hz : xs.length ≤ 1000000) (k : ∀ H1, Own G ((p, .lst (xs ++ [v])) :: L) H1 → Q .non H1) : rAppend (.ref p) [v] H Q :=
  ⟨p, xs, v, rfl, rfl, S.get0, smallL (Nat.le_trans hz (by decide)), k _ S.put0⟩
theorem n_app1 {q : Addr} {o : HO} (S : Own G ((q, o) :: (p, .lst xs) :: L) H) (hz : xs.length ≤ 1000000) (k : ∀ H1, Own G ((q, o) :: (p, .lst (xs ++ [v])) :: L) H1 → Q .non H1) : rAppend (.ref p) [v] H Q :=
  ⟨p, xs, v, rfl, rfl, S.get1, smallL (Nat.le_trans hz (by decide)), k _ S.put1⟩
theorem n_app2 {q r : Addr} {o o2 : HO} (S : Own G ((r, o2) :: (q, o) :: (p, .lst xs) :: L) H) (hz : xs.length ≤ 1000000) (k : ∀ H1, Own G ((r, o2) :: (q, o) :: (p, .lst (xs ++ [v])) :: L) H1 → Q .non H1) : rAppend (.ref p) [v] H Q :=
  ⟨p, xs, v, rfl, rfl, S.get2, smallL (Nat.le_trans hz (by decide)), k _ S.put2⟩
/-- append to the j-th of what may be changed -/
theorem n_appM {j : Nat} (S : Own G L H) (h : L[j]? = some (p, .lst xs)) (hz : xs.length ≤ 1000000) (k : ∀ H1, Own G (L.set j (p, .lst (xs ++ [v]))) H1 → Q .non H1) : rAppend (.ref p) [v] H Q :=
  ⟨p, xs, v, rfl, rfl, S.getM (List.mem_of_getElem? h), smallL (Nat.le_trans hz (by decide)), k _ (S.putM h)⟩
theorem cutV_to (xs : List V) (i : Nat) : cutV xs none (some (i : Int)) = xs.take i := by
  unfold cutV
  rw [HT.sIx_none, HT.sIx_nat, List.drop_zero, Nat.sub_zero]
  by_cases h : i ≤ xs.length
  · rw [Nat.min_eq_left h]
  · rw [Nat.min_eq_right (by omega), List.take_length, List.take_of_length_le (by omega)]
theorem cutV_from (xs : List V) (i : Nat) : cutV xs (some (i : Int)) none = xs.drop i := by
  unfold cutV
  rw [HT.sIx_none, HT.sIx_nat]
  by_cases h : i ≤ xs.length
  · rw [Nat.min_eq_left h]
    exact List.take_of_length_le (by rw [List.length_drop]; omega)
  · rw [Nat.min_eq_right (by omega), List.drop_length, List.drop_of_length_le (by omega), List.take_nil]
theorem cutV_all (xs : List V) : cutV xs none none = xs := by
  unfold cutV
  rw [HT.sIx_none, HT.sIx_none, List.drop_zero, Nat.sub_zero, List.take_length]
/-- xs[lo:hi] of a list, read from now on -/
theorem n_sl {lo hi : Option Int} (S : Own G L H) (h : SqL K H p xs) (k : ∀ p G1 H1, H p = none → Ex G G1 → Ex H H1 → G1 p = some (.lst (cutV xs lo hi)) → Own G1 L H1 → Q (.ref p) H1) : rSlL K (.ref p) lo hi H Q :=
  ⟨p, xs, rfl, h, fun p hp => k p _ _ hp (S.still hp).2.1 (Ex.new hp) (S.still hp).2.2 (S.still hp).1⟩
theorem n_slL {lo hi : Option Int} (S : Own G L H) (h : SqL K H p xs) (k : ∀ p H1, H p = none → Own G ((p, .lst (cutV xs lo hi)) :: L) H1 → Q (.ref p) H1) : rSlL K (.ref p) lo hi H Q :=
  ⟨p, xs, rfl, h, fun p hp => k p _ hp (S.lay hp)⟩
theorem tyL (h : SqL K H p xs) : tyV K "list" (.ref p) H := .inl ⟨rfl, xs, h⟩
theorem Own.l0 (S : Own G ((p, .lst xs) :: L) H) : SqL K H p xs := SqL.of S.get0
theorem Own.l1 {q : Addr} {o : HO} (S : Own G ((q, o) :: (p, .lst xs) :: L) H) : SqL K H p xs := SqL.of S.get1
theorem Own.l2 {q r : Addr} {o o2 : HO} (S : Own G ((r, o2) :: (q, o) :: (p, .lst xs) :: L) H) : SqL K H p xs := SqL.of S.get2
end
/-! ### attributes -/
def GETF (K : PySem.W.Frag) (x : V) (f : Str) (H : Hp) (Q : VK) : Prop := ∃ a C dx fs v, x = .ref a ∧ H a = some (.ins C dx fs) ∧ Cls K C ∧ NoAttr K C f ∧ fs.lookup f = some v ∧ Q v H
def SETF (K : PySem.W.Frag) (x : V) (f : Str) (y : V) (H : Hp) (R : Hp → Prop) : Prop := ∃ a C dx fs, x = .ref a ∧ H a = some (.ins C dx fs) ∧ Cls K C ∧ NoAttr K C f ∧ fs.length < 1000 ∧ R (upd H a (.ins C dx (putF f y fs)))
section
variable {K : PySem.W.Frag} {σ : L2.St} {G H : Hp} {L : List (Addr × HO)} {ta tv : TE} {f : Str} {Q : VK} {n b c : L2.St → Hp → Prop} {rt : VK} {a C dx : Addr} {fs : List (Str × V)} {v y : V}
theorem g_fld (k : ta σ H fun x H1 => GETF K x f H1 Q) : tFld K ta f σ H Q := k
theorem s_fld (k : tv σ H fun y H1 => ta σ H1 fun x H2 => SETF K x f y H2 (n σ)) : sFld K ta tv f ⟨n, rt, b, c⟩ σ H := k
theorem n_fld (h : H a = some (.ins C dx fs)) (c : Cls K C) (n : NoAttr K C f) (l : fs.lookup f = some v) (k : Q v H) : GETF K (.ref a) f H Q := ⟨a, C, dx, fs, v, rfl, h, c, n, l, k⟩
theorem n_setF {R : Hp → Prop} (S : Own G ((a, .ins C dx fs) :: L) H) (c : Cls K C) (n : NoAttr K C f) (hl : fs.length < 1000) (k : ∀ H1, Own G ((a, .ins C dx (putF f y fs)) :: L) H1 → R H1) : SETF K (.ref a) f y H R := ⟨a, C, dx, fs, rfl, S.get0, c, n, hl, k _ S.put0⟩
end
/-! ### list + list, also of lists that are only known -/
def rCatL (K : PySem.W.Frag) : R2 := fun x y H Q => ∃ l b xs zs, x = .ref l ∧ y = .ref b ∧ SqL K H l xs ∧ SqL K H b zs ∧ xs.length + zs.length ≤ sizeLine ∧ ∀ p, H p = none → Q (.ref p) (upd H p (.lst (xs ++ zs)))
theorem op_catL {X : Cx} : OpR X (binaryOp .Add) (rCatL X.K) := by
  intro pins s σ H x y v u Q I rx ry h
  obtain ⟨l, b, xs, zs, rfl, rfl, hH, hB, hz, q⟩ := h
  cases rx
  cases ry
  obtain ⟨its, r, hl, h1⟩ := I.list hH
  obtain ⟨its2, r2, hb, h2⟩ := I.list hB
  obtain ⟨⟨cls, dd, data, sl⟩, ho, hc, n, hd⟩ := id hl.isList
  obtain ⟨⟨cls2, dd2, data2, sl2⟩, ho2, hc2, n2, hd2⟩ := id hb.isList
  simp only at hc hd hc2 hd2
  subst hc hd hc2 hd2
  have e : its.toArray ++ its2.toArray = (its ++ its2).toArray := by simp
  have hl1 := r.length
  have hl2 := r2.length
  refine concat_meets ⟨_, ho, rfl⟩ ⟨_, ho2, rfl⟩ noFill_list_add seq_list_add PySem.F.slot_list_add PySem.F.entry_list_add (PySem.F.args_list_add_2 _ _) (list_addW l b its.toArray its2.toArray n n2 dd dd2 sl sl2 (by simp; omega)) ⟨ho, ho2, ?_⟩
  rw [e]
  exact ⟨.ref _, _, I.lnew (t' := s.toks) (r.append r2) (by rw [List.length_append]; exact hz), rfl, q _ I.fresh⟩
theorem n_cat {K : PySem.W.Frag} {G H : Hp} {L : List (Addr × HO)} {l b : Addr} {xs zs : List V} {Q : VK} (S : Own G L H) (hx : SqL K H l xs) (hz : SqL K H b zs) (h : xs.length + zs.length ≤ 10000000) (k : ∀ p H1, H p = none → Own G ((p, .lst (xs ++ zs)) :: L) H1 → Q (.ref p) H1) : rCatL K (.ref l) (.ref b) H Q :=
  ⟨l, b, xs, zs, rfl, rfl, hx, hz, small h, fun p hp => k p _ hp (S.lay hp)⟩
theorem n_catG {K : PySem.W.Frag} {G H : Hp} {L : List (Addr × HO)} {l b : Addr} {xs zs : List V} {Q : VK} (S : Own G L H) (hx : SqL K H l xs) (hz : SqL K H b zs) (h : xs.length + zs.length ≤ 10000000) (k : ∀ p G1 H1, H p = none → Ex G G1 → Ex H H1 → G1 p = some (.lst (xs ++ zs)) → Own G1 L H1 → Q (.ref p) H1) : rCatL K (.ref l) (.ref b) H Q :=
  ⟨l, b, xs, zs, rfl, rfl, hx, hz, small h, fun p hp => k p _ _ hp (S.still hp).2.1 (Ex.new hp) (S.still hp).2.2 (S.still hp).1⟩
/-! ### methods, new instances -/
/-- the method m of the class at C -/
def Mth (P : Program) (w : World) (K : PySem.W.Frag) (mg : Str → Option Value) (base : Heap) (k : Nat) (C : Addr) (m : Str) (ps : List Str) (sp : Sp) : Prop :=
  ∃ (f : Addr) (fd : FuncData), Meth K C m f ∧ FnOk P w K mg base (L2.CX P w) k f fd ps sp ∧ Binds K fd ps []
/-- the class x at C, made by an __init__ that keeps sp -/
def Cnw (P : Program) (w : World) (K : PySem.W.Frag) (mg : Str → Option Value) (base : Heap) (k : Nat) (x : Str) (C : Addr) (ps : List Str) (sp : Sp) : Prop :=
  ∃ (f : Addr) (fd : FuncData), Mk K C f ∧ FnOk P w K mg base (L2.CX P w) k f fd ps sp ∧ mg x = some (.ref C) ∧ Binds K fd ps []
def INS (C : Addr) (m : Str) (x : V) (H : Hp) : Prop := ∃ a dx fs, x = .ref a ∧ H a = some (.ins C dx fs) ∧ fs.lookup m = none
def tMth (C : Addr) (m : Str) (sp : Sp) (E : XK) (ta : TE) (t : TA) : TE := fun σ H Q => ta σ H fun x H1 => INS C m x H1 ∧ t σ H1 fun vs H2 => sp (x :: vs) H2 Q E
def MAKE (C : Addr) (sp : Sp) (E : XK) (vs : List V) (H1 : Hp) (Q : VK) : Prop := ∀ x dx, H1 x = none → H1 dx = none → dx ≠ x → sp (.ref x :: vs) (upd (upd H1 dx (.own x)) x (.ins C dx [])) (fun v H2 => v = .non ∧ Q (.ref x) H2) E
def tNew (C : Addr) (sp : Sp) (E : XK) (t : TA) : TE := fun σ H Q => t σ H fun vs H1 => MAKE C sp E vs H1 Q
section
variable {X : Cx} {k : Nat} {C : Addr} {m x : Str} {ps : List Str} {sp : Sp} {E : XK} {o e : Expr} {es : List Expr} {ta : TE} {t : TA} {p apos pos : Pos}
theorem pe_mth {pl : Sem Bool} (he : PE X o ta) (M : Mth X.prog X.w X.K X.mg X.base k C m ps sp) (c : Cls X.K C) (hr : Room k X.A) (hx : Passes (L2.CX X.prog X.w) X E) (ha : PA X (e :: es) t)
    (ht : eval (.Call (.Attribute o m apos) (e :: es) [] pos) X.env = (do
      let ov ← eval o X.env
      standAt apos.atName
      let (f, first) ← holding [ov] (getMethod ov m pl)
      callWith pos f first (backTo pos (starEach (e :: es) X.env)) (backToKw pos (keywordEach [] X.env))) := by rfl)
    (hst : starEach (e :: es) X.env = (false, eval e X.env) :: starEach es X.env := by rfl) (hpl : (backTo pos (starEach es X.env)).any (·.1) = false := by rfl) :
    PE X (.Call (.Attribute o m apos) (e :: es) [] pos) (tMth C m sp E ta t) := by
  obtain ⟨f, fd, hm, F, hb⟩ := M
  have q : PE X (.Call (.Attribute o m apos) (e :: es) [] pos) (tMeth C m sp [] E ta t) := pe_meth (pl := pl) he c hm F hr hb .nil hx ha hst hpl ht
  refine ⟨fun pins s σ H Q I h => q.run pins s σ H Q I ?_⟩
  have e : ∀ x : V, (fun (vs : List V) (H1 : Hp) => sp (x :: (vs ++ [])) H1 Q E) = (fun vs H1 => sp (x :: vs) H1 Q E) := fun x => by
    funext vs H1
    rw [List.append_nil]
  have e2 : (fun (x : V) (H1 : Hp) => ∃ a dx fs, x = .ref a ∧ H1 a = some (.ins C dx fs) ∧ fs.lookup m = none ∧ t σ H1 fun vs H2 => sp (x :: (vs ++ [])) H2 Q E) = (fun x H1 => INS C m x H1 ∧ t σ H1 fun vs H2 => sp (x :: vs) H2 Q E) := by
    funext x H1
    rw [e x]
    exact propext ⟨fun ⟨a, dx, fs, h1, h2, h3, h4⟩ => ⟨⟨a, dx, fs, h1, h2, h3⟩, h4⟩, fun ⟨⟨a, dx, fs, h1, h2, h3⟩, h4⟩ => ⟨a, dx, fs, h1, h2, h3, h4⟩⟩
  show ta σ H fun x H1 => ∃ a dx fs, x = .ref a ∧ H1 a = some (.ins C dx fs) ∧ fs.lookup m = none ∧ t σ H1 fun vs H2 => sp (x :: (vs ++ [])) H2 Q E
  rw [e2]
  exact h
theorem pe_mth0 {pl : Sem Bool} (he : PE X o ta) (M : Mth X.prog X.w X.K X.mg X.base k C m ps sp) (c : Cls X.K C) (hr : Room k X.A) (hx : Passes (L2.CX X.prog X.w) X E)
    (ht : eval (.Call (.Attribute o m apos) [] [] pos) X.env = (do
      let ov ← eval o X.env
      standAt apos.atName
      let (f, first) ← holding [ov] (getMethod ov m pl)
      callWith pos f first (backTo pos (starEach [] X.env)) (backToKw pos (keywordEach [] X.env))) := by rfl) :
    PE X (.Call (.Attribute o m apos) [] [] pos) (tMth C m sp E ta tNil) := by
  obtain ⟨f, fd, hm, F, hb⟩ := M
  have q : PE X (.Call (.Attribute o m apos) [] [] pos) (tMeth C m sp [] E ta tNil) := pe_meth0 (pl := pl) he c hm F hr hb .nil hx ht
  refine ⟨fun pins s σ H Q I h => q.run pins s σ H Q I ?_⟩
  have e2 : (fun (x : V) (H1 : Hp) => ∃ a dx fs, x = .ref a ∧ H1 a = some (.ins C dx fs) ∧ fs.lookup m = none ∧ sp (x :: ([] ++ [])) H1 Q E) = (fun x H1 => INS C m x H1 ∧ sp (x :: []) H1 Q E) := by
    funext x H1
    exact propext ⟨fun ⟨a, dx, fs, h1, h2, h3, h4⟩ => ⟨⟨a, dx, fs, h1, h2, h3⟩, h4⟩, fun ⟨⟨a, dx, fs, h1, h2, h3⟩, h4⟩ => ⟨a, dx, fs, h1, h2, h3, h4⟩⟩
  show ta σ H fun x H1 => ∃ a dx fs, x = .ref a ∧ H1 a = some (.ins C dx fs) ∧ fs.lookup m = none ∧ sp (x :: ([] ++ [])) H1 Q E
  rw [e2]
  exact h
theorem pe_new (N : Cnw X.prog X.w X.K X.mg X.base k x C ps sp) (hr : Room (k + 1) X.A) (hx : Passes (L2.CX X.prog X.w) X E) (ha : PA X (e :: es) t) (hg : Gl X x := by rfl)
    (hdb : (x == ("__debug__" : Str)) = false := by decide) (he : starEach (e :: es) X.env = (false, eval e X.env) :: starEach es X.env := by rfl) (hpl : (backTo pos (starEach es X.env)).any (·.1) = false := by rfl) :
    PE X (.Call (.Name x p) (e :: es) [] pos) (tNew C sp E t) := by
  obtain ⟨f, fd, M, F, hm, hb⟩ := N
  have q : PE X (.Call (.Name x p) (e :: es) [] pos) (tMake C sp [] E t) := pe_make M F hr hg hm hb .nil hx ha hdb he hpl
  refine ⟨fun pins s σ H Q I h => q.run pins s σ H Q I ?_⟩
  have e2 : (fun (vs : List V) (H1 : Hp) => ∀ x dx, H1 x = none → H1 dx = none → dx ≠ x → sp (.ref x :: (vs ++ [])) (upd (upd H1 dx (.own x)) x (.ins C dx [])) (fun v H2 => v = .non ∧ Q (.ref x) H2) E) = (fun vs H1 => MAKE C sp E vs H1 Q) := by
    funext vs H1
    rw [List.append_nil] <;> rfl
  show t σ H fun vs H1 => ∀ x dx, H1 x = none → H1 dx = none → dx ≠ x → sp (.ref x :: (vs ++ [])) (upd (upd H1 dx (.own x)) x (.ins C dx [])) (fun v H2 => v = .non ∧ Q (.ref x) H2) E
  rw [e2]
  exact h
theorem g_mth {σ : L2.St} {H : Hp} {Q : VK} (k : ta σ H fun x H1 => INS C m x H1 ∧ t σ H1 fun vs H2 => sp (x :: vs) H2 Q E) : tMth C m sp E ta t σ H Q := k
theorem g_new {σ : L2.St} {H : Hp} {Q : VK} (k : t σ H fun vs H1 => MAKE C sp E vs H1 Q) : tNew C sp E t σ H Q := k
end
/-! ### len, == and != of instances -/
section
variable {prog : Program} {w : World} {A : Around} {E : Value → Shared → Prop} {s : Shared} {K : PySem.W.Frag} {x y C f L : Addr} {h₀ : Heap} {m : Str → Option Value} {ox : Obj} {od : Option Obj}
theorem ifBound_objNe {M : Model} {args : List Value} {Q : Option Value → Shared → Prop} (X : K.In s.heap) (I : PySem.W.InstAt s.heap x ox C od) (hs : PySem.W.findIn K (.ref C) "__ne__" = some (some (.builtin "object.__ne__")))
    (h : wpAny M A (call (.builtin "object.__ne__") (.ref x :: args)) (fun v => Q (some v)) E s) : wpAny M A (callSpecialIfBound? (.ref x) "__ne__" args) Q E s := by
  simp only [callSpecialIfBound?, bindSpecialIfBound?]
  refine wpAny_holding (wpAny_bind (wpAny_bind (wpAny_bind (I.type.here ((PySem.W.looks_findIn X hs).here ?_)))))
  refine wpAny_bind (wpAny_askSetting (wpAny_ite ?_))
  have fin : wpAny M A (call (.builtin "object.__ne__") ([.ref x] ++ args) >>= fun v => pure (some v)) Q E s := wpAny_bind (wpAny_mono h (fun v s' h' => wpAny_pure h') fun _ _ h' => h')
  split
  · exact wpAny_bind (wpAny_of_eq (PySem.F.cmp_object.ne.bind _) (wpAny_pure (by exact fin)))
  · exact wpAny_tryCatch (wpAny_bind (wpAny_of_eq (PySem.F.cmp_object.ne.bind _) (wpAny_pure (by exact fin))))
theorem entry_objNe (X : K.In s.heap) (I : PySem.W.InstAt s.heap x ox C od) (hs : PySem.W.findIn K (.ref C) "__eq__" = some (some (.ref f))) (hf : PySem.W.isFn K (.ref f) = true) (hu : A.units < cLine) {Q : Fin → Shared → Prop}
    (hcall : wpAny (model prog w) A (call (.ref f) [.ref x, .ref y]) (fun v s' => ∃ b, v = .bool b ∧ Q (.done (.ret (.bool (!b)))) s') E s) :
    wpAny (model prog w) A (Builtin.«object.__ne__» ⟨[.ref x, .ref y], []⟩) Q E s := by
  unfold Builtin.«object.__ne__»
  repeat (first
    | with_reducible refine wpAny_cRoomFor hu ?_
    | (refine wpAny_bind (m := callSpecialIfBound? (.ref x) (Str.ofString "__eq__") [.ref y])
        (PySem.W.ifBound_K X I hs hf (wpAny_mono hcall (fun r s' hr => by
          obtain ⟨b, rfl, hq⟩ := hr
          repeat (first | exact hq | exact wpAny_pure hq | exact wpAny_truthy_bool hq | (refine wpAny_bind (m := truthy (.bool _)) (wpAny_truthy_bool ?_)) | wp_step)) fun _ _ e => e)))
    | wp_step)
theorem ne_K {tb : Value} {Q : Value → Shared → Prop} (hu : A.units + 1 < cLine) (Fm : Fr h₀ L s.heap m) (X₀ : K.In h₀) (I : PySem.W.InstAt s.heap x ox C od) (hb : PySem.W.Looks (model prog w) s.heap (typeOf (.ref y)) tb) (hn : PySem.W.notFirst K C tb = true)
    (hne : PySem.W.findIn K (.ref C) "__ne__" = some (some (.builtin "object.__ne__"))) (hm : PySem.W.mroIn K C (.type "object") = some true)
    (hs : PySem.W.findIn K (.ref C) "__eq__" = some (some (.ref f))) (hf : PySem.W.isFn K (.ref f) = true)
    (h : wpAny (model prog w) A.in1 (call (.ref f) [.ref x, .ref y]) (fun v s' => ∃ b, v = .bool b ∧ Q (.bool (!b)) s') E s) : wpAny (model prog w) A (richCompare .NotEq (.ref x) (.ref y)) Q E s := by
  have X := X₀.keeps Fm.keep
  have one : wpAny (model prog w) A (tryCompare (.ref x) (cmpInfo .NotEq).2.1 (.ref y)) (fun r s' => ∃ v, r = some v ∧ Q v s') E s := by
    rw [cmpInfo_NotEq]
    unfold tryCompare
    refine wpAny_bind (ifBound_objNe X I hne (wpAny_call (codeAny_call_builtin PySem.F.cmp_object.ne.plain PySem.F.cmpEntry_ne (PySem.W.check_slot PySem.F.cmpKind_ne PySem.F.cmpSplit_ne (I.type.andThen (PySem.W.looks_mroIn X hm)) (PySem.F.cmpArgs_ne _ _)
      (entry_objNe (A := A.in1) X I hs hf (show A.in1.units < cLine from hu) (wpAny_mono h (fun v s' hv => ?_) fun _ _ e => e))))))
    obtain ⟨b, rfl, hq⟩ := hv
    first | exact ⟨b, rfl, wpAny_pure ⟨_, rfl, hq⟩⟩ | exact ⟨b, rfl, wpAny_pure (wpAny_pure ⟨_, rfl, hq⟩)⟩ | exact ⟨b, rfl, ⟨_, rfl, hq⟩⟩
  unfold richCompare
  simp only [oneThing_ref]
  refine wpAny_holding (wpAny_bind (wpAny_cRoomFor (Nat.lt_of_succ_lt hu) ?_))
  refine wpAny_bind (I.type.here (wpAny_bind (hb.here ?_)))
  split
  · rename_i q
    have e : PySem.W.subIn K tb (.ref C) = some false := by
      rcases Bool.or_eq_true_iff.mp hn with e | e
      · rw [beq_iff_eq.mp e] at q; simp at q
      · exact beq_iff_eq.mp e
    refine wpAny_bind ((PySem.W.looks_subIn X e).here ?_)
    simp only [Bool.false_eq_true, if_false]
    refine wpAny_bind (wpAny_mono one (fun r s' z => ?_) fun _ _ e => e)
    obtain ⟨v, rfl, hq⟩ := z
    exact wpAny_pure hq
  · refine wpAny_bind (wpAny_pure ?_)
    simp only [Bool.false_eq_true, if_false]
    refine wpAny_bind (wpAny_mono one (fun r s' z => ?_) fun _ _ e => e)
    obtain ⟨v, rfl, hq⟩ := z
    exact wpAny_pure hq
end
end NX

namespace NX
open PySem PySem.Spec PyProof.Rows L2
open Evl (Ex ex_l ex_t fresh_back)
open LamX (CodeO TabS Tabs ExtN TabB LamS lamEnv lamCx lam_make2 lam_start2 run_ofS tLam codeO_ne)
/-! ### tuples of the same values -/
def sameV : V → Bool
  | .non => true | .bl _ => true | .int _ => true | .str _ => true | .ref _ => true
  | _ => false
theorem eqAt_sm {A : Around} {s : Shared} {v : V} {u u' : Value} (r : RelV v u) (r' : RelV v u') (f : sameV v = true) : SeqAt.EqAt A s u u' true := by
  cases v with
  | ref a => cases (show u = Value.ref a from r); cases (show u' = Value.ref a from r'); exact SeqAt.EqAt.same _
  | non => cases (show u = Value.none from r); cases (show u' = Value.none from r'); exact SeqAt.EqAt.same _
  | bl b => cases (show u = Value.bool b from r); cases (show u' = Value.bool b from r'); exact SeqAt.EqAt.same _
  | int i =>
    obtain ⟨t, rfl⟩ := (show ∃ t, u = Value.int i t from r)
    obtain ⟨t', rfl⟩ := (show ∃ t, u' = Value.int i t from r')
    have q := SeqAt.EqAt.int_int (A := A) (s := s) i t i t'
    rw [beq_self_eq_true] at q; exact q
  | str i =>
    obtain ⟨t, rfl⟩ := (show ∃ t, u = Value.str i t from r)
    obtain ⟨t', rfl⟩ := (show ∃ t, u' = Value.str i t from r')
    have q := SeqAt.EqAt.str_str (A := A) (s := s) i t i t'
    rw [beq_self_eq_true] at q; exact q
  | _ => simp [sameV] at f
theorem vals_sm {A : Around} {s : Shared} : ∀ {xs : List V} {us ws : List Value}, Vals xs us → Vals xs ws → (∀ x ∈ xs, sameV x = true) → ∀ (j : Nat) (h1 : j < us.length) (h2 : j < ws.length), SeqAt.EqAt A s us[j] ws[j] true
  | _, _, _, .nil, .nil, _, j, h1, _ => absurd h1 (Nat.not_lt_zero j)
  | _, _, _, .cons a b, .cons a' b', f, 0, _, _ => eqAt_sm a a' (f _ List.mem_cons_self)
  | _, _, _, .cons a b, .cons a' b', f, j + 1, h1, h2 => vals_sm b b' (fun x hx => f x (List.mem_cons_of_mem _ hx)) j (Nat.lt_of_succ_lt_succ h1) (Nat.lt_of_succ_lt_succ h2)
def rSm (K : PySem.W.Frag) (r : Bool) : R2 := fun x y H Q => ∃ a b xs, x = .ref a ∧ y = .ref b ∧ SqT K H a xs ∧ SqT K H b xs ∧ (∀ v ∈ xs, sameV v = true) ∧ Q (.bl r) H
theorem op_eqSm {X : Cx} {K : PySem.W.Frag} (hu : X.A.units < cLine) (e : X.K = K := by rfl) : OpR X (compareOp .Eq) (rSm K true) := by
  subst e
  intro pins s σ H x y v u Q I rx ry h
  obtain ⟨a, b, xs, rfl, rfl, h1, h2, hf, q⟩ := h
  cases rx
  cases ry
  obtain ⟨us, r1, t1, _⟩ := I.tuple h1
  obtain ⟨ws, r2, t2, _⟩ := I.tuple h2
  have z := SeqAt.RcAt.tuples (e := fun _ => true) t1 t2 hu (fun j j1 j2 => by
    have := vals_sm (A := X.A.in1) (s := s) r1 r2 hf j (by simpa using j1) (by simpa using j2)
    simpa using this)
  have e : ((List.range (min us.toArray.size ws.toArray.size)).all (fun _ => true) && us.toArray.size == ws.toArray.size) = true := by
    have l1 := r1.length
    have l2 := r2.length
    simp
    omega
  rw [e] at z
  exact z X.prog X.w _ _ ⟨.bl true, H, I, rfl, q⟩
theorem op_neSm {X : Cx} {K : PySem.W.Frag} (hu : X.A.units < cLine) (e : X.K = K := by rfl) : OpR X (compareOp .NotEq) (rSm K false) := by
  subst e
  intro pins s σ H x y v u Q I rx ry h
  obtain ⟨a, b, xs, rfl, rfl, h1, h2, hf, q⟩ := h
  cases rx
  cases ry
  obtain ⟨us, r1, t1, _⟩ := I.tuple h1
  obtain ⟨ws, r2, t2, _⟩ := I.tuple h2
  have z := SeqAt.RcNeAt.tuples (e := fun _ => true) t1 t2 hu (fun j j1 j2 => by
    have := vals_sm (A := X.A.in1) (s := s) r1 r2 hf j (by simpa using j1) (by simpa using j2)
    simpa using this)
  have e : (!((List.range (min us.toArray.size ws.toArray.size)).all (fun _ => true) && us.toArray.size == ws.toArray.size)) = false := by
    have l1 := r1.length
    have l2 := r2.length
    simp
    omega
  rw [e] at z
  exact z X.prog X.w _ _ ⟨.bl false, H, I, rfl, q⟩
theorem n_sm {K : PySem.W.Frag} {r : Bool} {H : Hp} {a b : Addr} {xs : List V} {Q : VK} (h1 : SqT K H a xs) (h2 : SqT K H b xs) (hf : ∀ v ∈ xs, sameV v = true) (k : Q (.bl r) H) : rSm K r (.ref a) (.ref b) H Q := ⟨a, b, xs, rfl, rfl, h1, h2, hf, k⟩
/-! ### isinstance of a caught exception that has fields -/
/-- what isinstance asks of the class D -/
structure ExcD (K : PySem.W.Frag) (D : Addr) : Prop where
  cl : (PySem.W.clsIn K D).isSome = true
  hg : PySem.W.findIn K (.ref D) "__getattribute__" = some (some (.builtin "BaseException.__getattribute__"))
  hk : PySem.W.findIn K (.ref D) "__getattr__" = some none
  hs : PySem.W.subIn K (.ref D) (.type "BaseException") = some true
  ha : PySem.W.findIn K (.ref D) "__class__" = some (some (.builtin "object.__class__"))
  hn : PySem.W.specialIn K (.builtin "object.__class__") "__get__" = some (some (.builtin "getset_descriptor.__get__"))
  ht : PySem.W.takesIn K (.builtin "object.__class__") = some true
  hm : PySem.W.mroIn K D (.type "object") = some true
def rIsX (K : PySem.W.Frag) (a : Addr) (cls : Value) (d : Option Addr) : List V → Hp → VK → Prop := fun xs H Q => ∃ (D dd : Addr) (fs : List (Str × V)) (c : V) (b : Bool), cls = .ref D ∧ d = some dd ∧ H dd = some (.xd fs) ∧ ExcD K D ∧ xs = [.ref a, c] ∧
  ((∃ cv, ClsV c cv ∧ PySem.W.kitOne K (.ref D) cv = some b) ∨ ∃ (tp : Addr) (cs : List V) (us : List Value), c = .ref tp ∧ H tp = some (.tup cs) ∧ Paired ClsV cs us ∧ PySem.W.kitAny K (.ref D) us = some b) ∧ Q (.bl b) H
theorem call_isX {X : Cx} {K : PySem.W.Frag} {a : Addr} {cls : Value} {d : Option Addr} {oe : Obj} {pn : List (Addr × Obj)} (hz : Zc cls d oe) (hf : ∃ vs, oe.data = .fields vs) (e : X.K = K := by rfl) : CallR (X.suite a ((a, oe) :: pn)) (.builtin "isinstance") (rIsX K a cls d) := by
  subst e
  intro pins s σ H xs us Q I r h
  obtain ⟨D, dd, fs, c, b, rfl, rfl, hd, C, rfl, hc, q⟩ := h
  obtain ⟨u1, u2, rfl, r1, r2⟩ := vals2 r
  cases (show u1 = Value.ref a from r1)
  obtain ⟨hget, _⟩ := I.pin (a, oe) (List.mem_append.mpr (.inl List.mem_cons_self))
  obtain ⟨mA, hns, _⟩ := (show ObjOk X.prog X.w H s.heap dd (.xd fs) from I.hok dd _ hd)
  obtain ⟨od, hod⟩ : ∃ od, s.heap.get? dd = some od := by
    obtain ⟨o, es, ep, h1, _⟩ := hns
    exact ⟨o, h1⟩
  obtain ⟨vs, hv⟩ := hf
  have J : PySem.W.InstAt s.heap a oe D (some od) := by
    obtain ⟨oc, odd, oda, osl⟩ := oe
    obtain ⟨h1, h2⟩ := hz
    dsimp only at h1 h2 hv
    subst h1 h2 hv
    exact ⟨hget, rfl, rfl, hod⟩
  have Z := PySem.W.kitx_exc (x := a) (ox := oe) (od := some od) C.cl C.hg C.hk C.hs C.ha C.hn C.ht C.hm
  rcases hc with ⟨cv, hcv, hk⟩ | ⟨tp, cs, ws, rfl, htp, hcs, hk⟩
  · have ec := hcv.eq r2
    subst ec
    exact PySem.W.kia_one Z I.kIn J hk (fun z => nomatch z) fun tk => ⟨.bl b, H, I.kept (t' := tk) fun _ _ z => z, rfl, q⟩
  · cases (show u2 = Value.ref tp from r2)
    obtain ⟨_, its, rv, o, h1, h2, n, h3⟩ := (show ObjOk X.prog X.w H s.heap tp (.tup cs) from I.hok tp _ htp)
    have e3 := ClsV.all hcs rv
    subst e3
    obtain ⟨oc, odd, dt, sl⟩ := o
    simp only at h2 h3
    subst h2 h3
    exact PySem.W.kia_tup Z I.kIn J h1 hk (fun z => nomatch z) fun tk => ⟨.bl b, H, I.kept (t' := tk) fun _ _ z => z, rfl, q⟩
/-- a class's name as a value -/
theorem pe_cls {X : Cx} {x : Str} {C : Addr} {pos : Pos} (hm : X.mg x = some (.ref C)) (hg : Gl X x := by rfl) (hd : (x == ("__debug__" : Str)) = false := by decide) : PE X (.Name x pos) (tC (.ref C)) := pe_glob (v := .ref C) hg hm rfl hd
/-! ### a def whose code object is known -/
structure FunC (K : PySem.W.Frag) (x qual : Str) (st : Stmt) (f : Addr) (fd : FuncData) (c : Addr) : Prop where
  ex : ∃ (oc : Value) (od : Option Addr) (kV doc pm : Value) (an : Option Addr) (ct : Value) (osl : Array (Option Value)),
    fd = PySem.W.fnOf x qual (defArgs st) (defBody st) (defScope st) .none kV doc pm an (.ref c) ct ∧ K.lookup f = some ⟨oc, od, .func fd, osl⟩ ∧ PySem.W.codeIn K (.ref c) qual = true
section
variable {P : Program} {w : World} {K : PySem.W.Frag} {mg : Str → Option Value} {base : Heap}
theorem FunC.ok {x qual : Str} {st : Stmt} {f c : Addr} {fd : FuncData} {N ps : List Str} {k : Nat} {sp : Sp} (F : FunC K x qual st f fd c) (S : FnScope N ps (defScope st)) (len : ∀ vs H Q E, sp vs H Q E → vs.length = ps.length)
    (hb : ∀ (A : Around) (outer : List Env) (s : Shared) (H : Hp) (vs : List V) (Q : VK) (E : XK), Room k (A.deeper (envOfC qual (defScope st) s.heap.objs.size f (.ref c))) → sp vs H Q E →
      ∃ t, PSs (cxOf CX0 P w K mg base N qual (defScope st) f (.ref c) A outer s H E).nox (defBody st) t ∧ t ⟨fun _ H' => Q .non H', Q, fun _ _ => False, fun _ _ => False⟩ (L2.start N vs) H) : FnOk P w K mg base CX0 (k + 1) f fd ps sp := by
  obtain ⟨oc, od, kV, doc, pm, an, ct, osl, rfl, lk, hcd⟩ := F.ex
  refine fn_of lk hcd S len fun A outer s H vs Q E hr hsp => ?_
  obtain ⟨t, h, q⟩ := hb A outer s H vs Q E hr hsp
  exact ⟨t, h.nox, q⟩
end
/-! ### a lambda handed to a def, what it raises wished for at the def's slots -/
section
variable {X : Cx} {pins : List (Addr × Obj)} {σ : L2.St} {H : Hp} {s : Shared}
/-- the def x's context, entered at s -/
abbrev inCx (X : Cx) (Ng : List Str) (x : Str) (sg : Scope) (g : Addr) (cdg : Value) (s : Shared) (H : Hp) : Cx := cxOf CX0 X.prog X.w X.K X.mg X.base Ng x sg g cdg X.A X.stack s H E0
/-- what a() reads, a the def's parameter -/
def tAct (f c' : Addr) (q : Str) (W : WX) (tl : XK → Hp → VK → Prop) : TE := fun σZ HZ Q => σZ[0]? = some (some (.ref f)) ∧ HZ c' = some (CodeO c' q) ∧ tl (fun cls d H' => W cls d σZ H') HZ Q
theorem pe_actS {Ng : List Str} {x : Str} {sg : Scope} {g f c' : Addr} {cdg pm ctv : Value} {params : Arguments} {body : Expr} {scope : Scope} {k : Nat} {a : Str} {pn : List (Addr × Obj)} {xe : Value → Shared → Prop} {W : WX} {tb : XK → TE} {p1 p2 : Pos}
    (I : Inv X pins σ H s) (L : LamS X.env.scope scope) (hf : s.heap.get? f = some (PySem.W.kla_obj "<lambda>" (X.env.qual ++ "<lambda>") params body scope (cloFrom X.env.cells scope.names []) pm c' ctv)) (hfn : H f = none) (hfr : f ∉ frs X.stack)
    (hbind : bindArgs (PySem.W.kla_fn "<lambda>" (X.env.qual ++ "<lambda>") params body scope (cloFrom X.env.cells scope.names []) pm (.ref c') ctv) ⟨[], []⟩ = pure [])
    (tk : Takes ((inCx X Ng x sg g cdg s H).tr pn xe) W) (hr : Room (k + 1) (X.A.deeper (envOfC x sg s.heap.objs.size g cdg)))
    (hbody : ∀ (E : XK) (A : Around) (outer : List Env) (s : Shared) (H : Hp), Room k (A.deeper (lamEnv X scope s.heap.objs.size f c')) → PE (lamCx X A outer s H E scope f c') body (tb E))
    (hN : Ng[0]? = some a) (hv : Vis sg a) (hd : (a == ("__debug__" : Str)) = false := by decide) (hcd : (a == ("__classdict__" : Str)) = false := by decide) :
    PE ((inCx X Ng x sg g cdg s H).tr pn xe) (.Call (.Name a p1) [] [] p2) (tAct f c' (X.env.qual ++ "<lambda>") W fun E H' Q' => tb E σ H' Q') := by
  refine ⟨fun pinsZ sZ σZ HZ Q IZ ⟨hs, hc, ht⟩ => ?_⟩
  have nm := (pe_var (pos := p1) (i := 0) hN hv hd hcd).run pinsZ sZ σZ HZ (fun v H1 => v = .ref f ∧ H1 = HZ) IZ ⟨.ref f, hs, rfl, rfl⟩
  refine wpAny_Call_Name_kw (thn nm fun u s1 ⟨v, H1, I1, r1, ev, eH⟩ => ?_)
  subst ev
  rw [eH] at I1
  cases (show u = Value.ref f from r1)
  have at1 := I1.base.keep f _ hf hfn hfr (fun z => nomatch (show f ∈ ([] : List Addr) from z))
  refine PySem.W.callWith_F0 ⟨_, _, _, _, at1⟩ ?_
  have un : Un (frs X.stack) [] H HZ s.heap s1.heap := I1.base
  obtain ⟨⟨oc, vs, t, hoc, hdc, hvc⟩, _, _⟩ := I1.hok c' _ hc
  have rc : codeAny (model X.prog X.w) (X.A.deeper (envOfC x sg s.heap.objs.size g cdg)) (.call (.ref f) ⟨[], []⟩)
      (CR (L2.CX X.prog X.w) (envOfC x sg s.heap.objs.size g cdg :: X.stack) X.prog X.w HZ s1 Q fun cls d H' => W cls d σZ H') s1 := by
    refine PySem.W.kla_callFunE hr.depth at1 rfl L.co L.gen rfl ⟨c', oc, vs, t, rfl, hoc, hdc, hvc⟩ ?_
    rw [hbind]
    refine wpAny_pure (wpAny_newFunctionEnv (fun y hy => (L.own y hy).2) (fun y hy => absurd hy (by simp)) (fun h₁ hns hsb => ⟨I1.nolimit.fresh _ hsb, ?_⟩) L.kind)
    show codeAny _ _ (.expr body (lamEnv X scope s1.heap.objs.size f c')) _ _
    have J := lam_start2 (f := f) (c' := c') (tk := s1.toks + ([] : List (Str × Value)).length) (E := fun cls d H' => W cls d σZ H') I L I1.env0 hr.hd un hns fun b o e => hsb.extBut b o (Nat.ne_of_lt (Heap.lt_size e)) (Heap.get?_push_of_some _ e)
    refine PySem.W.kla_codeExpr (wpAny_mono ((hbody _ _ _ s1 HZ (hr.deeper _)).run [] _ _ HZ Q J ht) (fun v s' hq => ?_) fun e s' hq => hq)
    obtain ⟨w', H', J', rv, q⟩ := hq
    exact ⟨w', H', J'.os, J'.bare, J'.base, J'.hok, rv, q⟩
  refine wpAny_call (codeAny_mono rc fun r s' hq => ?_)
  cases r with
  | error e => exact passAt tk σZ pinsZ HZ s1 e s' I1 hq
  | ok fl =>
    cases fl with
    | ret u => exact I1.after hq
    | next => exact False.elim hq
    | brk => exact False.elim hq
    | cont => exact False.elim hq
/-- the def x that calls what it got: TT says what it makes of the lambda's reading -/
def GivesS (X : Cx) (Ng : List Str) (x : Str) (sg : Scope) (g : Addr) (cdg : Value) (bg : List Stmt) (a : Str) (q : Str) (TT : (XK → Hp → VK → Prop) → Hp → VK → Prop) : Prop :=
  ∀ (f c' : Addr) (s : Shared) (H : Hp) (Q : VK) (tl : XK → Hp → VK → Prop), (∀ (W : WX) (pn : List (Addr × Obj)) (xe : Value → Shared → Prop) (p1 p2 : Pos), Takes ((inCx X Ng x sg g cdg s H).tr pn xe) W → PE ((inCx X Ng x sg g cdg s H).tr pn xe) (.Call (.Name a p1) [] [] p2) (tAct f c' q W tl)) →
    H c' = some (CodeO c' q) → TT tl H Q → ∃ t, PSs (inCx X Ng x sg g cdg s H).nox bg t ∧ t ⟨fun _ H' => Q .non H', Q, fun _ _ => False, fun _ _ => False⟩ (L2.start Ng [.ref f]) H
/-- such a def, by its name -/
def LamDef (P : Program) (w : World) (K : PySem.W.Frag) (mg : Str → Option Value) (base : Heap) (x a : Str) (TT : (XK → Hp → VK → Prop) → Hp → VK → Prop) : Prop :=
  ∃ (g : Addr) (Ng : List Str) (st : Stmt) (oc kV doc pm cdv ct : Value) (an od : Option Addr) (osl : Array (Option Value)), mg x = some (.ref g) ∧ PySem.W.keepIn K (.ref g) = true ∧ K.lookup g = some ⟨oc, od, .func (PySem.W.fnOf x x (defArgs st) (defBody st) (defScope st) .none kV doc pm an cdv ct), osl⟩ ∧ PySem.W.codeIn K cdv x = true ∧
    L2.Binds K (PySem.W.fnOf x x (defArgs st) (defBody st) (defScope st) .none kV doc pm an cdv ct) [a] [] ∧ FnScope Ng [a] (defScope st) ∧ Ng[0]? = some a ∧ Vis (defScope st) a ∧ ∀ (X : Cx) (q : Str), X.prog = P → X.w = w → X.K = K → X.mg = mg → X.base = base → GivesS X Ng x (defScope st) g cdv (defBody st) a q TT
theorem pe_lamS {T : List (Addr × Str)} {TT : (XK → Hp → VK → Prop) → Hp → VK → Prop} {x a : Str} {c P : Addr} {k : Nat} {params : Arguments} {body : Expr} {scope : Scope} {t : XK → TE} {p lpos pos : Pos} (D : LamDef X.prog X.w X.K X.mg X.base x a TT)
    (TB : TabB X.base X.mg c P) (hmT : (P, X.env.qual ++ "<lambda>") ∈ T) (hu : ∀ p ∈ T, p.1 = P → p.2 = X.env.qual ++ "<lambda>") (hr : Room (k + 2) X.A)
    (hbody : ∀ (A : Around) (outer : List Env) (s : Shared) (H : Hp) (E : XK) (f c' : Addr), Room k (A.deeper (lamEnv X scope s.heap.objs.size f c')) → PE (lamCx X A outer s H E scope f c') body (t E)) (L : LamS X.env.scope scope) (hcode : X.env.code = .ref c := by rfl)
    (hbind : ∀ (q : Str) (cl : List (Str × Addr)) (pm cv ctv : Value), bindArgs (PySem.W.kla_fn "<lambda>" q params body scope cl pm cv ctv) ⟨[], []⟩ = pure [] := by intros; rfl) (hdef : defaultsOf params X.env = ([], []) := by rfl) (hg : Gl X x := by rfl)
    (hdb : (x == ("__debug__" : Str)) = false := by decide) (hd : (a == ("__debug__" : Str)) = false := by decide) (hcd : (a == ("__classdict__" : Str)) = false := by decide) :
    PE X (.Call (.Name x p) [.Lambda params body scope lpos] [] pos) (tLam T TT t) := by
  obtain ⟨g, Ng, st, oc, kV, doc, pm, cdv, ct, an, od, osl, hm, hk, lk, hcg, hb, Sg, hNg, hva, hG⟩ := D
  refine ⟨fun pins s σ H Q I ⟨hT, h⟩ => ?_⟩
  refine wpAny_Call_Name_kw (ld_glob I hg hm (PySem.W.callWith_K (h₀ := X.base) I.ok.mod.kin hk ?_ (by rfl) (by rfl)) hdb)
  show wpAny _ _ (spliced ((false, eval (.Lambda params body scope lpos) X.env) :: backTo pos (starEach [] X.env))) _ _ s
  have mk := lam_make2 (body := body) (pos := lpos) (E := X.xe) I TB hcode hmT hu hT hdef (L.has I.ok) (Q := fun v s' => ∃ f, v = .ref f ∧ wpAny (model X.prog X.w) X.A (call (.ref g) [.ref f]) (EP X pins σ Q) X.xe s' ∧ X.K.In s'.heap) fun f c' pm' ctv H1 s' I1 eN T1 hf hfn hfr hco => ⟨f, rfl, ?_, I1.kIn⟩
  · refine Calls.spliced_cons (wpAny_mono mk (fun v s' ⟨f, ev, hq, hin⟩ => ?_) fun _ _ z => z)
    subst ev
    exact Calls.spliced_nil ⟨hin, hq⟩
  · have rc : codeAny (model X.prog X.w) X.A (.call (.ref g) ⟨[.ref f], []⟩) (CR CX0 X.stack X.prog X.w H1 s' Q E0) s' :=
      run_ofS (N := Ng) (ps := [a]) (us := [.ref f]) (vs := [.ref f]) lk hcg Sg hr I1.env0 (hb s' [.ref f] I1.kIn rfl) (.cons rfl .nil) rfl fun hr' => by
        obtain ⟨t', ht', hq'⟩ := hG X _ rfl rfl rfl rfl rfl f c' s' H1 Q (fun E H' Q' => t E σ H' Q') (fun W pn xe p1 p2 tk => pe_actS I1 L hf hfn hfr (hbind _ _ _ _ _) tk hr' (fun E A outer s H hr2 => hbody A outer s H E f c' hr2) hNg hva hd hcd) hco (h H1 eN T1)
        exact ⟨t', ht'.nox, hq'⟩
    refine wpAny_call (codeAny_mono rc fun r s2 hq => ?_)
    cases r with
    | error e => exact (show False from hq).elim
    | ok fl =>
      cases fl with
      | ret u => exact I1.after hq
      | next => exact False.elim hq
      | brk => exact False.elim hq
      | cont => exact False.elim hq
end
/-! ### the table of the maker's lambdas among what may be changed -/
/-- without the tables -/
def noT (G : Hp) : Hp := fun a => match G a with
  | some (.tbl _) => none
  | o => o
theorem noT_of {G : Hp} {a : Addr} {o : HO} (h : G a = some o) (ne : ∀ ps, o ≠ .tbl ps) : noT G a = some o := by
  unfold noT
  rw [h]
  cases o with
  | tbl ps => exact absurd rfl (ne ps)
  | _ => rfl
theorem of_noT {G : Hp} {a : Addr} {o : HO} (h : noT G a = some o) : G a = some o ∧ ∀ ps, o ≠ .tbl ps := by
  unfold noT at h
  cases e : G a with
  | none => rw [e] at h; cases h
  | some u =>
    rw [e] at h
    cases u with
    | tbl ps => cases h
    | _ => cases h; exact ⟨rfl, fun ps z => by cases z⟩
theorem ex_noT (G : Hp) : Ex (noT G) G := fun a o h => (of_noT h).1
theorem Ex.noT {G H : Hp} (e : Ex G H) : Ex (NX.noT G) (NX.noT H) := fun a o h => noT_of (e _ _ (of_noT h).1) (of_noT h).2
/-- a table's rows, their code objects known in G -/
def TabG (G : Hp) (ps : Array Value) (q : Str) : Prop := TriplesOk ps.toList ∧ ∀ (pos : Pos) (cv : Value), codeAmong pos ps.toList = some cv → ∃ c, cv = .ref c ∧ G c = some (CodeO c q)
theorem TabG.mono {G G' : Hp} {ps : Array Value} {q : Str} (h : TabG G ps q) (e : Ex G G') : TabG G' ps q := ⟨h.1, fun pos cv hc => let ⟨c, e1, e2⟩ := h.2 pos cv hc; ⟨c, e1, e _ _ e2⟩⟩
theorem TabG.noT {G : Hp} {ps : Array Value} {q : Str} (h : TabG G ps q) : TabG (NX.noT G) ps q := ⟨h.1, fun pos cv hc => let ⟨c, e1, e2⟩ := h.2 pos cv hc; ⟨c, e1, noT_of e2 codeO_ne⟩⟩
theorem TabG.nil (G : Hp) (q : Str) : TabG G #[] q := ⟨True.intro, fun pos cv hc => by
  have z : codeAmong pos [] = some cv := hc
  simp [codeAmong] at z⟩
theorem n_lam {TT : (XK → Hp → VK → Prop) → Hp → VK → Prop} {t : XK → TE} {σ : L2.St} {G H : Hp} {L : List (Addr × HO)} {P : Addr} {ps : Array Value} {q : Str} {Q : VK} (S : Own G ((P, .tbl ps) :: L) H) (tg : TabG G ps q) (hL : ∀ p ∈ L, ∃ xs, p.2 = .lst xs)
    (k : ∀ G1 H1 ps1, Ex (noT G) G1 → Own G1 ((P, .tbl ps1) :: L) H1 → TabG G1 ps1 q → TT (fun E H' Q' => t E σ H' Q') H1 Q) : tLam [(P, q)] TT t σ H Q := by
  have hP := S.get0
  refine ⟨fun p hp => ?_, fun H1 eN T1 => ?_⟩
  · have e : p = (P, q) := by simpa using hp
    subst e
    exact ⟨ps, hP, tg.1, fun pos cv hc => let ⟨c, e1, e2⟩ := tg.2 pos cv hc; ⟨c, e1, S.ex _ _ e2⟩⟩
  · obtain ⟨ps1, hP1, ht1, hc1⟩ := T1 (P, q) (by simp)
    have hP1 : H1 P = some (.tbl ps1) := hP1
    have hLk : ∀ p ∈ L, H1 p.1 = some p.2 := fun p hp => eN _ _ (S.at_ p (List.mem_cons_of_mem _ hp)).2 fun qs z => by
      obtain ⟨xs, e⟩ := hL p hp
      rw [e] at z
      cases z
    have out : ∀ c, H1 c = some (CodeO c q) → c ∉ ((P, HO.tbl ps1) :: L).map Prod.fst := fun c hc m => by
      rcases List.mem_cons.mp m with e | m
      · have e : c = P := e
        rw [e, hP1] at hc
        unfold CodeO at hc
        cases hc
      · obtain ⟨p, hp, e⟩ := List.mem_map.mp m
        have z := hLk p hp
        obtain ⟨xs, e2⟩ := hL p hp
        rw [e, hc, e2] at z
        unfold CodeO at z
        cases z
    refine k (cut H1 ((P, .tbl ps1) :: L)) H1 ps1 (fun a o h => ?_) ⟨fun a u h => ?_, fun p hp => ⟨cut_in (List.mem_map_of_mem hp), ?_⟩, S.nd, fun p hp => ?_⟩ ⟨ht1, fun pos cv hc => ?_⟩
    · obtain ⟨h1, h2⟩ := of_noT h
      have m : a ∉ ((P, HO.tbl ps1) :: L).map Prod.fst := fun m => by
        have m' : a ∈ ((P, HO.tbl ps) :: L).map Prod.fst := m
        obtain ⟨p, hp, e⟩ := List.mem_map.mp m'
        have z := (S.at_ p hp).1
        rw [e, h1] at z
        cases z
      rw [cut_out m]
      exact eN _ _ (S.ex _ _ h1) h2
    · by_cases m : a ∈ ((P, HO.tbl ps1) :: L).map Prod.fst
      · rw [cut_in m] at h; cases h
      · rw [cut_out m] at h; exact h
    · rcases List.mem_cons.mp hp with rfl | hp
      · exact hP1
      · exact hLk p hp
    · rcases List.mem_cons.mp hp with rfl | hp
      · rfl
      · exact S.nt p (List.mem_cons_of_mem _ hp)
    · obtain ⟨c, e1, e2⟩ := hc1 pos cv hc
      exact ⟨c, e1, by rw [cut_out (out c e2)]; exact e2⟩
theorem g_act {f c' : Addr} {q : Str} {W : WX} {tl : XK → Hp → VK → Prop} {σ : L2.St} {H : Hp} {Q : VK} (h1 : σ[0]? = some (some (.ref f))) (h2 : H c' = some (CodeO c' q)) (k : tl (fun cls d H' => W cls d σ H') H Q) : tAct f c' q W tl σ H Q := ⟨h1, h2, k⟩
end NX

namespace NX
open PySem PySem.Spec PyProof.Rows L2
open Evl (Ex ex_l ex_t fresh_back)
open LamX (CodeO TabS Tabs ExtN tLam codeO_ne)
/-- with two tables -/
theorem n_lam2 {TT : (XK → Hp → VK → Prop) → Hp → VK → Prop} {t : XK → TE} {σ : L2.St} {G H : Hp} {L : List (Addr × HO)} {P R : Addr} {ps rs : Array Value} {q r : Str} {Q : VK} (S : Own G ((P, .tbl ps) :: (R, .tbl rs) :: L) H) (tg : TabG G ps q) (tr : TabG G rs r) (hL : ∀ p ∈ L, ∃ xs, p.2 = .lst xs)
    (k : ∀ G1 H1 ps1 rs1, Ex (noT G) G1 → Own G1 ((P, .tbl ps1) :: (R, .tbl rs1) :: L) H1 → TabG G1 ps1 q → TabG G1 rs1 r → TT (fun E H' Q' => t E σ H' Q') H1 Q) : tLam [(P, q), (R, r)] TT t σ H Q := by
  have old : ∀ {a : Addr} {us : Array Value} {z : Str}, H a = some (.tbl us) → TabG G us z → TabS H a z := fun {a us z} h g => ⟨us, h, g.1, fun pos cv hc => let ⟨c, e1, e2⟩ := g.2 pos cv hc; ⟨c, e1, S.ex _ _ e2⟩⟩
  refine ⟨fun p hp => ?_, fun H1 eN T1 => ?_⟩
  · rcases List.mem_cons.mp hp with e | hp
    · rw [e]
      exact old S.get0 tg
    · rw [List.mem_singleton.mp hp]
      exact old S.get1 tr
  · obtain ⟨ps1, hP1, ht1, hc1⟩ := T1 (P, q) (by simp)
    obtain ⟨rs1, hR1, hr1, hd1⟩ := T1 (R, r) (by simp)
    have hP1 : H1 P = some (.tbl ps1) := hP1
    have hR1 : H1 R = some (.tbl rs1) := hR1
    have hLk : ∀ p ∈ L, H1 p.1 = some p.2 := fun p hp => eN _ _ (S.at_ p (List.mem_cons_of_mem _ (List.mem_cons_of_mem _ hp))).2 fun qs z => by
      obtain ⟨xs, e⟩ := hL p hp
      rw [e] at z
      cases z
    have out : ∀ c z, H1 c = some (CodeO c z) → c ∉ ((P, HO.tbl ps1) :: (R, HO.tbl rs1) :: L).map Prod.fst := fun c z hc m => by
      rcases List.mem_cons.mp m with e | m
      · rw [show c = P from e, hP1] at hc
        unfold CodeO at hc
        cases hc
      · rcases List.mem_cons.mp m with e | m
        · rw [show c = R from e, hR1] at hc
          unfold CodeO at hc
          cases hc
        · obtain ⟨p, hp, e⟩ := List.mem_map.mp m
          have y := hLk p hp
          obtain ⟨xs, e2⟩ := hL p hp
          rw [e, hc, e2] at y
          unfold CodeO at y
          cases y
    refine k (cut H1 ((P, .tbl ps1) :: (R, .tbl rs1) :: L)) H1 ps1 rs1 (fun a o h => ?_) ⟨fun a u h => ?_, fun p hp => ⟨cut_in (List.mem_map_of_mem hp), ?_⟩, S.nd, fun p hp => ?_⟩ ⟨ht1, fun pos cv hc => ?_⟩ ⟨hr1, fun pos cv hc => ?_⟩
    · obtain ⟨h1, h2⟩ := of_noT h
      have m : a ∉ ((P, HO.tbl ps1) :: (R, HO.tbl rs1) :: L).map Prod.fst := fun m => by
        have m' : a ∈ ((P, HO.tbl ps) :: (R, HO.tbl rs) :: L).map Prod.fst := m
        obtain ⟨p, hp, e⟩ := List.mem_map.mp m'
        have z := (S.at_ p hp).1
        rw [e, h1] at z
        cases z
      rw [cut_out m]
      exact eN _ _ (S.ex _ _ h1) h2
    · by_cases m : a ∈ ((P, HO.tbl ps1) :: (R, HO.tbl rs1) :: L).map Prod.fst
      · rw [cut_in m] at h; cases h
      · rw [cut_out m] at h; exact h
    · rcases List.mem_cons.mp hp with rfl | hp
      · exact hP1
      · rcases List.mem_cons.mp hp with rfl | hp
        · exact hR1
        · exact hLk p hp
    · rcases List.mem_cons.mp hp with rfl | hp
      · rfl
      · rcases List.mem_cons.mp hp with rfl | hp
        · rfl
        · exact S.nt p (List.mem_cons_of_mem _ (List.mem_cons_of_mem _ hp))
    · obtain ⟨c, e1, e2⟩ := hc1 pos cv hc
      exact ⟨c, e1, by rw [cut_out (out c _ e2)]; exact e2⟩
    · obtain ⟨c, e1, e2⟩ := hd1 pos cv hc
      exact ⟨c, e1, by rw [cut_out (out c _ e2)]; exact e2⟩
theorem two_u {P R : Addr} {q r : Str} (ne : P ≠ R) : (∀ p ∈ [(P, q), (R, r)], p.1 = P → p.2 = q) ∧ ∀ p ∈ [(P, q), (R, r)], p.1 = R → p.2 = r := by
  refine ⟨fun p hp e => ?_, fun p hp e => ?_⟩
  · rcases List.mem_cons.mp hp with z | hp
    · rw [z]
    · rw [List.mem_singleton.mp hp] at e
      exact absurd e.symm ne
  · rcases List.mem_cons.mp hp with z | hp
    · rw [z] at e
      exact absurd e ne
    · rw [List.mem_singleton.mp hp]
end NX

namespace NX
open PySem PySem.Spec PyProof.Rows L2
/-! ### rules with the fragment named: for bodies of comprehensions -/
section
variable {X : Cx} {K : PySem.W.Frag}
theorem call_lenK (e : X.K = K := by rfl) : CallR X (.builtin "len") (Evl.rLenS K) := e ▸ call_lenN
theorem call_listK (e : X.K = K := by rfl) : CallR X (.type "list") (Evl.rListS K) := e ▸ call_listN
theorem call_tupK (e : X.K = K := by rfl) : CallR X (.type "tuple") (rTupS K) := e ▸ call_tupN
theorem call_isiK' (e : X.K = K := by rfl) : CallR X (.builtin "isinstance") (rIsi K) := e ▸ call_isi
theorem cr_sortedIK (e : X.K = K := by rfl) : CallR X (.builtin "sorted") (rSortedI K) := e ▸ cr_sortedI
theorem cr_sortedPOK (e : X.K = K := by rfl) : CallR X (.builtin "sorted") (rSortedPO K) := e ▸ cr_sortedPO
theorem cr_sumK (hc : X.calm = true) (e : X.K = K := by rfl) : CallR X (.builtin "sum") (rSum K) := e ▸ cr_sum hc
theorem cr_maxK (hc : X.calm = true) (e : X.K = K := by rfl) : CallR X (.builtin "max") (rMax K) := e ▸ cr_max hc
theorem cr_minK (hc : X.calm = true) (e : X.K = K := by rfl) : CallR X (.builtin "min") (rMin K) := e ▸ cr_min hc
theorem cr_allK (hc : X.calm = true) (e : X.K = K := by rfl) : CallR X (.builtin "all") (rAll K) := e ▸ cr_all hc
theorem ix_listK (e : X.K = K := by rfl) : IxR X (rIxL K) := e ▸ ix_list
theorem ix_tupK (e : X.K = K := by rfl) : IxR X (rIxT K) := e ▸ ix_tup
theorem sl_listK (e : X.K = K := by rfl) : SlR X (rSlL K) := e ▸ sl_list
theorem sl_tupAK (e : X.K = K := by rfl) : SlR X (rSlA K) := e ▸ sl_tupA
theorem op_in_seqK (e : X.K = K := by rfl) : OpR X (compareOp .In) (rIn K false) := e ▸ op_in_seq
theorem op_notIn_seqK (e : X.K = K := by rfl) : OpR X (compareOp .NotIn) (rIn K true) := e ▸ op_notIn_seq
theorem op_eqDK (hu : X.A.units + 64 < cLine) (e : X.K = K := by rfl) : OpR X (compareOp .Eq) (rEqD K) := e ▸ op_eqD hu
theorem op_neDK (hu : X.A.units + 64 < cLine) (e : X.K = K := by rfl) : OpR X (compareOp .NotEq) (rNeD K) := e ▸ op_neD hu
theorem op_inDK (hu : X.A.units + 65 < cLine) (e : X.K = K := by rfl) : OpR X (compareOp .In) (rInD K) := e ▸ op_inD hu
theorem op_notInDK (hu : X.A.units + 65 < cLine) (e : X.K = K := by rfl) : OpR X (compareOp .NotIn) (rNotInD K) := e ▸ op_notInD hu
theorem op_catLK (e : X.K = K := by rfl) : OpR X (binaryOp .Add) (rCatL K) := e ▸ op_catL
theorem op_catAK (e : X.K = K := by rfl) : OpR X (binaryOp .Add) (rCatA K) := e ▸ op_catA
theorem op_repTK (e : X.K = K := by rfl) : OpR X (binaryOp .Mult) (rRepT K) := e ▸ op_repT
theorem mt_indexK (e : X.K = K := by rfl) : MtR X "list.index" (rIndex K) := e ▸ mt_index
theorem pe_fldK {e : Expr} {ta : TE} {f : Str} {pos : Pos} (he : PE X e ta) (hb : attributeBase e f X.env (eval e X.env) = eval e X.env) (h : X.K = K := by rfl) : PE X (.Attribute e f pos) (tFld K ta f) := h ▸ pe_fld he hb
theorem pi_listK {tg l : Expr} {tl : TE} (hl : PE X l tl) (h : X.K = K := by rfl) : PI X tg l (iList K tl) := h ▸ pi_list hl
theorem pi_tupK {tg l : Expr} {tl : TE} (hl : PE X l tl) (h : X.K = K := by rfl) : PI X tg l (iTup K tl) := h ▸ pi_tup hl
theorem pg_tupK {es : List Expr} {k : Nat} {t : TGs} {n : Nat} {pos : Pos} (hc : X.calm = true) (h : PGs X es t) (e : X.K = K := by rfl)
    (hn : (assignEach es X.env).length = n := by rfl) (hst : (assignEach es X.env).findIdx? (·.1) = none := by rfl) : PG X (.Tuple es k pos) (gTup K n t) := e ▸ pg_tup hc h hn hst
theorem pe_bmK {o e : Expr} {es : List Expr} {to : TE} {t : TA} {name : Str} {apos cpos : Pos} {T id : String} {r : V → List V → Hp → VK → Prop} (pa : PlainAttrs T) (slot : Slot T name id) (hty : typeOf (.builtin id) = pure (.type "method_descriptor")) (hm : MtR X id r) (ho : PE X o to) (ha : PA X (e :: es) t)
    (h : X.K = K := by rfl) (hbase : attributeBase o name X.env (eval o X.env) = eval o X.env := by rfl)
    (hfew : ((backTo cpos (starEach (e :: es) X.env)).all (fun x => !x.1) && (backToKw cpos (keywordEach [] X.env)).all (fun x => x.1.isSome)
      && decide ((e :: es).length + ([] : List Keyword).length + (if ([] : List Keyword).isEmpty then 0 else 1) < 30)) = true := by rfl)
    (hline : (apos.endLine == cpos.line) = true := by rfl) (hs : starEach (e :: es) X.env = (false, eval e X.env) :: starEach es X.env := by rfl) (hplain : (backTo cpos (starEach es X.env)).any (·.1) = false := by rfl) :
    PE X (.Call (.Attribute o name apos) (e :: es) [] cpos) (tBM K T r to t) := h ▸ pe_bm pa slot hty hm ho ha hbase hfew hline hs hplain
end
end NX

namespace NX
open PySem PySem.Spec PyProof.Rows L2
open Evl (Ex ex_l ex_t fresh_back)
/-! ### exceptions of own classes with one field -/
/-- the base class's name, at C0: its __init__ is ValueError's -/
structure BaseC (K : PySem.W.Frag) (C0 : Addr) : Prop where
  rd : PySem.W.readsIn K C0 (.type "type") = true
  ga : PySem.W.specialIn K (.ref C0) "__getattribute__" = some (some (.builtin "type.__getattribute__"))
  vV : PySem.W.findCls K (.ref C0) (.type "type") "__init__" = some (.val (.builtin "ValueError.__init__"))
section
variable {X : Cx} {e : Expr} {es : List Expr} {ta : TA} {p1 p2 pos : Pos} {x : Str} {C0 : Addr}
theorem pe_oeinit {K : PySem.W.Frag} {pl : Sem Bool} (hm : X.mg x = some (.ref C0)) (B : BaseC X.K C0) (ha : PA X (e :: es) ta) (hK : X.K = K := by rfl) (hg : Gl X x := by rfl) (hdb : (x == ("__debug__" : Str)) = false := by decide)
    (hc : eval (.Call (.Attribute (.Name x p1) "__init__" p2) (e :: es) [] pos) X.env = (do
      let ov ← eval (.Name x p1) X.env
      standAt p2.atName
      let (f, first) ← holding [ov] (getMethod ov "__init__" pl)
      callWith pos f first (backTo pos (starEach (e :: es) X.env)) (backToKw pos (keywordEach [] X.env))) := by rfl)
    (he : starEach (e :: es) X.env = (false, eval e X.env) :: starEach es X.env := by rfl) (hpl : (backTo pos (starEach es X.env)).any (·.1) = false := by rfl) :
    PE X (.Call (.Attribute (.Name x p1) "__init__" p2) (e :: es) [] pos) (tVeI K ta) := by
  subst hK
  refine ⟨fun pins s σ H Q I h => ?_⟩
  refine PySem.W.methodCall_KW (ld_glob I hg hm ?_ hdb) hc
  refine PySem.W.method_cls I.kIn B.ga (PySem.W.cls_value I.kIn B.rd B.vV (by decide +kernel) ?_)
  refine PyProof.Rows.callWith_method1 (thn (ha.run pos pins _ σ H _ (I.tok _) h) fun us s1 ⟨vs, H1, I1, r1, a, C, ws, ev, hl, T, ea, q⟩ => ?_) he hpl
  subst ev
  cases r1 with
  | @cons _ u1 _ ur ra rw1 =>
    obtain rfl : u1 = Value.ref a := ra
    have hlen := Paired.length rw1
    exact oinit_ok T I1 ea (by rw [sizeLine_eq]; omega) fun s' J => ⟨.non, H1, J, rfl, q⟩
end
def spExInit (K : PySem.W.Frag) (C : Addr) (f : Str) : Sp := fun vs H Q _ => ∃ (a : Addr) (v : V), vs = [.ref a, v] ∧ H a = some (exo a C none) ∧ OexC K C ∧ ∀ dx, H dx = none → dx ≠ a → Q .non (upd (upd H dx (exd dx [(f, v)])) a (exo a C (some dx)))
/-- the class x at C: raised with one value, kept as the field f -/
def Exn (P : Program) (w : World) (K : PySem.W.Frag) (mg : Str → Option Value) (base : Heap) (x : Str) (C : Addr) (f : Str) : Prop :=
  ∃ (fI : Addr) (fd : FuncData), mg x = some (.ref C) ∧ OexC K C ∧ PySem.W.findIn K (.ref C) "__init__" = some (some (.ref fI)) ∧ PySem.W.typeIn K (.ref fI) = some (.type "function") ∧ FnOk P w K mg base (L2.CX P w) 1 fI fd ["self", f] (spExInit K C f) ∧ Binds K fd ["self", f] []
def RAISE (K : PySem.W.Frag) (C : Addr) (f : Str) (W : WX) (σ : L2.St) (vs : List V) (H1 : Hp) : Prop := vs.length ≤ 1000 ∧ ∀ a, H1 a = none → spExInit K C f (.ref a :: (vs ++ [])) (upd H1 a (exo a C none))
  (fun v H2 => v = .non ∧ ∃ (d : Addr) (fs : List (Str × V)), H2 a = some (exo a C (some d)) ∧ H2 d = some (exd d fs) ∧ H1 d = none ∧ W (.ref C) (some d) σ (upd (del H2 a) d (.xd fs))) (fun _ _ _ => False)
def tRaiseE (K : PySem.W.Frag) (C : Addr) (f : Str) (W : WX) (ta : TA) : TS := fun _ σ H => ta σ H fun vs H1 => RAISE K C f W σ vs H1
theorem s_raiseE {K : PySem.W.Frag} {C : Addr} {f : Str} {W : WX} {ta : TA} {D : Ends} {σ : L2.St} {H : Hp} (k : ta σ H fun vs H1 => RAISE K C f W σ vs H1) : tRaiseE K C f W ta D σ H := k
theorem n_raise {K : PySem.W.Frag} {C : Addr} {f : Str} {W : WX} {σ : L2.St} {v : V} {H1 : Hp} (T : OexC K C) (k : ∀ d H2, H1 d = none → Ex H1 H2 → H2 d = some (.xd [(f, v)]) → W (.ref C) (some d) σ H2) : RAISE K C f W σ [v] H1 :=
  ⟨by simp, fun a ha => ⟨a, v, rfl, upd_same, T, fun dx hdx ne => by
    have hd1 : H1 dx = none := by rw [upd_ne ne] at hdx; exact hdx
    refine ⟨rfl, dx, [(f, v)], upd_same, ?_, hd1, ?_⟩
    · rw [upd_ne ne, upd_same]
    · have z : upd (del (upd (upd (upd H1 a (exo a C none)) dx (exd dx [(f, v)])) a (exo a C (some dx))) a) dx (.xd [(f, v)]) = upd H1 dx (.xd [(f, v)]) := by
        funext b
        by_cases h1 : b = dx
        · rw [h1, upd_same, upd_same]
        · rw [upd_ne h1, upd_ne h1]
          by_cases h2 : b = a
          · rw [h2, del_same, ha]
          · rw [del_ne h2, upd_ne h2, upd_ne h1, upd_ne h2]
      rw [z]
      exact k dx _ hd1 (Ex.new hd1) upd_same⟩⟩
theorem ps_raiseE {X : Cx} {K : PySem.W.Frag} {W : WX} {x : Str} {C : Addr} {f : Str} {e : Expr} {ta : TA} {p pos pos2 : Pos} (hc : X.calm = true) (tk : Takes X W) (N : Exn X.prog X.w X.K X.mg X.base x C f) (hr : Room 2 X.A) (ha : PA X [e] ta) (hK : X.K = K := by rfl) (hg : Gl X x := by rfl)
    (hdb : (x == ("__debug__" : Str)) = false := by decide) (hst : starEach [e] X.env = (false, eval e X.env) :: starEach [] X.env := by rfl) (hpl : (backTo pos (starEach [] X.env)).any (·.1) = false := by rfl) :
    PS X (.Raise (some (.Call (.Name x p) [e] [] pos)) none pos2) (tRaiseE K C f W ta) := by
  subst hK
  obtain ⟨fI, fd, hm, T, iC, tI, F, hb⟩ := N
  exact ps_raise (pos := pos2) hc tk (pmk_oex (pos := pos) (p := p) T iC tI F hr hb .nil (fun _ _ _ _ _ _ _ h => by
    obtain ⟨_, _, _, _, _, _, _, _, _, _, _, _, z⟩ := h
    exact z.elim) hg hm ha hdb hst hpl)
theorem Exn.oex {P : Program} {w : World} {K : PySem.W.Frag} {mg : Str → Option Value} {base : Heap} {x : Str} {C : Addr} {f : Str} (N : Exn P w K mg base x C f) : OexC K C := let ⟨_, _, _, T, _⟩ := N; T
/-! ### the body of an __init__ -/
def tVeI' (K : PySem.W.Frag) (ta : TA) : TE := tVeI K ta
theorem n_vei {K : PySem.W.Frag} {σ : L2.St} {H : Hp} {ta : TA} {Q : VK} (k : ta σ H fun vs H1 => ∃ (a C : Addr) (ws : List V), vs = .ref a :: ws ∧ ws.length ≤ 1000 ∧ OexC K C ∧ H1 a = some (exo a C none) ∧ Q .non H1) : tVeI K ta σ H Q := k
/-! ### calls that may raise, in a try -/
theorem pe_calS {X : Cx} {k : Nat} {ps : List Str} {sp : Sp} {E : L2.St → XK} {x : Str} {p pos : Pos} {e : Expr} {es : List Expr} {t : TA} (C : Cal X.prog X.w X.K X.mg X.base k x ps [] sp) (hr : Room k X.A) (hx : ∀ σ, PassesAt (L2.CX X.prog X.w) X σ (E σ)) (ha : PA X (e :: es) t) (hg : Gl X x := by rfl) (hdb : (x == ("__debug__" : Str)) = false := by decide)
    (he : starEach (e :: es) X.env = (false, eval e X.env) :: starEach es X.env := by rfl) (hpl : (backTo pos (starEach es X.env)).any (·.1) = false := by rfl) : PE X (.Call (.Name x p) (e :: es) [] pos) (tCallS sp E t) := by
  obtain ⟨f, fd, ds, F, hm, hk, hb, hd⟩ := C
  cases hd
  exact pe_callS F hr hg hm hk hb hx ha hdb he hpl
theorem g_calS {sp : Sp} {E : L2.St → XK} {tr : TA} {σ : L2.St} {H : Hp} {Q : VK} (k : tr σ H fun vs H1 => sp vs H1 Q (E σ)) : tCallS sp E tr σ H Q := k
/-- the way out of a def: E -/
theorem passE {X : Cx} {W : WX} {E : XK} (tk : Takes X W) (hW : ∀ cls d σ H, E cls d H → W cls d σ H) : Passes (L2.CX X.prog X.w) X E := passes_call tk hW
/-! ### what except clauses ask -/
theorem n_as {K : PySem.W.Frag} {c : Value} {i : Nat} {ts : Addr → Value → Option Addr → TS} {Wout : WX} {D : Ends} {cls : Value} {d : Option Addr} {σ : L2.St} {H : Hp} (he : PySem.W.exmOne K cls c = some true)
    (k : ∀ a, H a = none → ts a cls d { nx := fun σ' H' => D.nx (σ'.set i none) H', rt := D.rt, bk := fun σ' H' => D.bk (σ'.set i none) H', ct := fun σ' H' => D.ct (σ'.set i none) H' } (σ.set i (some (.ref a))) H) : wAs K c i ts Wout D cls d σ H :=
  ⟨true, he, fun _ => k, fun z => by cases z⟩
theorem pe_xfK {X : Cx} {K : PySem.W.Frag} {a C : Addr} {oe : Obj} {cls : Value} {d : Option Addr} {pn : List (Addr × Obj)} {e : Expr} {te : TE} {pos : Pos} {n : Str} (T : XfC X.K C) (hno : PySem.W.findIn X.K (.ref C) n = some none)
    (hz : Zc cls d oe) (hf : ∃ vs, oe.data = .fields vs) (he : PE (X.suite a ((a, oe) :: pn)) e te) (hb : attributeBase e n X.env (eval e X.env) = eval e X.env := by rfl) :
    PE (X.suite a ((a, oe) :: pn)) (.Attribute e n pos) (tXf a cls d C n te) := pe_xf T hno hz hf he hb
def XFLD (a : Addr) (cls : Value) (d : Option Addr) (C : Addr) (f : Str) (Q : VK) (x : V) (H1 : Hp) : Prop := x = .ref a ∧ cls = .ref C ∧ ∃ (dd : Addr) (fs : List (Str × V)) (v : V), d = some dd ∧ H1 dd = some (.xd fs) ∧ fs.lookup f = some v ∧ Q v H1
theorem g_xf {a : Addr} {cls : Value} {d : Option Addr} {C : Addr} {f : Str} {te : TE} {σ : L2.St} {H : Hp} {Q : VK} (k : te σ H (XFLD a cls d C f Q)) : tXf a cls d C f te σ H Q := k
theorem n_xf {a d C : Addr} {f : Str} {v : V} {Q : VK} {H : Hp} (h : H d = some (.xd [(f, v)])) (k : Q v H) : XFLD a (.ref C) (some d) C f Q (.ref a) H := ⟨rfl, rfl, d, [(f, v)], v, rfl, h, by simp [List.lookup], k⟩
theorem nw_tup' {H H' : Hp} {t : Addr} {xs : List V} (e : Ex H H') (h : H' t = some (.tup xs)) : nw H H' t = some (.tup xs) := by
  cases q : H t with
  | none => rw [nw_new q]; exact h
  | some o =>
    have z := e _ _ q
    rw [h] at z
    cases z
    rw [nw_tup q rfl]
    exact h
def OST (K : PySem.W.Frag) (f : Str) (D : Ends) (σ : L2.St) (y x : V) (H2 : Hp) : Prop := ∃ a C : Addr, x = .ref a ∧ OexC K C ∧ PySem.W.findIn K (.ref C) f = some none ∧
  ((H2 a = some (exo a C none) ∧ ∀ dx, H2 dx = none → dx ≠ a → D.nx σ (upd (upd H2 dx (exd dx [(f, y)])) a (exo a C (some dx)))) ∨
    ∃ (dx : Addr) (fs : List (Str × V)), H2 a = some (exo a C (some dx)) ∧ H2 dx = some (exd dx fs) ∧ fs.length ≤ 900 ∧ D.nx σ (upd H2 dx (exd dx ((f, y) :: fs))))
theorem s_ost {K : PySem.W.Frag} {f : Str} {to te : TE} {D : Ends} {σ : L2.St} {H : Hp} (k : te σ H fun y H1 => to σ H1 fun x H2 => OST K f D σ y x H2) : tOst K f to te D σ H := k
end NX

local macro_rules | `(tactic| walk_at "go1") => `(tactic| first
  | with_reducible refine NX.s_seq ?_
  | with_reducible refine NX.s_asg ?_
  | with_reducible refine NX.s_name ?_
  | with_reducible refine NX.s_ret ?_
  | with_reducible refine NX.s_if ?_
  | with_reducible refine NX.s_next ?_
  | with_reducible refine NX.s_drop ?_
  | with_reducible refine NX.s_brk ?_
  | with_reducible refine NX.s_cont ?_
  | with_reducible refine NX.s_par ?_
  | with_reducible refine NX.s_two ?_
  | with_reducible refine NX.s_sub ?_
  | with_reducible refine NX.s_gcons ?_
  | with_reducible refine NX.s_gnil ?_
  | with_reducible refine NX.g_c ?_
  | ((with_reducible refine' NX.g_var ?gv ?gk); (case gv => exact rfl))
  | with_reducible refine NX.g_op ?_
  | with_reducible refine NX.g_un ?_
  | with_reducible refine NX.g_U ?_
  | with_reducible refine NX.g_I0 ?_
  | with_reducible refine NX.g_cb ?_
  | with_reducible refine NX.g_call ?_
  | with_reducible refine NX.g_cal ?_
  | with_reducible refine NX.g_calN ?_
  | with_reducible refine NX.g_nil ?_
  | with_reducible refine NX.g_cons ?_
  | with_reducible refine NX.g_test ?_
  | with_reducible refine NX.g_B ?_
  | with_reducible refine NX.g_bl ?_
  | with_reducible refine NX.g_exV ?_
  | with_reducible refine NX.g_exI ?_
  | with_reducible refine NX.g_and ?_
  | with_reducible refine NX.g_or ?_
  | with_reducible refine NX.g_not ?_
  | with_reducible refine NX.g_andV ?_
  | with_reducible refine NX.g_orV ?_
  | with_reducible refine NX.g_notV ?_
  | with_reducible refine NX.g_if ?_
  | with_reducible refine NX.g_chain ?_
  | with_reducible refine NX.g_chain3 ?_
  | with_reducible refine NX.g_tup ?_
  | with_reducible refine NX.g_lst ?_
  | with_reducible refine NX.g_sl ?_
  | with_reducible refine NX.g_noPart ?_
  | with_reducible refine NX.g_part ?_
  | with_reducible refine NX.g_bm ?_
  | with_reducible refine NX.g_bm0 ?_
  | with_reducible refine NX.g_eqI ?_
  | with_reducible refine NX.g_neI ?_
  | with_reducible refine NX.g_eqB ?_
  | with_reducible refine NX.g_neB ?_
  | with_reducible refine NX.s_ipI ?_
  | ((with_reducible refine' NX.s_aug ?gv ?gk); (case gv => exact rfl))
  | with_reducible refine NX.s_for ?_
  | with_reducible refine NX.g_lc ?_
  | with_reducible refine NX.g_iList ?_
  | with_reducible refine NX.g_iTup ?_
  | with_reducible refine NX.g_iRng1 ?_
  | with_reducible refine NX.g_iRng2 ?_
  | with_reducible refine NX.g_iEnum ?_
  | with_reducible refine NX.g_yes ?_
  | with_reducible refine NX.n_int ?_
  | with_reducible refine NX.n_intB ?_
  | with_reducible refine NX.n_min ?_
  | with_reducible refine NX.n_max ?_
  | with_reducible refine NX.n_isN ?_
  | with_reducible refine NX.n_notN ?_
  | with_reducible refine NX.g_lrg ?_
  | with_reducible refine NX.g_rg1 ?_
  | with_reducible refine NX.g_rg2 ?_
  | with_reducible refine NX.g_ex2I ?_
  | with_reducible refine NX.g_mth ?_
  | with_reducible refine NX.g_new ?_
  | with_reducible refine NX.g_fld ?_
  | with_reducible refine NX.s_fld ?_
  | with_reducible refine NX.if_nt ?_
  | with_reducible refine NX.if_nf ?_
  | with_reducible refine L2.iteT ?_
  | with_reducible refine L2.iteF ?_)
local macro_rules | `(tactic| walk_at "go") => `(tactic| repeat (walk_at "go1"))

/-! the text by places -/
namespace NX
open PySem PySem.Spec PyProof.Rows L2
def top (i : Nat) : Stmt := PySem.Challenge.pw_nextchannel_k31_smallest_networks.main.body.getD i (.Pass ⟨0, 0, 0, 0⟩)
/-- what the top leaves of built-ins and constants -/
structure Txt (mg : Str → Option Value) : Prop where
  n_all : mg "all" = none
  n_bool : mg "bool" = none
  n_enumerate : mg "enumerate" = none
  n_int : mg "int" = none
  n_isinstance : mg "isinstance" = none
  n_len : mg "len" = none
  n_list : mg "list" = none
  n_max : mg "max" = none
  n_range : mg "range" = none
  n_sorted : mg "sorted" = none
  n_sum : mg "sum" = none
  n_tuple : mg "tuple" = none
  m_MAX_CHANNEL : ∃ t, mg "MAX_CHANNEL" = some (.int 60 t)
  m_MAX_STATIONS : ∃ t, mg "MAX_STATIONS" = some (.int 60 t)
end NX

namespace NX
open PySem PySem.Spec PyProof.Rows L2
open Evl (Ex ex_l ex_t fresh_back)
abbrev s_is_int : Stmt := top 8
theorem sc_is_int : FnScope ["value"] ["value"] (defScope s_is_int) := ⟨rfl, rfl, rfl, by decide +kernel, rfl, by decide +kernel, by decide +kernel⟩
/-- the types of the values that the law hands around -/
def okTy (t : String) : Bool := t == "int" || t == "bool" || t == "str" || t == "NoneType" || t == "list" || t == "tuple" || t == "dict"
/-- x is of the built-in type t -/
def IsT (K : PySem.W.Frag) (H : Hp) (x : V) (t : String) : Prop := TyX K H x (.type t) ∧ okTy t = true
theorem IsT.int {K : PySem.W.Frag} {H : Hp} {i : Int} : IsT K H (.int i) "int" := ⟨.base (.int i), by decide +kernel⟩
/-- is_int(x): whether x is an int and no bool -/
def spIsInt (K : PySem.W.Frag) : Sp := fun vs H Q _ => ∃ x t, vs = [x] ∧ IsT K H x t ∧ Q (.bl (t == "int")) H
theorem g_isint {K : PySem.W.Frag} {H : Hp} {Q : VK} {E : XK} {i : Int} (k : Q (.bl true) H) : spIsInt K [.int i] H Q E := ⟨_, _, rfl, IsT.int, k⟩
theorem kit_int {t : String} (h : okTy t = true) : kitB t "int" = some (t == "int" || t == "bool") ∧ kitB t "bool" = some (t == "bool") ∧ kitB t "tuple" = some (t == "tuple") ∧ kitB t "list" = some (t == "list") := by
  unfold okTy at h
  simp only [Bool.or_eq_true, beq_iff_eq] at h
  rcases h with (((((h | h) | h) | h) | h) | h) | h <;> subst h <;> exact ⟨by decide +kernel, by decide +kernel, by decide +kernel, by decide +kernel⟩
section
variable {P : Program} {w : World} {K : PySem.W.Frag} {mg : Str → Option Value} {base : Heap}
theorem ok_is_int {f : Addr} {fd : FuncData} (F : Fun K "is_int" "is_int" s_is_int f fd) (T : Txt mg) : FnOk P w K mg base CX0 1 f fd ["value"] (spIsInt K) := by
  refine F.ok sc_is_int (fun vs H Q E h => ?_) (fun cdv A outer s H vs Q E hr h => ?_)
  · obtain ⟨x, t, rfl, _⟩ := h
    rfl
  · obtain ⟨x, t, rfl, ⟨ty, ok⟩, k⟩ := h
    obtain ⟨k1, k2, _, _⟩ := kit_int ok
    refine ⟨_, (pss_one (ps_ret (pe_and (pe_callB call_isi (by rfl) T.n_isinstance (by decide +kernel) (pa_cons (pv 0) (pa_cons (pe_bltn (v := .ty "int") (by rfl) T.n_int (by decide +kernel) rfl) pa_nil))) (pe_one (pe_not (pe_callB call_isi (by rfl) T.n_isinstance (by decide +kernel) (pa_cons (pv 0) (pa_cons (pe_bltn (v := .ty "bool") (by rfl) T.n_bool (by decide +kernel) rfl) pa_nil)))))))), ?_⟩
    walk_at "go"
    refine ⟨x, _, _, _, _, rfl, .ty _, ty, kit_ty k1, ?_⟩
    walk_at "go"
    by_cases c : t = "int"
    · subst c
      refine iteT ?_
      walk_at "go"
      refine ⟨x, _, _, _, _, rfl, .ty _, ty, kit_ty k2, ?_⟩
      walk_at "go"
      exact k
    · by_cases c2 : t = "bool"
      · subst c2
        refine iteT ?_
        walk_at "go"
        refine ⟨x, _, _, _, _, rfl, .ty _, ty, kit_ty k2, ?_⟩
        walk_at "go"
        exact k
      · have e : (t == "int" || t == "bool") = false := by simp [c, c2]
        have e2 : (t == "int") = false := by simp [c]
        rw [e]
        refine iteF ?_
        rw [e2] at k
        exact k
end
end NX

namespace NX
open PySem PySem.Spec PyProof.Rows L2
open Evl (Ex ex_l ex_t fresh_back)
abbrev s_NoChannel___init__ : Stmt := inClass (top 4) 0
theorem sc_NoChannel___init__ : FnScope ["self", "channel"] ["self", "channel"] (defScope s_NoChannel___init__) := ⟨rfl, rfl, rfl, by decide +kernel, rfl, by decide +kernel, by decide +kernel⟩
abbrev s_NoNetwork___init__ : Stmt := inClass (top 2) 0
theorem sc_NoNetwork___init__ : FnScope ["self", "index"] ["self", "index"] (defScope s_NoNetwork___init__) := ⟨rfl, rfl, rfl, by decide +kernel, rfl, by decide +kernel, by decide +kernel⟩
theorem ok_ini_NoChannel {P : Program} {w : World} {K : PySem.W.Frag} {mg : Str → Option Value} {base : Heap} {CL C0 : Addr} {f : Addr} {fd : FuncData} (F : Fun K "__init__" "NoChannel.__init__" s_NoChannel___init__ f fd) (m_ChannelError : mg "ChannelError" = some (.ref C0)) (BC : BaseC K C0) (hno : PySem.W.findIn K (.ref CL) "channel" = some none) : FnOk P w K mg base CX0 1 f fd ["self", "channel"] (spExInit K CL "channel") := by
  refine F.ok sc_NoChannel___init__ (fun vs H Q E h => ?_) (fun cdv A outer s H vs Q E hr h => ?_)
  · obtain ⟨a, v, rfl, _⟩ := h
    rfl
  · obtain ⟨a, v, rfl, ha, T, k⟩ := h
    refine ⟨_, (pss_cons (ps_expr (pe_oeinit (K := K) m_ChannelError BC (pa_cons (pv 0) (pa_cons pe_str pa_nil))))
      (pss_one (ps_ost (pv 0) (pv 1) rfl))), ?_⟩
    walk_at "go"
    refine n_vei ?_
    walk_at "go"
    refine ⟨a, CL, _, rfl, by simp, T, ha, ?_⟩
    refine s_ost ?_
    walk_at "go"
    exact ⟨a, CL, rfl, T, hno, .inl ⟨ha, fun dx h1 h2 => k dx h1 h2⟩⟩
theorem ok_ini_NoNetwork {P : Program} {w : World} {K : PySem.W.Frag} {mg : Str → Option Value} {base : Heap} {CL C0 : Addr} {f : Addr} {fd : FuncData} (F : Fun K "__init__" "NoNetwork.__init__" s_NoNetwork___init__ f fd) (m_ChannelError : mg "ChannelError" = some (.ref C0)) (BC : BaseC K C0) (hno : PySem.W.findIn K (.ref CL) "index" = some none) : FnOk P w K mg base CX0 1 f fd ["self", "index"] (spExInit K CL "index") := by
  refine F.ok sc_NoNetwork___init__ (fun vs H Q E h => ?_) (fun cdv A outer s H vs Q E hr h => ?_)
  · obtain ⟨a, v, rfl, _⟩ := h
    rfl
  · obtain ⟨a, v, rfl, ha, T, k⟩ := h
    refine ⟨_, (pss_cons (ps_expr (pe_oeinit (K := K) m_ChannelError BC (pa_cons (pv 0) (pa_cons pe_str pa_nil))))
      (pss_one (ps_ost (pv 0) (pv 1) rfl))), ?_⟩
    walk_at "go"
    refine n_vei ?_
    walk_at "go"
    refine ⟨a, CL, _, rfl, by simp, T, ha, ?_⟩
    refine s_ost ?_
    walk_at "go"
    exact ⟨a, CL, rfl, T, hno, .inl ⟨ha, fun dx h1 h2 => k dx h1 h2⟩⟩
/-- the class at CL is raised with v as its field f -/
def Thr (E : XK) (CL : Addr) (f : Str) (v : V) (H : Hp) : Prop := ∀ d H', Ex H H' → H' d = some (.xd [(f, v)]) → E (.ref CL) (some d) H'
/-- a value of an odd kind -/
inductive OddV (G : Hp) : V → String → Prop where
  | non : OddV G .non "NoneType"
  | bl (b : Bool) : OddV G (.bl b) "bool"
  | str (s : Str) : OddV G (.str s) "str"
  | int (i : Int) : OddV G (.int i) "int"
  | lst {a : Addr} {xs : List V} (h : G a = some (.lst xs)) : OddV G (.ref a) "list"
  | tup {a : Addr} {xs : List V} (h : G a = some (.tup xs)) : OddV G (.ref a) "tuple"
  | dct {a : Addr} {kvs : List (List L2.Key × V)} (h : G a = some (.dT kvs)) : OddV G (.ref a) "dict"
theorem OddV.mono {G H : Hp} {v : V} {t : String} (h : OddV G v t) (e : Ex G H) : OddV H v t := by
  cases h with
  | non => exact .non
  | bl b => exact .bl b
  | str s => exact .str s
  | int i => exact .int i
  | lst h => exact .lst (e _ _ h)
  | tup h => exact .tup (e _ _ h)
  | dct h => exact .dct (e _ _ h)
theorem OddV.noT {G : Hp} {v : V} {t : String} (h : OddV G v t) : OddV (NX.noT G) v t := by
  cases h with
  | non => exact .non
  | bl b => exact .bl b
  | str s => exact .str s
  | int i => exact .int i
  | lst h => exact .lst (noT_of h fun ps z => by cases z)
  | tup h => exact .tup (noT_of h fun ps z => by cases z)
  | dct h => exact .dct (noT_of h fun ps z => by cases z)
theorem OddV.isT {K : PySem.W.Frag} {G : Hp} {v : V} {t : String} (h : OddV G v t) : IsT K G v t := by
  cases h with
  | non => exact ⟨.base .non, by decide +kernel⟩
  | bl b => exact ⟨.base (.bl b), by decide +kernel⟩
  | str s => exact ⟨.base (.str s), by decide +kernel⟩
  | int i => exact ⟨.base (.int i), by decide +kernel⟩
  | lst h => exact ⟨.base (.lst h), by decide +kernel⟩
  | tup h => exact ⟨.base (.tup h), by decide +kernel⟩
  | dct h => exact ⟨.base (.dT h), by decide +kernel⟩
theorem OddV.sm {G : Hp} {v : V} {t : String} (h : OddV G v t) : sameV v = true := by cases h <;> rfl
theorem IsT.mono {K : PySem.W.Frag} {H : Hp} {v : V} {t : String} (h : IsT K H v t) : okTy t = true := h.2
/-- no int from lo to hi -/
def NoIn (lo hi : Int) (v : V) (t : String) : Prop := t = "int" → ∃ i, v = .int i ∧ ¬ (lo ≤ i ∧ i ≤ hi)
end NX

namespace NX
/-! ### chains and tables, no program in sight -/
def cge (ns : List Int) (j : Int) : Nat := ns.countP fun x => decide (j ≤ x)
/-- k of the numbers are at least 1, 2 .. k, each another one -/
def Has (ns : List Int) (k : Int) : Prop := ∀ j : Int, 1 ≤ j → j ≤ k → k - j + 1 ≤ (cge ns j : Int)
def IsCh (ns : List Int) (g : Int) : Prop := 0 ≤ g ∧ ∀ k : Int, k ≤ g ↔ Has ns k
theorem Has.down {ns : List Int} {k l : Int} (h : Has ns k) (e : l ≤ k) : Has ns l := fun j h1 h2 => by have := h j h1 (by omega); omega
theorem IsCh.uniq {ns : List Int} {g g' : Int} (h : IsCh ns g) (h' : IsCh ns g') : g = g' := by
  have h1 := (h'.2 g).mpr ((h.2 g).mp (Int.le_refl _))
  have h2 := (h.2 g').mpr ((h'.2 g').mp (Int.le_refl _))
  omega
theorem cge_perm {ns ms : List Int} (p : ns.Perm ms) (j : Int) : cge ns j = cge ms j := p.countP_eq _
theorem IsCh.perm {ns ms : List Int} {g : Int} (h : IsCh ns g) (p : ns.Perm ms) : IsCh ms g :=
  ⟨h.1, fun k => (h.2 k).trans ⟨fun a j h1 h2 => by rw [← cge_perm p]; exact a j h1 h2, fun a j h1 h2 => by rw [cge_perm p]; exact a j h1 h2⟩⟩
theorem cge_app (ns ms : List Int) (j : Int) : cge (ns ++ ms) j = cge ns j + cge ms j := List.countP_append ..
theorem cge_one (x j : Int) : cge [x] j = if j ≤ x then 1 else 0 := by unfold cge; simp
theorem cge_cons (x : Int) (ns : List Int) (j : Int) : cge (x :: ns) j = cge [x] j + cge ns j := cge_app [x] ns j
theorem cge_len (ns : List Int) (j : Int) : cge ns j ≤ ns.length := List.countP_le_length
theorem IsCh.nil : IsCh [] 0 := ⟨Int.le_refl _, fun k => ⟨fun h j h1 h2 => by omega, fun h => by
  by_cases c : k ≤ 0
  · exact c
  · have := h k (by omega) (Int.le_refl _)
    unfold cge at this
    simp at this⟩⟩
theorem IsCh.snoc {ns : List Int} {g x : Int} (h : IsCh ns g) (hx : ∀ y ∈ ns, y ≤ x) : IsCh (ns ++ [x]) (if x > g then g + 1 else g) := by
  obtain ⟨h0, h⟩ := h
  by_cases c : x > g
  · rw [if_pos c]
    refine ⟨by omega, fun k => ⟨fun hk j h1 h2 => ?_, fun hk => ?_⟩⟩
    · rw [cge_app, cge_one, if_pos (by omega)]
      by_cases e : j ≤ k - 1
      · have := (h (k - 1)).mp (by omega) j h1 e
        omega
      · omega
    · have : Has ns (k - 1) := fun j h1 h2 => by
        have := hk j h1 (by omega)
        rw [cge_app, cge_one] at this
        split at this <;> omega
      have := (h (k - 1)).mpr this
      omega
  · rw [if_neg c]
    refine ⟨h0, fun k => ⟨fun hk j h1 h2 => ?_, fun hk => ?_⟩⟩
    · have := (h k).mp hk j h1 h2
      rw [cge_app]
      omega
    · by_cases e : k ≤ g
      · exact e
      · have := hk.down (show g + 1 ≤ k by omega) (g + 1) (by omega) (Int.le_refl _)
        rw [cge_app, cge_one, if_neg (by omega)] at this
        have z : cge ns (g + 1) = 0 := by
          unfold cge
          refine List.countP_eq_zero.mpr fun y hy => ?_
          have := hx y hy
          simp
          omega
        rw [z] at this
        omega
theorem IsCh.le_len {ns : List Int} {g : Int} (h : IsCh ns g) : g ≤ (ns.length : Int) := by
  by_cases c : g ≤ 0
  · omega
  · have := (h.2 g).mp (Int.le_refl _) 1 (Int.le_refl _) (by omega)
    have z := cge_len ns 1
    omega
/-- more and greater numbers: a longer chain -/
theorem cge_mono {α : Type} {f g : α → Int} : ∀ {l m : List α}, l.Sublist m → (∀ x ∈ l, f x ≤ g x) → ∀ j, cge (l.map f) j ≤ cge (m.map g) j
  | _, _, .slnil, _, j => Nat.le_refl _
  | _, _, .cons a s, h, j => by
    have := cge_mono s h j
    rw [List.map_cons]
    rw [cge_cons]
    omega
  | _, _, .cons₂ a s, h, j => by
    have := cge_mono s (fun x hx => h x (List.mem_cons_of_mem _ hx)) j
    rw [List.map_cons, List.map_cons]
    rw [cge_cons (f a), cge_cons (g a), cge_one, cge_one]
    have := h a List.mem_cons_self
    split <;> split <;> omega
theorem IsCh.mono {α : Type} {f g : α → Int} {l m : List α} {c d : Int} (s : l.Sublist m) (h : ∀ x ∈ l, f x ≤ g x) (hc : IsCh (l.map f) c) (hd : IsCh (m.map g) d) : c ≤ d :=
  (hd.2 c).mpr fun j h1 h2 => by
    have := (hc.2 c).mp (Int.le_refl _) j h1 h2
    have := cge_mono s h j
    omega
/-- a value that is smaller somewhere: a station that shows it -/
theorem cge_less {α : Type} {f g : α → Int} {j : Int} : ∀ {l m : List α}, l.Sublist m → cge (m.map g) j < cge (l.map f) j → ∃ x ∈ l, g x < j ∧ j ≤ f x
  | _, _, .slnil, h => absurd h (Nat.lt_irrefl _)
  | _, _, .cons a s, h => by
    rw [List.map_cons, cge_cons (g a)] at h
    exact cge_less s (by omega)
  | _, _, .cons₂ a s, h => by
    rw [List.map_cons, List.map_cons] at h
    rw [cge_cons (f a), cge_cons (g a), cge_one, cge_one] at h
    by_cases c : g a < j ∧ j ≤ f a
    · exact ⟨a, List.mem_cons_self, c⟩
    · obtain ⟨x, hx, hh⟩ := cge_less (f := f) (g := g) s (j := j) (by split at h <;> split at h <;> omega)
      exact ⟨x, List.mem_cons_of_mem _ hx, hh⟩
/-- a table: each station's number by those of its neighbours; V, N: stations, neighbours -/
def Tab {α : Type} (V : α → Prop) (N : α → List α) (t : α → Int) : Prop := ∀ v, V v → IsCh ((N v).map t) (t v - 1)
/-- tables compared: b's stations are sent into a's, their neighbours (but for the order) among the neighbours there -/
theorem tab_le {α β : Type} {V : α → Prop} {V' : β → Prop} {N : α → List α} {N' : β → List β} {a : α → Int} {b : β → Int} (ha : Tab V N a) (hb : Tab V' N' b) (φ : β → α) (hV : ∀ v, V' v → V (φ v)) (hN' : ∀ v, V' v → ∀ u ∈ N' v, V' u)
    (hN : ∀ v, V' v → ∃ m : List α, m.Perm (N (φ v)) ∧ ((N' v).map φ).Sublist m) : ∀ v, V' v → b v ≤ a (φ v) := by
  have key : ∀ (n : Nat) v, V' v → (a (φ v)).toNat = n → b v ≤ a (φ v) := by
    intro n
    induction n using Nat.strongRecOn with
    | ind n ih =>
      intro v hv hn
      by_cases c : b v ≤ a (φ v)
      · exact c
      · have h1 := ha _ (hV v hv)
        have h2 := hb v hv
        have no : ¬ Has ((N (φ v)).map a) (a (φ v)) := fun z => by
          have := (h1.2 _).mpr z
          omega
        have yes : Has ((N' v).map b) (a (φ v)) := (h2.2 _).mp (by omega)
        obtain ⟨m, hm, hs⟩ := hN v hv
        have : ∃ j : Int, 1 ≤ j ∧ j ≤ a (φ v) ∧ (cge ((N (φ v)).map a) j : Int) < a (φ v) - j + 1 := Classical.byContradiction fun z => no fun j h1 h2 => Classical.byContradiction fun y => z ⟨j, h1, h2, by omega⟩
        obtain ⟨j, hj1, hj2, hlt⟩ := this
        have hy := yes j hj1 hj2
        have hm' : cge ((N (φ v)).map a) j = cge (m.map a) j := (cge_perm (hm.map a) j).symm
        -- as values: b on N' against a along φ
        have : ∃ u ∈ N' v, a (φ u) < j ∧ j ≤ b u := by
          have hlt' : cge (m.map a) j < cge ((N' v).map b) j := by omega
          have sub : cge (((N' v).map φ).map a) j ≤ cge (m.map a) j := by
            have := cge_mono (f := a) (g := a) hs (fun _ _ => Int.le_refl _) j
            exact this
          rw [List.map_map] at sub
          exact cge_less (f := b) (g := a ∘ φ) (List.Sublist.refl (N' v)) (by omega)
        obtain ⟨u, hu, hu1, hu2⟩ := this
        have hvu := hN' v hv u hu
        have := ih (a (φ u)).toNat (by omega) u hvu rfl
        omega
  exact fun v hv => key _ v hv rfl
end NX

namespace NX
open PySem PySem.Spec PyProof.Rows L2
open Evl (Ex ex_l ex_t fresh_back)
/-! ### lists of whole numbers -/
theorem dp_ints {K : PySem.W.Frag} {H : Hp} : ∀ ns : List Int, DpAll K H (ns.map V.int) (ns.map PyData.int)
  | [] => .nil
  | n :: ns => .cons (.int n) (dp_ints ns)
theorem lay_ints : ∀ ns : List Int, PyData.canLayAll0 (ns.map PyData.int) = true
  | [] => by rw [List.map_nil]; unfold PyData.canLayAll0; rfl
  | n :: ns => by
    rw [List.map_cons]
    unfold PyData.canLayAll0
    rw [lay_ints ns]
    simp only [PyData.canLay0, Bool.and_self]
theorem depth_ints : ∀ ns : List Int, PyData.depthAll (ns.map PyData.int) = 0
  | [] => by rw [List.map_nil]; unfold PyData.depthAll; rfl
  | n :: ns => by
    rw [List.map_cons]
    unfold PyData.depthAll
    rw [depth_ints ns]
    simp [PyData.depth]
theorem shaped_ints (ns : List Int) : SeqAt.shaped (.list (ns.map PyData.int)) = true := by
  unfold SeqAt.shaped
  rw [Bool.and_eq_true]
  refine ⟨?_, decide_eq_true ?_⟩
  · simp only [PyData.canLay0]
    exact lay_ints ns
  · simp only [PyData.depth]
    rw [depth_ints]
    omega
theorem shaped_intsT (ns : List Int) : SeqAt.shaped (.tuple (ns.map PyData.int)) = true := by
  unfold SeqAt.shaped
  rw [Bool.and_eq_true]
  refine ⟨?_, decide_eq_true ?_⟩
  · simp only [PyData.canLay0]
    exact lay_ints ns
  · simp only [PyData.depth]
    rw [depth_ints]
    omega
theorem eqvAll_ints : ∀ ns ms : List Int, PyData.eqvAll (ns.map PyData.int) (ms.map PyData.int) = decide (ns = ms)
  | [], [] => by simp [PyData.eqvAll]
  | [], q :: qs => by simp [PyData.eqvAll]
  | p :: ps, [] => by simp [PyData.eqvAll]
  | p :: ps, q :: qs => by
    rw [List.map_cons, List.map_cons, PyData.eqvAll, eqvAll_ints ps qs, Bool.eq_iff_iff]
    simp [PyData.eqv]
theorem eqv_ints (ns ms : List Int) : PyData.eqv (.list (ns.map PyData.int)) (.list (ms.map PyData.int)) = decide (ns = ms) := by
  rw [PyData.eqv]; exact eqvAll_ints ns ms
theorem eqv_intsT (ns ms : List Int) : PyData.eqv (.tuple (ns.map PyData.int)) (.tuple (ms.map PyData.int)) = decide (ns = ms) := by
  rw [PyData.eqv]; exact eqvAll_ints ns ms
section
variable {K : PySem.W.Frag} {G H : Hp} {L : List (Addr × HO)} {p q : Addr} {xs : List V} {v : V} {Q : VK} {ns ms : List Int}
theorem n_neIL (h1 : SqL K H p (ns.map V.int)) (h2 : SqL K H q (ms.map V.int)) (k : Q (.bl (!decide (ns = ms))) H) : rNeD K (.ref p) (.ref q) H Q :=
  ⟨_, _, .lst h1 (dp_ints ns), .lst h2 (dp_ints ms), shaped_ints ns, shaped_ints ms, by rw [eqv_ints]; exact k⟩
theorem n_eqIL (h1 : SqL K H p (ns.map V.int)) (h2 : SqL K H q (ms.map V.int)) (k : Q (.bl (decide (ns = ms))) H) : rEqD K (.ref p) (.ref q) H Q :=
  ⟨_, _, .lst h1 (dp_ints ns), .lst h2 (dp_ints ms), shaped_ints ns, shaped_ints ms, by rw [eqv_ints]; exact k⟩
theorem n_neIT (h1 : SqT K H p (ns.map V.int)) (h2 : SqT K H q (ms.map V.int)) (k : Q (.bl (!decide (ns = ms))) H) : rNeD K (.ref p) (.ref q) H Q :=
  ⟨_, _, .tup h1 (dp_ints ns), .tup h2 (dp_ints ms), shaped_intsT ns, shaped_intsT ms, by rw [eqv_intsT]; exact k⟩
theorem n_eqIT (h1 : SqT K H p (ns.map V.int)) (h2 : SqT K H q (ms.map V.int)) (k : Q (.bl (decide (ns = ms))) H) : rEqD K (.ref p) (.ref q) H Q :=
  ⟨_, _, .tup h1 (dp_ints ns), .tup h2 (dp_ints ms), shaped_intsT ns, shaped_intsT ms, by rw [eqv_intsT]; exact k⟩
/-- sorted(a list of numbers), read from now on -/
theorem n_sortI (S : Own G L H) (h : SqL K H p (ns.map V.int)) (k : ∀ (ms : List Int) q G1 H1, ms.Perm ns → ms.Pairwise (· ≤ ·) → H q = none → Ex G G1 → Ex H H1 → G1 q = some (.lst (ms.map V.int)) → Own G1 L H1 → Q (.ref q) H1) : rSortedI K [.ref p] H Q :=
  ⟨p, ns, rfl, h, fun ms q h1 h2 hq => k ms q _ _ h1 h2 hq (S.still hq).2.1 (Ex.new hq) (S.still hq).2.2 (S.still hq).1⟩
/-! ### results that are new -/
def Ret (o : HO) (H : Hp) (Q : VK) : Prop := ∀ p H', H p = none → Ex H H' → H' p = some o → Q (.ref p) H'
theorem n_retO {o : HO} (S : Own G L H) (ht : noTup o = true) (k : ∀ p H1, H p = none → Ex H H1 → Own G ((p, o) :: L) H1 → Q (.ref p) H1) : Ret o H Q :=
  fun p H' hp e h => k p H' hp e (S.new e hp h ht)
theorem n_retG {o : HO} (S : Own G L H) (k : ∀ p G1 H1, H p = none → Ex G G1 → Ex H H1 → G1 p = some o → Own G1 L H1 → Q (.ref p) H1) : Ret o H Q :=
  fun p H' hp e h => by
    obtain ⟨S1, e1, e2⟩ := S.absorb e
    exact k p _ H' hp e1 e (e2 _ _ ((nw_new hp).trans h)) S1
theorem Own.pure (S : Own G [] H) : Ex G H := S.ex
end
/-- what stood still may be changed from now on -/
theorem Own.thaw {G H : Hp} {L : List (Addr × HO)} {p : Addr} {o : HO} (S : Own G L H) (h : G p = some o) (ht : noTup o = true := by rfl) : Own (cut G [(p, o)]) ((p, o) :: L) H ∧ ∀ a u, a ≠ p → G a = some u → cut G [(p, o)] a = some u :=
  ⟨⟨fun a u e => by
      by_cases m : a ∈ ([(p, o)] : List (Addr × HO)).map Prod.fst
      · rw [cut_in m] at e; cases e
      · rw [cut_out m] at e; exact S.ex _ _ e, fun x hx => by
      rcases List.mem_cons.mp hx with rfl | hx
      · exact ⟨cut_in (by simp), S.ex _ _ h⟩
      · have z := S.at_ x hx
        refine ⟨?_, z.2⟩
        have ne : x.1 ≠ p := fun e => by rw [e, h] at z; cases z.1
        rw [cut_out (by simpa using ne)]
        exact z.1, by
      rw [List.map_cons, List.nodup_cons]
      refine ⟨fun m => ?_, S.nd⟩
      obtain ⟨x, hx, e⟩ := List.mem_map.mp m
      have z := (S.at_ x hx).1
      rw [e, h] at z
      exact (nomatch z), fun x hx => by
      rcases List.mem_cons.mp hx with rfl | hx
      · exact ht
      · exact S.nt x hx⟩, fun a u ne e => by rw [cut_out (by simpa using ne)]; exact e⟩
/-! ### one number of a list -/
def tv (t : List Int) (j : Int) : Int := t.getD j.toNat 0
theorem tv_nat (t : List Int) (i : Nat) : tv t (i : Int) = t.getD i 0 := by unfold tv; rw [Int.toNat_natCast]
theorem tv_get {t : List Int} {i : Nat} {x : Int} (h : t[i]? = some x) : tv t (i : Int) = x := by rw [tv_nat, List.getD_eq_getElem?_getD, h] <;> rfl
theorem get_tv {t : List Int} {i : Nat} (h : i < t.length) : t[i]? = some (tv t (i : Int)) := by
  rw [tv_nat, List.getD_eq_getElem?_getD, List.getElem?_eq_getElem h] <;> rfl
theorem at_tv {t : List Int} {j : Int} (h0 : 0 ≤ j) (h : j < (t.length : Int)) : atI (t.map V.int) j = some (.int (tv t j)) := by
  obtain ⟨i, rfl⟩ : ∃ i : Nat, j = (i : Int) := ⟨j.toNat, by omega⟩
  exact atI_nat (by rw [List.getElem?_map, get_tv (by omega)] <;> rfl)
theorem tv_app1 {t : List Int} {x : Int} {j : Int} (h : j < (t.length : Int)) (h0 : 0 ≤ j) : tv (t ++ [x]) j = tv t j := by
  unfold tv
  rw [List.getD_eq_getElem?_getD, List.getD_eq_getElem?_getD, List.getElem?_append_left (by omega)]
theorem tv_app2 {t : List Int} {x : Int} : tv (t ++ [x]) (t.length : Int) = x := tv_get (by simp)
theorem tv_ext {s t : List Int} (hl : s.length = t.length) (h : ∀ i : Nat, i < s.length → tv s (i : Int) = tv t (i : Int)) : s = t := by
  refine List.ext_getElem? fun i => ?_
  by_cases c : i < s.length
  · rw [get_tv c, get_tv (by omega), h i c]
  · rw [List.getElem?_eq_none (by omega), List.getElem?_eq_none (by omega)]
theorem tv_out {t : List Int} {j : Int} (h : (t.length : Int) ≤ j) : tv t j = 0 := by
  unfold tv
  rw [List.getD_eq_getElem?_getD, List.getElem?_eq_none (by omega)] <;> rfl
theorem tv_cons (x : Int) (t : List Int) (i : Nat) : tv (x :: t) ((i + 1 : Nat) : Int) = tv t (i : Int) := by
  rw [tv_nat, tv_nat] <;> rfl
theorem tv_zero (x : Int) (t : List Int) : tv (x :: t) 0 = x := rfl
theorem sum_le : ∀ {s t : List Int}, s.length = t.length → (∀ i : Nat, i < s.length → tv s (i : Int) ≤ tv t (i : Int)) → s.sum ≤ t.sum ∧ (s ≠ t → s.sum < t.sum)
  | [], [], _, _ => ⟨Int.le_refl _, fun h => absurd rfl h⟩
  | [], _ :: _, h, _ => absurd h (by simp)
  | _ :: _, [], h, _ => absurd h (by simp)
  | a :: s, b :: t, hl, h => by
    have ih := sum_le (s := s) (t := t) (by simpa using hl) fun i hi => by
      have := h (i + 1) (by simp; omega)
      rw [tv_cons, tv_cons] at this
      exact this
    have h0 := h 0 (by simp)
    have h0 : a ≤ b := h0
    rw [List.sum_cons, List.sum_cons]
    refine ⟨by omega, fun ne => ?_⟩
    by_cases c : s = t
    · have : a ≠ b := fun e => ne (by rw [e, c])
      have := ih.1
      omega
    · have := ih.2 c
      omega
theorem sum_nn : ∀ {s : List Int}, (∀ i : Nat, i < s.length → 0 ≤ tv s (i : Int)) → 0 ≤ s.sum
  | [], _ => Int.le_refl _
  | a :: s, h => by
    have ih := sum_nn (s := s) fun i hi => by
      have := h (i + 1) (by simp; omega)
      rw [tv_cons] at this
      exact this
    have h0 : 0 ≤ a := h 0 (by simp)
    rw [List.sum_cons]
    omega
theorem rep_flat (m : Nat) (x : V) : (List.replicate m [x]).flatten = List.replicate m x := by
  induction m with
  | zero => rfl
  | succ m ih => rw [List.replicate_succ, List.flatten_cons, ih, List.replicate_succ] <;> rfl
theorem tv_rep {m i : Nat} {x : Int} (h : i < m) : tv (List.replicate m x) (i : Int) = x := tv_get (by rw [List.getElem?_replicate, if_pos h])
/-- [x] * m -/
theorem n_rep {H G : Hp} {L : List (Addr × HO)} {p : Addr} {x : Int} {m : Int} {Q : VK} (S : Own G ((p, .lst [.int x]) :: L) H) (h0 : 0 ≤ m) (hz : m ≤ 100000) (k : ∀ q G1 H1, H q = none → Ex G G1 → Ex H H1 → G1 q = some (.lst ((List.replicate m.toNat x).map V.int)) → Own G1 L H1 → Q (.ref q) H1) : rRep (.ref p) (.int m) H Q :=
  ⟨p, m, _, rfl, rfl, S.get0, by omega, by omega, small (by simp; omega), fun q hq => by
    have T := S.forget.still (o := .lst (List.replicate m.toNat [V.int x]).flatten) hq
    refine k q _ _ hq T.2.1 (Ex.new hq) ?_ T.1
    rw [T.2.2, rep_flat, List.map_replicate]⟩
end NX

namespace NX
open PySem PySem.Spec PyProof.Rows L2
open Evl (Ex ex_l ex_t fresh_back)
open LamX (CodeO TabB)
abbrev s__law_said : Stmt := top 25
theorem sc__law_said : FnScope ["_law_call", "_law_word", "e", "_law_is_channel"] ["_law_call"] (defScope s__law_said) := ⟨rfl, rfl, rfl, by decide +kernel, rfl, by decide +kernel, by decide +kernel⟩
theorem kitNo3 {K : PySem.W.Frag} {t a b c : Value} (h1 : PySem.W.kitOne K t a = some false) (h2 : PySem.W.kitOne K t b = some false) (h3 : PySem.W.kitOne K t c = some false) : PySem.W.kitAny K t [a, b, c] = some false :=
  kitAny_cons h1 (fun _ => kitAny_cons h2 (fun _ => kitAny_cons h3 (fun _ => kitAny_nil) fun z => by cases z) fun z => by cases z) fun z => by cases z
theorem cls3 (a b c : Addr) : Paired ClsV [.ref a, .ref b, .ref c] [.ref a, .ref b, .ref c] := .cons (.own _) (.cons (.own _) (.cons (.own _) .nil))
def ESaid1 (CCh : Addr) (Q : VK) : XK := fun cls d H => ∃ dd v, d = some dd ∧ cls = .ref CCh ∧ H dd = some (.xd [("channel", v)]) ∧ Ret (.tup [.str "channel", v]) H Q
def SaidT1 (CCh : Addr) : (XK → Hp → VK → Prop) → Hp → VK → Prop := fun tl H Q => ∀ (E : XK) (Q' : VK), (∀ cls d H', ESaid1 CCh Q cls d H' → E cls d H') → (∀ v H', Q (.str "told") H' → Q' v H') → tl E H Q'
theorem said_gives {X : Cx} {C0 CCh CNw CRg CSt g : Addr} {cdg : Value} {q : Str} (T : Txt X.mg) (m_ChannelError : X.mg "ChannelError" = some (.ref C0)) (m_NoChannel : X.mg "NoChannel" = some (.ref CCh)) (m_NoNetwork : X.mg "NoNetwork" = some (.ref CNw)) (m_HasRing : X.mg "HasRing" = some (.ref CRg))
    (m_NoStation : X.mg "NoStation" = some (.ref CSt)) (XF_NoChannel : XfC X.K CCh) (XN_NoChannel : PySem.W.findIn X.K (.ref CCh) "channel" = some none) (E1 : ExcD X.K CCh)
    (te1 : PySem.W.exmOne X.K (.ref CCh) (.ref C0) = some true) (kc : PySem.W.kitOne X.K (.ref CCh) (.ref CCh) = some true) (kr : PySem.W.kitOne X.K (.ref CCh) (.ref CRg) = some false) (kn : PySem.W.kitOne X.K (.ref CCh) (.ref CNw) = some false) (ks : PySem.W.kitOne X.K (.ref CCh) (.ref CSt) = some false) :
    GivesS X ["_law_call", "_law_word", "e", "_law_is_channel"] "_law_said" (defScope s__law_said) g cdg (defBody s__law_said) "_law_call" q (SaidT1 CCh) := by
  intro f c' s H Q tl act hc h
  refine ⟨_, (pss_cons (ps_set (i := 1) sc__law_said.nd rfl (Or.inl rfl) pe_str)
      (pss_cons (ps_try_as (i := 2) rfl rfl sc__law_said.nd rfl rfl ⟨rfl, by decide, Or.inl m_ChannelError⟩ takes0 (fun W pn xe tk _ => (pss_one (ps_expr (act W pn xe _ _ tk)))) (fun a oe cls d pn hz hf => (pss_cons (ps_set (i := 3) sc__law_said.nd rfl (Or.inl rfl) (pe_and (pe_callB (call_isX (K := X.K) hz hf) (by rfl) T.n_isinstance (by decide +kernel) (pa_cons (pv 2) (pa_cons (pe_cls m_NoChannel) pa_nil))) (pe_one (pe_not (pe_callB (call_isX (K := X.K) hz hf) (by rfl) T.n_isinstance (by decide +kernel) (pa_cons (pv 2) (pa_cons (pe_tup (pa_cons (pe_cls m_HasRing) (pa_cons (pe_cls m_NoNetwork) (pa_cons (pe_cls m_NoStation) pa_nil)))) pa_nil)))))))
      (pss_one (ps_set (i := 1) sc__law_said.nd rfl (Or.inl rfl) (pe_ifExp (pt_val (pv 3)) (pe_tup (pa_cons pe_str (pa_cons (pe_xf XF_NoChannel XN_NoChannel hz hf (pv 2)) pa_nil))) pe_str))))))
      (pss_one (ps_ret (pv 1))))), ?_⟩
  walk_at "go"
  refine g_act rfl hc ?_
  refine h _ _ (fun cls d H' hE => ?_) (fun v H' hq => ?_)
  · obtain ⟨dd, v, rfl, rfl, hd, hq⟩ := hE
    refine n_as te1 fun a0 ha0 => ?_
    walk_at "go"
    refine ⟨CCh, dd, _, _, true, rfl, rfl, hd, E1, rfl, .inl ⟨_, .own _, kc⟩, ?_⟩
    walk_at "go"
    refine n_tup (Own.start H') (by show 3 ≤ 10000000; decide) fun t1 G1 H1 _ _ e1 ht1 S1 => ?_
    refine ⟨CCh, dd, _, _, false, rfl, rfl, e1 _ _ hd, E1, rfl, .inr ⟨t1, _, _, rfl, S1.ex _ _ ht1, cls3 _ _ _, kitNo3 kr kn ks⟩, ?_⟩
    walk_at "go"
    refine g_xf ?_
    walk_at "go"
    refine n_xf (e1 _ _ hd) ?_
    walk_at "go"
    refine n_tup S1 (by show 2 ≤ 10000000; decide) fun t2 G2 H2 ht20 _ e2 ht2 S2 => ?_
    walk_at "go"
    exact hq t2 H2 (fresh_back e1 ht20) (e1.trans e2) (S2.ex _ _ ht2)
  · walk_at "go"
    exact hq
end NX

namespace NX
open PySem PySem.Spec PyProof.Rows L2
open Evl (Ex ex_l ex_t fresh_back)
/-! ### lists of pairs of numbers -/
def isPr (H : Hp) (x : V) (q : Int × Int) : Prop := ∃ t, x = .ref t ∧ H t = some (.tup [.int q.1, .int q.2])
abbrev Lks (H : Hp) : List V → List (Int × Int) → Prop := Paired (isPr H)
theorem Lks.mono {G H : Hp} (e : Ex G H) {xs : List V} {ps : List (Int × Int)} (h : Lks G xs ps) : Lks H xs ps := Paired.mapP h fun _ _ ⟨t, a, b⟩ => ⟨t, a, e _ _ b⟩
theorem pr_snoc {α β : Type} {F : α → β → Prop} : ∀ {xs : List α} {ys : List β} {a : α} {b : β}, Paired F xs ys → F a b → Paired F (xs ++ [a]) (ys ++ [b])
  | _, _, _, _, .nil, h => .cons h .nil
  | _, _, _, _, .cons r t, h => .cons r (pr_snoc t h)
theorem pr_len {α β : Type} {F : α → β → Prop} {xs : List α} {ys : List β} (h : Paired F xs ys) : xs.length = ys.length := Paired.length h
theorem pr_get {α β : Type} {F : α → β → Prop} : ∀ {xs : List α} {ys : List β} {i : Nat} {a : α}, Paired F xs ys → xs[i]? = some a → ∃ b, ys[i]? = some b ∧ F a b
  | _, _, _, _, .nil, e => by simp at e
  | _, _, 0, _, .cons r _, e => by simp at e; subst e; exact ⟨_, rfl, r⟩
  | _, _, i + 1, _, .cons _ t, e => by
    obtain ⟨b, h1, h2⟩ := pr_get (i := i) t (by simpa using e)
    exact ⟨b, by simpa using h1, h2⟩
theorem take_snoc {α : Type} : ∀ {l : List α} {i : Nat} {x : α}, l[i]? = some x → l.take (i + 1) = l.take i ++ [x]
  | [], i, x, h => by simp at h
  | a :: l, 0, x, h => by
    have e : a = x := Option.some.inj h
    subst e
    rfl
  | a :: l, i + 1, x, h => by
    have ih := take_snoc (l := l) (i := i) (x := x) h
    show a :: l.take (i + 1) = a :: l.take i ++ [x]
    rw [ih]
    rfl
theorem get_map {α β : Type} {f : α → β} {l : List α} {i : Nat} {y : β} (h : (l.map f)[i]? = some y) : ∃ x, l[i]? = some x ∧ y = f x := by
  rw [List.getElem?_map] at h
  cases e : l[i]? with
  | none => rw [e] at h; cases h
  | some x => rw [e] at h; exact ⟨x, rfl, (Option.some.inj h).symm⟩
/-- range(a, b) -/
def rgI (a b : Int) : List Int := (List.range (b - a).toNat).map fun (i : Nat) => a + (i : Int)
theorem rgV_eq (a b : Int) : rgV a b = (rgI a b).map V.int := by
  unfold rgV rgI
  rw [List.map_map]
  rfl
theorem mem_rgI {a b k : Int} (h : k ∈ rgI a b) : a ≤ k ∧ k < b := by
  obtain ⟨i, hi, rfl⟩ := List.mem_map.mp h
  have := List.mem_range.mp hi
  omega
theorem pr_app {α β : Type} {F : α → β → Prop} : ∀ {xs xs' : List α} {ys ys' : List β}, Paired F xs ys → Paired F xs' ys' → Paired F (xs ++ xs') (ys ++ ys')
  | _, _, _, _, .nil, h => h
  | _, _, _, _, .cons r t, h => .cons r (pr_app t h)
end NX

/-! pairs in order; neighbours: plain Lean -/
namespace NX
abbrev Pr := Int × Int
def leP (x y : Pr) : Bool := decide (x.1 < y.1 ∨ (x.1 = y.1 ∧ x.2 ≤ y.2))
theorem leP_iff {x y : Pr} : leP x y = true ↔ (x.1 < y.1 ∨ (x.1 = y.1 ∧ x.2 ≤ y.2)) := by unfold leP; exact decide_eq_true_iff
theorem leP_total (x y : Pr) : leP x y = true ∨ leP y x = true := by
  rw [leP_iff, leP_iff]; omega
theorem leP_anti {x y : Pr} (h : leP x y = true) (h' : leP y x = true) : x = y := by
  rw [leP_iff] at h h'
  obtain ⟨a, b⟩ := x; obtain ⟨c, d⟩ := y
  simp only at h h'
  have h1 : a = c := by omega
  have h2 : b = d := by omega
  rw [h1, h2]
theorem leP_trans {x y z : Pr} (h : leP x y = true) (h' : leP y z = true) : leP x z = true := by
  rw [leP_iff] at *; omega
def insP (x : Pr) : List Pr → List Pr
  | [] => [x]
  | y :: l => if leP x y then x :: y :: l else y :: insP x l
def sortP : List Pr → List Pr
  | [] => []
  | x :: l => insP x (sortP l)
theorem insP_perm (x : Pr) : ∀ l, (insP x l).Perm (x :: l)
  | [] => List.Perm.refl _
  | y :: l => by
    unfold insP
    split
    · exact List.Perm.refl _
    · exact ((insP_perm x l).cons y).trans (List.Perm.swap x y l)
theorem sortP_perm : ∀ l, (sortP l).Perm l
  | [] => List.Perm.refl _
  | x :: l => (insP_perm x _).trans ((sortP_perm l).cons x)
abbrev Up (l : List Pr) : Prop := l.Pairwise fun x y => leP x y = true
theorem insP_up (x : Pr) : ∀ l, Up l → Up (insP x l)
  | [], _ => List.pairwise_singleton _ _
  | y :: l, h => by
    unfold insP
    split
    · rename_i c
      refine List.pairwise_cons.mpr ⟨fun z hz => ?_, h⟩
      rcases List.mem_cons.mp hz with rfl | hz
      · exact c
      · exact leP_trans c ((List.pairwise_cons.mp h).1 z hz)
    · rename_i c
      have c' : leP y x = true := (leP_total x y).resolve_left c
      refine List.pairwise_cons.mpr ⟨fun z hz => ?_, insP_up x l (List.pairwise_cons.mp h).2⟩
      rcases List.mem_cons.mp ((insP_perm x l).mem_iff.mp hz) with rfl | hz
      · exact c'
      · exact (List.pairwise_cons.mp h).1 z hz
theorem sortP_up : ∀ l, Up (sortP l)
  | [] => List.Pairwise.nil
  | x :: l => insP_up x _ (sortP_up l)
theorem up_uniq : ∀ {l m : List Pr}, Up l → Up m → l.Perm m → l = m
  | [], m, _, _, h => (List.Perm.nil_eq h)
  | x :: l, [], _, _, h => absurd h.length_eq (by simp)
  | x :: l, y :: m, hl, hm, h => by
    have hx : x ∈ y :: m := h.mem_iff.mp List.mem_cons_self
    have hy : y ∈ x :: l := h.mem_iff.mpr List.mem_cons_self
    have e : x = y := by
      rcases List.mem_cons.mp hx with e | hx
      · exact e
      · rcases List.mem_cons.mp hy with e | hy
        · exact e.symm
        · exact leP_anti ((List.pairwise_cons.mp hl).1 y hy) ((List.pairwise_cons.mp hm).1 x hx)
    subst e
    rw [up_uniq (List.pairwise_cons.mp hl).2 (List.pairwise_cons.mp hm).2 h.cons_inv]
theorem sortP_eq {l m : List Pr} (h : Up l) (p : l.Perm m) : l = sortP m := up_uniq h (sortP_up m) (p.trans (sortP_perm m).symm)
theorem sortP_congr {l m : List Pr} (p : l.Perm m) : sortP l = sortP m := up_uniq (sortP_up l) (sortP_up m) (((sortP_perm l).trans p).trans (sortP_perm m).symm)
theorem sortP_id {l : List Pr} (h : Up l) : sortP l = l := (sortP_eq h (List.Perm.refl l)).symm
theorem sortP_len (l : List Pr) : (sortP l).length = l.length := (sortP_perm l).length_eq
theorem mem_sortP {l : List Pr} {q : Pr} : q ∈ sortP l ↔ q ∈ l := (sortP_perm l).mem_iff
/-- the neighbours of i, in the order of the links -/
def nb (ks : List Pr) (i : Int) : List Int := ks.filterMap fun q => if q.1 = i then some q.2 else if q.2 = i then some q.1 else none
theorem nb_app (ks ls : List Pr) (i : Int) : nb (ks ++ ls) i = nb ks i ++ nb ls i := by unfold nb; rw [List.filterMap_append]
theorem nb_one (q : Pr) (i : Int) : nb [q] i = if q.1 = i then [q.2] else if q.2 = i then [q.1] else [] := by
  show (([q] : List Pr).filterMap fun q => if q.1 = i then some q.2 else if q.2 = i then some q.1 else none) = _
  rw [List.filterMap_cons]
  by_cases h : q.1 = i
  · simp [h]
  · by_cases h2 : q.2 = i
    · simp [h, h2]
    · simp [h, h2]
theorem mem_nb {ks : List Pr} {i j : Int} : j ∈ nb ks i ↔ (i, j) ∈ ks ∨ (j, i) ∈ ks ∧ j ≠ i := by
  unfold nb
  rw [List.mem_filterMap]
  constructor
  · rintro ⟨⟨a, b⟩, hq, h⟩
    simp only at h
    by_cases h1 : a = i
    · rw [if_pos h1] at h
      cases h
      subst h1
      exact .inl hq
    · rw [if_neg h1] at h
      by_cases h2 : b = i
      · rw [if_pos h2] at h
        cases h
        subst h2
        exact .inr ⟨hq, h1⟩
      · rw [if_neg h2] at h
        cases h
  · rintro (h | ⟨h, ne⟩)
    · exact ⟨(i, j), h, by simp⟩
    · exact ⟨(j, i), h, by simp [ne]⟩
/-- a network's links: each the smaller station first -/
def Okl (n : Nat) (ks : List Pr) : Prop := ∀ q ∈ ks, 0 ≤ q.1 ∧ q.1 < q.2 ∧ q.2 < (n : Int)
theorem mem_nb' {n : Nat} {ks : List Pr} (h : Okl n ks) {i j : Int} : j ∈ nb ks i ↔ (i, j) ∈ ks ∨ (j, i) ∈ ks := by
  rw [mem_nb]
  constructor
  · rintro (a | a)
    · exact .inl a
    · exact .inr a.1
  · rintro (a | a)
    · exact .inl a
    · exact .inr ⟨a, by have := h _ a; simp only at this; omega⟩
theorem nb_sym {n : Nat} {ks : List Pr} (h : Okl n ks) {i j : Int} : j ∈ nb ks i ↔ i ∈ nb ks j := by
  rw [mem_nb' h, mem_nb' h]
  exact ⟨fun a => a.symm, fun a => a.symm⟩
theorem nb_rng {n : Nat} {ks : List Pr} (h : Okl n ks) {i j : Int} (m : j ∈ nb ks i) : 0 ≤ j ∧ j < n ∧ j ≠ i ∧ 0 ≤ i ∧ i < n := by
  rw [mem_nb' h] at m
  rcases m with m | m
  · have := h _ m; simp only at this; omega
  · have := h _ m; simp only at this; omega
theorem Okl.sort {n : Nat} {ks : List Pr} (h : Okl n ks) : Okl n (sortP ks) := fun q hq => h q (mem_sortP.mp hq)
/-- the neighbours of a sorted list of links are in ascending order -/
theorem nb_up {n : Nat} : ∀ {ks : List Pr}, Okl n ks → Up ks → ks.Nodup → ∀ i, (nb ks i).Pairwise (· < ·)
  | [], _, _, _, _ => List.Pairwise.nil
  | q :: ks, h, u, d, i => by
    have h' : Okl n ks := fun q hq => h q (List.mem_cons_of_mem _ hq)
    have u' := List.pairwise_cons.mp u
    have d' := List.nodup_cons.mp d
    have ih := nb_up h' u'.2 d'.2 i
    have e : nb (q :: ks) i = nb [q] i ++ nb ks i := nb_app [q] ks i
    rw [e, nb_one]
    have hq := h q List.mem_cons_self
    obtain ⟨a, b⟩ := q
    simp only at hq ⊢
    by_cases h1 : a = i
    · rw [if_pos h1]
      refine List.pairwise_cons.mpr ⟨fun z hz => ?_, ih⟩
      subst h1
      rcases (mem_nb' h').mp hz with m | m
      · have c := leP_iff.mp (u'.1 _ m)
        simp only at c
        have ne : b ≠ z := fun z' => by subst z'; exact d'.1 m
        omega
      · have c := leP_iff.mp (u'.1 _ m)
        have c2 := h' _ m
        simp only at c c2
        omega
    · rw [if_neg h1]
      by_cases h2 : b = i
      · rw [if_pos h2]
        refine List.pairwise_cons.mpr ⟨fun z hz => ?_, ih⟩
        subst h2
        rcases (mem_nb' h').mp hz with m | m
        · have c := h' _ m
          have c2 := leP_iff.mp (u'.1 _ m)
          simp only at c c2
          omega
        · have c := leP_iff.mp (u'.1 _ m)
          simp only at c
          have ne : a ≠ z := fun z' => by subst z'; exact d'.1 m
          omega
      · rw [if_neg h2]
        exact ih
theorem nb_nodup {n : Nat} {ks : List Pr} (h : Okl n ks) (u : Up ks) (d : ks.Nodup) (i : Int) : (nb ks i).Nodup :=
  (nb_up h u d i).imp fun {a b} (c : a < b) => by omega
/-- not more neighbours than stations -/
theorem up_len : ∀ {l : List Int} {lo hi : Int}, l.Pairwise (· < ·) → (∀ x ∈ l, lo ≤ x ∧ x < hi) → l = [] ∨ (l.length : Int) ≤ hi - lo
  | [], _, _, _, _ => .inl rfl
  | x :: l, lo, hi, h, b => by
    have h' := List.pairwise_cons.mp h
    have bx := b x List.mem_cons_self
    refine .inr ?_
    rcases up_len (lo := x + 1) (hi := hi) h'.2 (fun y hy => ⟨by have := h'.1 y hy; omega, (b y (List.mem_cons_of_mem _ hy)).2⟩) with e | e
    · subst e
      show ((0 + 1 : Nat) : Int) ≤ _
      omega
    · rw [List.length_cons]
      omega
theorem I_len {n : Nat} {ks : List Pr} (h : Okl n ks) (u : Up ks) (d : ks.Nodup) (i : Int) : (nb ks i).length ≤ n := by
  rcases up_len (lo := 0) (hi := (n : Int)) (nb_up h u d i) (fun x hx => by have := nb_rng h hx; omega) with e | e
  · rw [e]; exact Nat.zero_le _
  · omega
end NX

namespace NX
open PySem PySem.Spec PyProof.Rows L2
open Evl (Ex ex_l ex_t fresh_back)
/-! ### pairs as data -/
def pd (q : Pr) : PyData := .tuple [.int q.1, .int q.2]
theorem dp_pr {K : PySem.W.Frag} {H : Hp} {x : V} {q : Pr} (h : isPr H x q) : Dp K H x (pd q) := by
  obtain ⟨t, rfl, ht⟩ := h
  exact .tup (SqT.of ht) (.cons (.int _) (.cons (.int _) .nil))
theorem dp_lks {K : PySem.W.Frag} {H : Hp} : ∀ {xs : List V} {ps : List Pr}, Lks H xs ps → DpAll K H xs (ps.map pd)
  | _, _, .nil => .nil
  | _, _, .cons r t => .cons (dp_pr r) (dp_lks t)
theorem lay_lks : ∀ ps : List Pr, PyData.canLayAll0 (ps.map pd) = true
  | [] => by rw [List.map_nil]; unfold PyData.canLayAll0; rfl
  | q :: ps => by
    rw [List.map_cons]
    unfold PyData.canLayAll0
    rw [lay_lks ps]
    show (PyData.canLay0 (.tuple [.int q.1, .int q.2]) && true) = true
    simp only [PyData.canLay0, PyData.canLayAll0, Bool.and_self]
theorem depth_lks : ∀ ps : List Pr, PyData.depthAll (ps.map pd) ≤ 1
  | [] => by rw [List.map_nil]; unfold PyData.depthAll; omega
  | q :: ps => by
    rw [List.map_cons]
    unfold PyData.depthAll
    have h := depth_lks ps
    have e : PyData.depth (pd q) = 1 := by
      show PyData.depth (.tuple [.int q.1, .int q.2]) = 1
      simp [PyData.depth, PyData.depthAll]
    rw [e]
    omega
theorem shaped_lks (ps : List Pr) : SeqAt.shaped (.list (ps.map pd)) = true := by
  unfold SeqAt.shaped
  have h := depth_lks ps
  rw [Bool.and_eq_true]
  refine ⟨?_, decide_eq_true ?_⟩
  · simp only [PyData.canLay0]
    exact lay_lks ps
  · simp only [PyData.depth]
    omega
theorem shaped_pd (q : Pr) : SeqAt.shaped (pd q) = true := by
  unfold SeqAt.shaped pd
  simp [PyData.canLay0, PyData.canLayAll0, PyData.depth, PyData.depthAll]
theorem eqv_pd (z q : Pr) : PyData.eqv (pd z) (pd q) = decide (z = q) := by
  unfold pd
  simp only [PyData.eqv, PyData.eqvAll, Bool.and_true]
  obtain ⟨a, b⟩ := z; obtain ⟨c, d⟩ := q
  rw [Bool.eq_iff_iff]
  simp
theorem any_pd (ps : List Pr) (q : Pr) : ((ps.map pd).any fun z => PyData.eqv z (pd q)) = decide (q ∈ ps) := by
  rw [List.any_map, Bool.eq_iff_iff, List.any_eq_true]
  simp only [Function.comp, eqv_pd, decide_eq_true_eq]
  exact ⟨fun ⟨x, hx, e⟩ => e ▸ hx, fun h => ⟨q, h, rfl⟩⟩
theorem eqvAll_lks : ∀ ps qs : List Pr, PyData.eqvAll (ps.map pd) (qs.map pd) = decide (ps = qs)
  | [], [] => by simp [PyData.eqvAll]
  | [], q :: qs => by simp [PyData.eqvAll]
  | p :: ps, [] => by simp [PyData.eqvAll]
  | p :: ps, q :: qs => by
    rw [List.map_cons, List.map_cons, PyData.eqvAll, eqv_pd, eqvAll_lks ps qs, Bool.eq_iff_iff]
    simp
theorem eqv_lks (ps qs : List Pr) : PyData.eqv (.list (ps.map pd)) (.list (qs.map pd)) = decide (ps = qs) := by
  rw [PyData.eqv]; exact eqvAll_lks ps qs
/-- the pair that a tuple holds -/
def kOf (H : Hp) (x : V) : Pr := match x with
  | .ref t => (match H t with
    | some (.tup [.int i, .int j]) => (i, j)
    | _ => (0, 0))
  | _ => (0, 0)
theorem kOf_pr {H : Hp} {x : V} {q : Pr} (h : isPr H x q) : kOf H x = q := by
  obtain ⟨t, rfl, ht⟩ := h
  unfold kOf
  simp only [ht]
theorem lks_k {H : Hp} : ∀ {xs : List V} {ps : List Pr}, Lks H xs ps → xs.map (kOf H) = ps ∧ ∀ x ∈ xs, isPr H x (kOf H x)
  | _, _, .nil => ⟨rfl, fun _ h => nomatch h⟩
  | _, _, .cons r t => by
    obtain ⟨h1, h2⟩ := lks_k t
    refine ⟨by rw [List.map_cons, kOf_pr r, h1], fun x hx => ?_⟩
    rcases List.mem_cons.mp hx with rfl | hx
    · rw [kOf_pr r]; exact r
    · exact h2 x hx
theorem lks_of {H : Hp} : ∀ {ys : List V}, (∀ x ∈ ys, isPr H x (kOf H x)) → Lks H ys (ys.map (kOf H))
  | [], _ => .nil
  | y :: ys, h => .cons (h y List.mem_cons_self) (lks_of fun x hx => h x (List.mem_cons_of_mem _ hx))
/-- sorted(links) -/
theorem n_sortP {K : PySem.W.Frag} {G H : Hp} {L : List (Addr × HO)} {a : Addr} {xs : List V} {ps : List Pr} {Q : VK} {G0 : Hp} (S : Own G L H) (hx : SqL K H a xs) (e0 : Ex G0 H) (hl : Lks G0 xs ps)
    (k : ∀ p ys G1 H1, H p = none → Ex G G1 → Ex H H1 → G1 p = some (.lst ys) → Lks G0 ys (sortP ps) → Own G1 L H1 → Q (.ref p) H1) : rSortedPO K [.ref a] H Q := by
  obtain ⟨h1, h2⟩ := lks_k hl
  refine ⟨a, xs, kOf G0, rfl, hx, fun x m => ?_, fun ys p hs hb hp => ?_⟩
  · obtain ⟨t, e, ht⟩ := h2 x m
    exact ⟨t, e, e0 _ _ ht⟩
  · have hy : Lks G0 ys (ys.map (kOf G0)) := lks_of fun x m => h2 x (hb.perm.mem_iff.mp m)
    have e : ys.map (kOf G0) = sortP ps := by
      refine sortP_eq ?_ ?_
      · refine List.pairwise_map.mpr (hs.imp fun {x y} (c : ltP (kOf G0) y x = false) => ?_)
        have z := SrtO.lexB_no.mp c
        rw [leP_iff]
        omega
      · rw [← h1]
        exact hb.perm.map _
    rw [e] at hy
    exact k p ys _ _ hp (S.still hp).2.1 (Ex.new hp) (S.still hp).2.2 hy (S.still hp).1
/-! ### a network in the heap -/
def NF (kp np : Addr) : List (Str × V) := putF "near" (.ref np) (putF "kept" (.ref kp) [])
theorem nf_near (kp np : Addr) : (NF kp np).lookup ("near" : Str) = some (.ref np) := by unfold NF; rw [lookup_putF, if_pos rfl]
theorem nf_kept (kp np : Addr) : (NF kp np).lookup ("kept" : Str) = some (.ref kp) := by
  unfold NF
  rw [lookup_putF, if_neg (by decide +kernel), lookup_putF, if_pos rfl]
theorem nf_no (kp np : Addr) {m : Str} (h1 : ¬ m = "near") (h2 : ¬ m = "kept") : (NF kp np).lookup m = none := by
  unfold NF
  rw [lookup_putF, if_neg h1, lookup_putF, if_neg h2]
  all_goals rfl
/-- what stands at a network's addresses -/
structure NetO (C : Addr) (H : Hp) (a : Addr) (dx kp np : Addr) (xs : List V) (nps : List Addr) (n : Nat) (ks : List Pr) : Prop where
  ins : H a = some (.ins C dx (NF kp np))
  kept : H kp = some (.lst xs)
  lks : Lks H xs ks
  near : H np = some (.lst (nps.map V.ref))
  len : nps.length = n
  each : ∀ (i : Nat) (p : Addr), nps[i]? = some p → H p = some (.lst ((nb ks (i : Int)).map V.int))
structure NetAt (C : Addr) (H : Hp) (a : Addr) (n : Nat) (ks : List Pr) : Prop where
  at_ : ∃ dx kp np xs nps, NetO C H a dx kp np xs nps n ks
  ok : Okl n ks
  up : Up ks
  nd : ks.Nodup
  sz : 1 ≤ n ∧ n ≤ 60
theorem NetO.mono {C : Addr} {G H : Hp} {a dx kp np : Addr} {xs : List V} {nps : List Addr} {n : Nat} {ks : List Pr} (h : NetO C G a dx kp np xs nps n ks) (e : Ex G H) : NetO C H a dx kp np xs nps n ks :=
  ⟨e _ _ h.ins, e _ _ h.kept, h.lks.mono e, e _ _ h.near, h.len, fun i p q => e _ _ (h.each i p q)⟩
theorem NetAt.mono {C : Addr} {G H : Hp} {a : Addr} {n : Nat} {ks : List Pr} (h : NetAt C G a n ks) (e : Ex G H) : NetAt C H a n ks :=
  ⟨let ⟨dx, kp, np, xs, nps, o⟩ := h.at_; ⟨dx, kp, np, xs, nps, o.mono e⟩, h.ok, h.up, h.nd, h.sz⟩
/-- what the text says of the class -/
structure NetC (K : PySem.W.Frag) (C : Addr) : Prop where
  cl : Cls K C
  nK : NoAttr K C "kept"
  nN : NoAttr K C "near"
  ha : PySem.W.findIn K (.ref C) "__class__" = some (some (.builtin "object.__class__"))
  hn : PySem.W.specialIn K (.builtin "object.__class__") "__get__" = some (some (.builtin "getset_descriptor.__get__"))
  ht : PySem.W.takesIn K (.builtin "object.__class__") = some true
  hm : PySem.W.mroIn K C (.type "object") = some true
  kit : PySem.W.kitOne K (.ref C) (.ref C) = some true
  ne : PySem.W.findIn K (.ref C) "__ne__" = some (some (.builtin "object.__ne__"))
end NX

namespace NX
open PySem PySem.Spec PyProof.Rows L2
open Evl (Ex ex_l ex_t fresh_back)
theorem IsT.tup {K : PySem.W.Frag} {H : Hp} {t : Addr} {xs : List V} (h : H t = some (.tup xs)) : IsT K H (.ref t) "tuple" := ⟨.base (.tup h), by decide +kernel⟩
theorem IsT.lst {K : PySem.W.Frag} {H : Hp} {t : Addr} {xs : List V} (h : H t = some (.lst xs)) : IsT K H (.ref t) "list" := ⟨.base (.lst h), by decide +kernel⟩
theorem n_isiTup {K : PySem.W.Frag} {H : Hp} {t : Addr} {xs : List V} {Q : VK} (h : H t = some (.tup xs)) (k : Q (.bl true) H) : rIsi K [.ref t, .ty "tuple"] H Q := ⟨_, _, _, _, _, rfl, .ty _, .base (.tup h), kit_ty (by decide +kernel), k⟩
theorem n_isiLst {K : PySem.W.Frag} {H : Hp} {t : Addr} {xs : List V} {Q : VK} (h : H t = some (.lst xs)) (k : Q (.bl true) H) : rIsi K [.ref t, .ty "list"] H Q := ⟨_, _, _, _, _, rfl, .ty _, .base (.lst h), kit_ty (by decide +kernel), k⟩
abbrev s_is_link : Stmt := top 9
theorem sc_is_link : FnScope ["value", "stations", "part"] ["value", "stations"] (defScope s_is_link) := ⟨rfl, rfl, rfl, by decide +kernel, rfl, by decide +kernel, by decide +kernel⟩
def spIsLink : Sp := fun vs H Q _ => ∃ (t : Addr) (a b n : Int), vs = [.ref t, .int n] ∧ H t = some (.tup [.int a, .int b]) ∧ (0 ≤ a ∧ a < b ∧ b < n) ∧ ∀ H', Ex H H' → Q (.bl true) H'
section
variable {P : Program} {w : World} {K : PySem.W.Frag} {mg : Str → Option Value} {base : Heap}
theorem ok_is_link {f : Addr} {fd : FuncData} (F : Fun K "is_link" "is_link" s_is_link f fd) (T : Txt mg) (c_is_int : Cal P w K mg base 1 "is_int" ["value"] [] (spIsInt K)) : FnOk P w K mg base CX0 2 f fd ["value", "stations"] spIsLink := by
  refine F.ok sc_is_link (fun vs H Q E h => ?_) (fun cdv A outer s H vs Q E hr h => ?_)
  · obtain ⟨t, a, b, n, rfl, _⟩ := h
    rfl
  · obtain ⟨t, a, b, n, rfl, ht, hb, k⟩ := h
    refine ⟨_, (pss_cons (ps_if (PW.pt (pw_or (pt_not (pt_val (pe_callB call_isi (by rfl) T.n_isinstance (by decide +kernel) (pa_cons (pv 0) (pa_cons (pe_bltn (v := .ty "tuple") (by rfl) T.n_tuple (by decide +kernel) rfl) pa_nil))))) (pw_or (pt_cmpR op_ne (pe_callB call_lenN (by rfl) T.n_len (by decide +kernel) (pa_cons (pv 0) pa_nil)) pe_int (nomark _)) (pw_or1 (pt_not (pt_val (pe_callB (cr_all rfl) (by rfl) T.n_all (by decide +kernel) (pa_cons (pe_lc (own := [("part", 2)]) (by rfl) sc_is_link.nd (pi_tup (pv 0)) (blkOk_by (own := [("part", 2)]) (N := ["value", "stations", "part"]) (sc := defScope s_is_link) (by decide +kernel)) (fun _ _ _ _ _ => (pg_name (i := 2) sc_is_link.nd rfl (Or.inl rfl))) (fun _ _ _ _ _ => pts_nil) (fun _ _ _ _ _ => (pe_cal c_is_int (hr.mono (by first | decide | omega)) passN (pa_cons (pv 2) pa_nil)))) pa_nil)))))))) (pss_one (ps_ret pe_bl)) pss_nil)
      (pss_one (ps_ret (pe_chain3 op_le op_lt op_lt pe_int (pe_ix ix_tup (pv 0) pe_int (fun _ _ => rfl)) (pe_ix ix_tup (pv 0) pe_int (fun _ _ => rfl)) (pv 1))))), ?_⟩
    walk_at "go"
    refine n_isiTup ht ?_
    walk_at "go"
    refine n_lenT (SqT.of ht) ?_
    walk_at "go"
    refine if_ff (by rfl) ?_
    walk_at "go"
    refine v_tup (xs := [.int a, .int b]) (fun i acc G' L' => G' = H ∧ L' = [] ∧ acc = List.replicate i (.bl true)) (Own.start H) (SqT.of ht) (by show 2 ≤ 1000000; decide) ⟨rfl, rfl, rfl⟩ ?_ ?_
    · rintro D i x acc G1 L1 H1 hx hi e hl ⟨rfl, rfl, rfl⟩ S
      obtain ⟨z, rfl⟩ : ∃ z : Int, x = .int z := by
        match i, hx with
        | 0, hx => exact ⟨a, (Option.some.inj hx).symm⟩
        | 1, hx => exact ⟨b, (Option.some.inj hx).symm⟩
        | i + 2, hx => simp at hx
      walk_at "go"
      refine ⟨rfl, ?_⟩
      walk_at "go"
      refine g_isint ?_
      exact c_yes S e hl hi ⟨rfl, rfl, List.replicate_succ'.symm⟩
    · rintro p acc G1 L1 H1 e hl ⟨rfl, rfl, rfl⟩ S
      walk_at "go"
      refine ⟨p, [true, true], rfl, S.l0, ?_⟩
      walk_at "go"
      refine if_ff (by rfl) ?_
      walk_at "go"
      refine g_ixT (i := 0) (S.st (SqT.of ht)) rfl ?_
      walk_at "go"
      refine if_tt (dtrue hb.1) ?_
      walk_at "go"
      refine g_ixT (i := 1) (S.st (SqT.of ht)) rfl ?_
      walk_at "go"
      refine if_tt (dtrue hb.2.1) ?_
      walk_at "go"
      rw [dtrue hb.2.2]
      exact k _ S.ex
end
end NX

namespace NX
open PySem PySem.Spec PyProof.Rows L2
open Evl (Ex ex_l ex_t fresh_back)
/-! ### lists of lists: near -/
def nearL (nps : List Addr) (g : Nat → List Int) : List (Addr × HO) := nps.zipIdx.map fun x => (x.1, .lst ((g x.2).map V.int))
theorem nearL_get {nps : List Addr} {g : Nat → List Int} {i : Nat} {p : Addr} (h : nps[i]? = some p) : (nearL nps g)[i]? = some (p, .lst ((g i).map V.int)) := by
  unfold nearL
  rw [List.getElem?_map, List.getElem?_zipIdx, h]
  simp
theorem nearL_none {nps : List Addr} {g : Nat → List Int} {i : Nat} (h : nps[i]? = none) : (nearL nps g)[i]? = none := by
  unfold nearL
  rw [List.getElem?_map, List.getElem?_zipIdx, h]
  simp
theorem nearL_set {nps : List Addr} {g g' : Nat → List Int} {i : Nat} {p : Addr} (h : nps[i]? = some p) (hg : ∀ j, j ≠ i → g' j = g j) : (nearL nps g).set i (p, .lst ((g' i).map V.int)) = nearL nps g' := by
  refine List.ext_getElem? fun j => ?_
  by_cases c : i = j
  · subst c
    have hl : i < (nearL nps g).length := (List.getElem?_eq_some_iff.mp (nearL_get h)).1
    rw [List.getElem?_set_self hl, nearL_get h]
  · rw [List.getElem?_set_ne c]
    cases q : nps[j]? with
    | none => rw [nearL_none q, nearL_none q]
    | some r => rw [nearL_get q, nearL_get q, hg j (Ne.symm c)]
theorem nearL_snoc (nps : List Addr) (p : Addr) (g : Nat → List Int) : nearL (nps ++ [p]) g = nearL nps g ++ [(p, .lst ((g nps.length).map V.int))] := by
  unfold nearL
  rw [List.zipIdx_append, List.map_append]
  simp
theorem nearL_len (nps : List Addr) (g : Nat → List Int) : (nearL nps g).length = nps.length := by unfold nearL; simp
theorem nb_one_n {n : Nat} {q : Pr} {a b : Nat} (ha : q.1 = (a : Int)) (hb : q.2 = (b : Int)) (hne : a ≠ b) (ks : List Pr) (j : Nat) :
    nb (ks ++ [q]) (j : Int) = if j = a then nb ks (j : Int) ++ [(b : Int)] else if j = b then nb ks (j : Int) ++ [(a : Int)] else nb ks (j : Int) := by
  rw [nb_app, nb_one, ha, hb]
  by_cases h1 : j = a
  · subst h1; simp
  · have h1' : ¬ (a : Int) = (j : Int) := by omega
    rw [if_neg h1', if_neg h1]
    by_cases h2 : j = b
    · subst h2; simp
    · have h2' : ¬ (b : Int) = (j : Int) := by omega
      rw [if_neg h2', if_neg h2, List.append_nil]
theorem pr_take {α β : Type} {F : α → β → Prop} : ∀ {xs : List α} {ys : List β}, Paired F xs ys → ∀ i, Paired F (xs.take i) (ys.take i)
  | _, _, _, 0 => .nil
  | _, _, .nil, i + 1 => .nil
  | _, _, .cons r t, i + 1 => .cons r (pr_take t i)
theorem nodup_take {α : Type} {l : List α} (h : l.Nodup) {i : Nat} {q : α} (e : l[i]? = some q) : q ∉ l.take i := fun m => by
  obtain ⟨j, hj, e2⟩ := List.mem_iff_getElem.mp m
  have hj' : j < i ∧ j < l.length := by rw [List.length_take] at hj; omega
  have e3 : l[j]? = some q := by rw [← e2, List.getElem_take, List.getElem?_eq_getElem hj'.2]
  obtain ⟨h1, q1⟩ := List.getElem?_eq_some_iff.mp e
  obtain ⟨h2, q2⟩ := List.getElem?_eq_some_iff.mp e3
  have z := (List.getElem_inj h).mp (q1.trans q2.symm)
  omega
theorem perm_mid {α : Type} (a b c : α) (l : List α) : (b :: c :: (l ++ [a])).Perm (a :: b :: c :: l) :=
  ((List.perm_append_singleton a (b :: c :: l)))
abbrev s_Network___init__ : Stmt := inClass (top 10) 0
theorem sc_Network___init__ : FnScope ["self", "stations", "links", "index", "link", "one", "other", "station"] ["self", "stations", "links"] (defScope s_Network___init__) := ⟨rfl, rfl, rfl, by decide +kernel, rfl, by decide +kernel, by decide +kernel⟩
def spInit (C : Addr) : Sp := fun vs H Q _ => ∃ (x lp dx : Addr) (n : Nat) (xs : List V) (ps : List Pr) (G : Hp), vs = [.ref x, .int (n : Int), .ref lp] ∧ Own G [(x, .ins C dx [])] H ∧ G lp = some (.lst xs) ∧ Lks G xs ps ∧
  Okl n ps ∧ ps.Nodup ∧ 1 ≤ n ∧ n ≤ 60 ∧ ps.length ≤ 10000 ∧ ∀ H', Ex G H' → NetAt C (nw G H') x n (sortP ps) → Q .non H'
section
variable {P : Program} {w : World} {K : PySem.W.Frag} {mg : Str → Option Value} {base : Heap}
theorem ok_init {f C : Addr} {fd : FuncData} (F : Fun K "__init__" "Network.__init__" s_Network___init__ f fd) (T : Txt mg) (N : NetC K C) (c_is_int : Cal P w K mg base 1 "is_int" ["value"] [] (spIsInt K))
    (c_is_link : Cal P w K mg base 2 "is_link" ["value", "stations"] [] spIsLink) : FnOk P w K mg base CX0 3 f fd ["self", "stations", "links"] (spInit C) := by
  refine F.ok sc_Network___init__ (fun vs H Q E h => ?_) (fun cdv A outer s H vs Q E hr h => ?_)
  · obtain ⟨x, lp, dx, n, xs, ps, G, rfl, _⟩ := h
    rfl
  · obtain ⟨x, lp, dx, n, xs, ps, G, rfl, S0, hlp, hl, hok, hnd, h1, h60, hz, k⟩ := h
    have hu65 : ∀ X : Cx, X.A = A.deeper (envOfC "Network.__init__" (defScope s_Network___init__) s.heap.objs.size f cdv) → X.A.units + 65 < cLine := fun X e => by rw [e]; have := hr.un; omega
    refine ⟨_, (pss_cons (ps_if (PW.pt (pw_or (pt_not (pt_val (pe_cal c_is_int (hr.mono (by first | decide | omega)) passN (pa_cons (pv 1) pa_nil)))) (pw_or (pt_not (pt_chain op_le op_le pe_int (pv 1) (pe_cst (by rfl) T.m_MAX_STATIONS))) (pw_or1 (pt_not (pt_val (pe_callB call_isi (by rfl) T.n_isinstance (by decide +kernel) (pa_cons (pv 2) (pa_cons (pe_bltn (v := .ty "list") (by rfl) T.n_list (by decide +kernel) rfl) pa_nil))))))))) (pss_one ps_never) pss_nil)
      (pss_cons (ps_for PassesOwn.never rfl (pi_enum (by rfl) T.n_enumerate (pa_cons (pv 2) pa_nil)) (pg_tup (n := 2) rfl (pgs_cons (pg_name (i := 3) sc_Network___init__.nd rfl (Or.inl rfl)) (pgs_cons (pg_name (i := 4) sc_Network___init__.nd rfl (Or.inl rfl)) pgs_nil))) (pss_one (ps_if (PW.pt (pw_or (pt_not (pt_val (pe_cal c_is_link (hr.mono (by first | decide | omega)) passN (pa_cons (pv 4) (pa_cons (pv 1) pa_nil))))) (pw_or1 (pt_cmpR (op_inD (hu65 _ rfl)) (pv 4) (pe_slice sl_list (pv 2) po_none (po_some (pv 3))) rfl)))) (pss_one ps_never) pss_nil)))
      (pss_cons (ps_fld (pv 0) (pe_callB cr_sortedPO (by rfl) T.n_sorted (by decide +kernel) (pa_cons (pv 2) pa_nil)) rfl)
      (pss_cons (ps_fld (pv 0) (pe_lc (own := [("station", 7)]) (by rfl) sc_Network___init__.nd (pi_range1 (by rfl) T.n_range (pa_cons (pv 1) pa_nil)) (blkOk_by (own := [("station", 7)]) (N := ["self", "stations", "links", "index", "link", "one", "other", "station"]) (sc := defScope s_Network___init__) (by decide +kernel)) (fun _ _ _ _ _ => (pg_name (i := 7) sc_Network___init__.nd rfl (Or.inl rfl))) (fun _ _ _ _ _ => pts_nil) (fun _ _ _ _ _ => (pe_lst pa_nil))) rfl)
      (pss_one (ps_for PassesOwn.never rfl (pi_list (pe_fld (pv 0) rfl)) (pg_tup (n := 2) rfl (pgs_cons (pg_name (i := 5) sc_Network___init__.nd rfl (Or.inl rfl)) (pgs_cons (pg_name (i := 6) sc_Network___init__.nd rfl (Or.inl rfl)) pgs_nil))) (pss_cons (ps_expr (pe_bm PySem.F.plainAttrs_list PySem.F.slot_list_append PySem.F.type_list_append mt_append (pe_ix ix_list (pe_fld (pv 0) rfl) (pv 5) (fun _ _ => rfl)) (pa_cons (pv 6) pa_nil)))
      (pss_one (ps_expr (pe_bm PySem.F.plainAttrs_list PySem.F.slot_list_append PySem.F.type_list_append mt_append (pe_ix ix_list (pe_fld (pv 0) rfl) (pv 6) (fun _ _ => rfl)) (pa_cons (pv 5) pa_nil))))))))))), ?_⟩
    walk_at "go"
    refine g_isint ?_
    walk_at "go"
    refine if_tt (dtrue (by omega)) ?_
    walk_at "go"
    refine if_ff (ntrue (by omega)) ?_
    walk_at "go"
    refine n_isiLst (S0.ex _ _ hlp) ?_
    walk_at "go"
    refine w_enum (fun i σ' H' => (∃ x1 x2 x3 x4 x5, σ' = [some (.ref x), some (.int (n : Int)), some (.ref lp), x1, x2, x3, x4, x5]) ∧ ∃ G', Ex G G' ∧ Own G' [(x, .ins C dx [])] H') (SqL.of (S0.ex _ _ hlp)) ⟨⟨_, _, _, _, _, rfl⟩, G, Ex.refl G, S0⟩ (fun i σ' H' ⟨_, G', e, S⟩ => SqL.of (S.ex _ _ (e _ _ hlp))) ?_ ?_
    · rintro i y T σ' H' hy ⟨⟨x1, x2, x3, x4, x5, rfl⟩, G', e, S⟩ hT
      obtain ⟨q, hq, t, rfl, ht⟩ := pr_get hl hy
      have hb := hok q (List.mem_of_getElem? hq)
      have S1 := (S.still (o := .tup [.int (i : Int), .ref t]) hT).1
      have e1 := e.trans (S.still (o := .tup [.int (i : Int), .ref t]) hT).2.1
      refine s_gtup (SqT.of upd_same) rfl ?_
      walk_at "go"
      refine ⟨t, q.1, q.2, n, rfl, S1.ex _ _ (e1 _ _ ht), hb, fun H2 e2 => ?_⟩
      have S2 := S1.grow e2
      walk_at "go"
      refine n_sl S2 (SqL.of (S2.ex _ _ (e1 _ _ hlp))) fun p G3 H3 _ e3 _ hp S3 => ?_
      have e13 := e1.trans e3
      rw [cutV_to] at hp
      have hlt : Lks G (xs.take i) (ps.take i) := by
        have z := hl
        exact pr_take z i
      refine ⟨pd q, (ps.take i).map pd, dp_pr ⟨t, rfl, S3.ex _ _ (e13 _ _ ht)⟩, .lst (SqL.of (S3.ex _ _ hp)) (dp_lks (hlt.mono (e13.trans S3.ex))), shaped_pd q, shaped_lks _, ?_⟩
      rw [any_pd, dfalse (nodup_take hnd hq)]
      walk_at "go"
      exact ⟨⟨_, _, _, _, _, rfl⟩, G3, e13, S3⟩
    · rintro σ' H' ⟨⟨x1, x2, x3, x4, x5, rfl⟩, G1, e1, S1⟩
      walk_at "go"
      refine n_sortP S1 (SqL.of (S1.ex _ _ (e1 _ _ hlp))) (e1.trans S1.ex) hl fun kp ys G2 H2 hkp e2 e2' hk2 hl2 S2 => ?_
      walk_at "go"
      refine n_setF S2 N.cl N.nK (by decide) fun H3 S3 => ?_
      walk_at "go"
      refine v_rng1 (j := (n : Int)) (fun i acc G' L' => G' = G2 ∧ ∃ nps : List Addr, nps.length = i ∧ acc = nps.map V.ref ∧ L' = (x, .ins C dx (putF "kept" (.ref kp) [])) :: nearL nps fun _ => []) S3 (by omega) ⟨rfl, [], rfl, rfl, rfl⟩ ?_ ?_
      · rintro D i acc G' L' H4 hi hi' e4 hl4 ⟨rfl, nps, rfl, rfl, rfl⟩ S4
        walk_at "go"
        refine ⟨rfl, ?_⟩
        walk_at "go"
        refine n_lst S4 (by decide) fun p H5 hp S5 => ?_
        refine c_yes (acc := nps.map V.ref) (L1 := (x, .ins C dx (putF "kept" (.ref kp) [])) :: nearL (nps ++ [p]) fun _ => []) (S5.perm ?_) e4 (by rw [List.length_map]; exact Nat.le_refl _) hi' ⟨rfl, nps ++ [p], by rw [List.length_append]; rfl, by rw [List.map_append] <;> rfl, rfl⟩
        rw [nearL_snoc]
        exact (perm_mid _ _ _ _)
      · rintro np acc G' L' H4 e4 _ ⟨rfl, nps, hlen, rfl, rfl⟩ S4
        have hlen : nps.length = n := by omega
        walk_at "go"
        refine n_setF S4.swap N.cl N.nN (by show 1 < 1000; decide) fun H5 S5 => ?_
        obtain ⟨S6, e6, hnp⟩ := S5.swap.freeze
        have hnG : Ex G (upd G' np (.lst (nps.map V.ref))) := (e1.trans e2).trans e6
        generalize upd G' np (.lst (nps.map V.ref)) = G6 at S6 e6 hnp hnG
        have hkp6 := e6 _ _ hk2
        walk_at "go"
        refine n_fld S6.get0 N.cl N.nK (nf_kept kp np) ?_
        refine w_list (xs := ys) (fun i σ' H' => (∃ x1 x2 x3 x4 x5, σ' = [some (.ref x), some (.int (n : Int)), some (.ref lp), x1, x2, x3, x4, x5]) ∧ Own G6 ((x, .ins C dx (NF kp np)) :: nearL nps fun j => nb ((sortP ps).take i) (j : Int)) H') (SqL.of (S6.ex _ _ hkp6)) ⟨⟨_, _, _, _, _, rfl⟩, S6⟩ (fun i σ' H' h => SqL.of (h.2.ex _ _ hkp6)) ?_ ?_
        · rintro i y σ' H' hy ⟨⟨x1, x2, x3, x4, x5, rfl⟩, S⟩
          obtain ⟨q, hq, t, rfl, ht⟩ := pr_get hl2 hy
          have hb := (hok.sort) q (List.mem_of_getElem? hq)
          have ht6 : G6 t = some (.tup [.int q.1, .int q.2]) := hnG _ _ ht
          obtain ⟨a, ha⟩ : ∃ a : Nat, q.1 = (a : Int) := ⟨q.1.toNat, by omega⟩
          obtain ⟨b, hbq⟩ : ∃ b : Nat, q.2 = (b : Int) := ⟨q.2.toNat, by omega⟩
          have hab : a ≠ b := by omega
          obtain ⟨pa, hpa⟩ : ∃ p, nps[a]? = some p := ⟨_, List.getElem?_eq_getElem (by omega)⟩
          obtain ⟨pb, hpb⟩ : ∃ p, nps[b]? = some p := ⟨_, List.getElem?_eq_getElem (by omega)⟩
          have hz2 : ∀ j : Nat, (nb ((sortP ps).take i) (j : Int)).length ≤ 10000 := fun j => Nat.le_trans (List.length_filterMap_le _ _) (by rw [List.length_take, sortP_len]; omega)
          refine s_gtup (S.st (SqT.of ht6)) rfl ?_
          walk_at "go"
          refine n_fld S.get0 N.cl N.nN (nf_near kp np) ?_
          walk_at "go"
          rw [ha]
          refine g_ixL (SqL.of (S.ex _ _ hnp)) (atI_nat (j := a) (v := .ref pa) (by rw [List.getElem?_map, hpa] <;> rfl)) ?_
          have ea : ((x, HO.ins C dx (NF kp np)) :: nearL nps fun j => nb ((sortP ps).take i) (j : Int))[a + 1]? = some (pa, .lst ((nb ((sortP ps).take i) (a : Int)).map V.int)) := nearL_get hpa
          refine ⟨tyL (SqL.of (S.getM (List.mem_of_getElem? ea))), ?_⟩
          walk_at "go"
          refine n_appM S ea (by rw [List.length_map]; have := hz2 a; omega) fun H7 S7 => ?_
          have eset : ((x, HO.ins C dx (NF kp np)) :: nearL nps fun j => nb ((sortP ps).take i) (j : Int)).set (a + 1) (pa, .lst ((nb ((sortP ps).take i) (a : Int)).map V.int ++ [.int q.2])) =
              (x, HO.ins C dx (NF kp np)) :: nearL nps fun j => if j = a then nb ((sortP ps).take i) (j : Int) ++ [q.2] else nb ((sortP ps).take i) (j : Int) := by
            show (x, HO.ins C dx (NF kp np)) :: (nearL nps fun j => nb ((sortP ps).take i) (j : Int)).set a _ = _
            have e := nearL_set (g := fun j => nb ((sortP ps).take i) (j : Int)) (g' := fun j => if j = a then nb ((sortP ps).take i) (j : Int) ++ [q.2] else nb ((sortP ps).take i) (j : Int)) hpa (fun j hj => if_neg hj)
            rw [← e]
            simp
          rw [eset] at S7
          walk_at "go"
          refine n_fld S7.get0 N.cl N.nN (nf_near kp np) ?_
          walk_at "go"
          rw [hbq]
          refine g_ixL (SqL.of (S7.ex _ _ hnp)) (atI_nat (j := b) (v := .ref pb) (by rw [List.getElem?_map, hpb] <;> rfl)) ?_
          have eb : ((x, HO.ins C dx (NF kp np)) :: nearL nps fun j => if j = a then nb ((sortP ps).take i) (j : Int) ++ [q.2] else nb ((sortP ps).take i) (j : Int))[b + 1]? = some (pb, .lst ((nb ((sortP ps).take i) (b : Int)).map V.int)) := by
            have z := nearL_get (g := fun j => if j = a then nb ((sortP ps).take i) (j : Int) ++ [q.2] else nb ((sortP ps).take i) (j : Int)) hpb
            rw [if_neg (Ne.symm hab)] at z
            exact z
          refine ⟨tyL (SqL.of (S7.getM (List.mem_of_getElem? eb))), ?_⟩
          walk_at "go"
          refine n_appM S7 eb (by rw [List.length_map]; have := hz2 b; omega) fun H8 S8 => ?_
          have etk : (sortP ps).take (i + 1) = (sortP ps).take i ++ [q] := take_snoc hq
          have eset2 : ((x, HO.ins C dx (NF kp np)) :: nearL nps fun j => if j = a then nb ((sortP ps).take i) (j : Int) ++ [q.2] else nb ((sortP ps).take i) (j : Int)).set (b + 1) (pb, .lst ((nb ((sortP ps).take i) (b : Int)).map V.int ++ [.int q.1])) =
              (x, HO.ins C dx (NF kp np)) :: nearL nps fun j => nb ((sortP ps).take (i + 1)) (j : Int) := by
            show (x, HO.ins C dx (NF kp np)) :: (nearL nps fun j => if j = a then nb ((sortP ps).take i) (j : Int) ++ [q.2] else nb ((sortP ps).take i) (j : Int)).set b _ = _
            have e := nearL_set (g := fun j => if j = a then nb ((sortP ps).take i) (j : Int) ++ [q.2] else nb ((sortP ps).take i) (j : Int)) (g' := fun j => nb ((sortP ps).take (i + 1)) (j : Int)) hpb (fun j hj => by
              rw [etk, nb_one_n (n := n) ha hbq hab, if_neg hj, ← hbq])
            rw [← e]
            simp only [etk]
            rw [nb_one_n (n := n) ha hbq hab, if_neg (Ne.symm hab), if_pos rfl]
            simp [ha]
          rw [ha] at eset2
          rw [eset2] at S8
          walk_at "go"
          exact ⟨⟨_, _, _, _, _, rfl⟩, S8⟩
        · rintro σ' H' ⟨_, S⟩
          rw [(pr_len hl2), List.take_length] at S
          walk_at "go"
          have new : ∀ a : Addr, G a = none → nw G H' a = H' a := fun a h => nw_new h
          refine k H' (hnG.trans S.ex) ⟨⟨dx, kp, np, ys, nps, ?_⟩, hok.sort, sortP_up _, (sortP_perm ps).nodup_iff.mpr hnd, h1, h60⟩
          have hx0 : G x = none := S0.no0
          have hk0 : G kp = none := fresh_back (e1.trans S1.ex) hkp
          have hn0 : G np = none := fresh_back (e1.trans e2) S4.no0
          refine ⟨(new x hx0).trans S.get0, (new kp hk0).trans (S.ex _ _ hkp6), Paired.mapP hl2 fun y q ⟨t, e, ht⟩ => ⟨t, e, (nw_tup ht rfl).trans (S.ex _ _ (hnG _ _ ht))⟩, (new np hn0).trans (S.ex _ _ hnp), hlen, fun i p hp => ?_⟩
          have m := List.mem_cons_of_mem (x, HO.ins C dx (NF kp np)) (List.mem_of_getElem? (nearL_get (g := fun j => nb (sortP ps) (j : Int)) hp))
          exact (new p (fresh_back hnG (S.at_ _ m).1)).trans (S.at_ _ m).2
end
end NX

namespace NX
open PySem PySem.Spec PyProof.Rows L2
open Evl (Ex ex_l ex_t fresh_back)
/-! ### len, ==, != of networks -/
section
variable {X : Cx}
/-- a def runs below the running body -/
theorem run_at {A : Around} {CX : CXT} {k : Nat} {f : Addr} {fd : FuncData} {ps : List Str} {sp : Sp} {E : XK} {pins : List (Addr × Obj)} {σ : L2.St} {H : Hp} {s : Shared} {Q : VK} {us : List Value} {vs : List V} (sb : L2.Sub X k A)
    (F : FnOk X.prog X.w X.K X.mg X.base CX k f fd ps sp) (hb : Binds X.K fd ps []) (hx : Passes CX X E) (I : L2.Inv X pins σ H s) (r : Vals vs us) (h : sp vs H Q E) :
    wpAny (model X.prog X.w) A (call (.ref f) us) (EP X pins σ Q) X.xe s := by
  have e0 : Env0 X.prog X.w X.K X.mg X.base A X.stack s H := by
    have e := I.env0
    exact ⟨by rw [sb.fr]; exact e.frames, e.mod, e.bs, e.bsz, e.funs, e.frf, e.hok, e.bare⟩
  have hl := F.len _ _ _ _ h
  refine wpAny_call (codeAny_mono (F.run A X.stack s H ⟨us, []⟩ us vs Q E sb.room e0 (by
    have := hb s us I.kIn (by rw [List.append_nil, ← r.length]; exact hl)
    simpa using this) r h) fun r s' hq => ?_)
  cases r with
  | error e => exact hx pins σ H s e s' I hq
  | ok fl =>
    cases fl with
    | ret w => exact I.after hq
    | next => exact False.elim hq
    | brk => exact False.elim hq
    | cont => exact False.elim hq
def spLen (C : Addr) : Sp := fun vs H Q _ => ∃ (a : Addr) (n : Nat) (ks : List Pr), vs = [.ref a] ∧ NetAt C H a n ks ∧ Q (.int (n : Int)) H
def spEqN (C : Addr) : Sp := fun vs H Q _ => ∃ (a b : Addr) (n m : Nat) (ks ls : List Pr), vs = [.ref a, .ref b] ∧ NetAt C H a n ks ∧ NetAt C H b m ls ∧ ∀ H', Ex H H' → Q (.bl (decide (n = m ∧ ks = ls))) H'
def rLenNet (C : Addr) : List V → Hp → VK → Prop := fun xs H Q => ∃ (a : Addr) (n : Nat) (ks : List Pr), xs = [.ref a] ∧ NetAt C H a n ks ∧ Q (.int (n : Int)) H
def rEqNet (C : Addr) : R2 := fun x y H Q => ∃ (a b : Addr) (n m : Nat) (ks ls : List Pr), x = .ref a ∧ y = .ref b ∧ NetAt C H a n ks ∧ NetAt C H b m ls ∧ ∀ H', Ex H H' → Q (.bl (decide (n = m ∧ ks = ls))) H'
def rNeNet (C : Addr) : R2 := fun x y H Q => ∃ (a b : Addr) (n m : Nat) (ks ls : List Pr), x = .ref a ∧ y = .ref b ∧ NetAt C H a n ks ∧ NetAt C H b m ls ∧ ∀ H', Ex H H' → Q (.bl (!decide (n = m ∧ ks = ls))) H'
theorem inst_net {pins : List (Addr × Obj)} {σ : L2.St} {H : Hp} {s : Shared} {C a : Addr} {n : Nat} {ks : List Pr} (I : L2.Inv X pins σ H s) (N : NetAt C H a n ks) : ∃ dx od, PySem.W.InstAt s.heap a (PySem.W.instObj C dx) C od := by
  obtain ⟨dx, kp, np, xs, nps, o⟩ := N.at_
  obtain ⟨mA, J, _⟩ := ins_get I.hok o.ins
  obtain ⟨od, J, _⟩ := J.look
  exact ⟨_, _, J⟩
theorem call_lenNet {C : Addr} {k : Nat} (_NC : NetC X.K C) (M : Mth X.prog X.w X.K X.mg X.base k C "__len__" ["self"] (spLen C)) (hr : Room (k + 1) X.A) : CallR X (.builtin "len") (rLenNet C) := by
  intro pins s σ H xs us Q I r h
  obtain ⟨a, n, ks, rfl, N, q⟩ := h
  obtain ⟨f, fd, hm, F, hb⟩ := M
  obtain ⟨u, rfl, ru⟩ := vals1 r
  obtain rfl : u = Value.ref a := ru
  obtain ⟨dx, od, J⟩ := inst_net I N
  obtain ⟨m, hF⟩ := I.fr
  refine PySem.W.len_K hF I.ok.mod.kin J hm.at_ hm.fn (wpAny_mono (run_at (L2.Sub.in1 ⟨hr, rfl⟩) F hb passN I r (Q := fun v H' => v = .int (n : Int) ∧ Q (.int (n : Int)) H') ⟨a, n, ks, rfl, N, rfl, q⟩) (fun v s' z => ?_) fun _ _ z => z)
  obtain ⟨w, H', I', rv, rfl, q'⟩ := z
  obtain ⟨t, rfl⟩ := rv
  refine ⟨⟨by omega, ?_⟩, ⟨V.int (n : Int), H', I'.tok _, ⟨_, rfl⟩, q'⟩⟩
  have := N.sz.2
  omega
theorem notFirst_self {K : PySem.W.Frag} {C : Addr} : PySem.W.notFirst K C (.ref C) = true := by simp [PySem.W.notFirst]
theorem op_eqNet {C : Addr} {k : Nat} (_NC : NetC X.K C) (M : Mth X.prog X.w X.K X.mg X.base k C "__eq__" ["self", "other"] (spEqN C)) (hr : Room (k + 1) X.A) : OpR X (compareOp .Eq) (rEqNet C) := by
  intro pins s σ H x y v u Q I rx ry h
  obtain ⟨a, b, n, m, ks, ls, rfl, rfl, N1, N2, q⟩ := h
  cases rx
  cases ry
  obtain ⟨f, fd, hm, F, hb⟩ := M
  obtain ⟨dx, od, J⟩ := inst_net I N1
  obtain ⟨dy, oe, J'⟩ := inst_net I N2
  obtain ⟨mm, hF⟩ := I.fr
  show wpAny (model X.prog X.w) X.A (richCompare .Eq (.ref a) (.ref b)) (EP X pins σ Q) X.xe s
  have hr0 : Room k X.A := hr.mono (Nat.le_succ k)
  refine PySem.W.cmp_K (op := .Eq) (tb := .ref C) hr.units0 hF I.ok.mod.kin J J'.type notFirst_self hm.at_ hm.fn (wpAny_mono (run_at ⟨hr0, rfl⟩ F hb passN I (vs := [V.ref a, V.ref b]) (.cons rfl (.cons rfl .nil)) (Q := fun v H' => v = .bl (decide (n = m ∧ ks = ls)) ∧ Q v H')
    ⟨a, b, n, m, ks, ls, rfl, N1, N2, fun H' e => ⟨rfl, q H' e⟩⟩) (fun v s' z => ?_) fun _ _ z => z)
  obtain ⟨w, H', I', rv, rfl, q'⟩ := z
  cases rv
  exact ⟨V.bl (decide (n = m ∧ ks = ls)), H', I', rfl, q'⟩
theorem op_neNet {C : Addr} {k : Nat} (NC : NetC X.K C) (M : Mth X.prog X.w X.K X.mg X.base k C "__eq__" ["self", "other"] (spEqN C)) (hr : Room (k + 1) X.A) : OpR X (compareOp .NotEq) (rNeNet C) := by
  intro pins s σ H x y v u Q I rx ry h
  obtain ⟨a, b, n, m, ks, ls, rfl, rfl, N1, N2, q⟩ := h
  cases rx
  cases ry
  obtain ⟨f, fd, hm, F, hb⟩ := M
  obtain ⟨dx, od, J⟩ := inst_net I N1
  obtain ⟨dy, oe, J'⟩ := inst_net I N2
  obtain ⟨mm, hF⟩ := I.fr
  show wpAny (model X.prog X.w) X.A (richCompare .NotEq (.ref a) (.ref b)) (EP X pins σ Q) X.xe s
  refine ne_K (tb := .ref C) (hu_of hr) hF I.ok.mod.kin J J'.type notFirst_self NC.ne NC.hm hm.at_ hm.fn (wpAny_mono (run_at (L2.Sub.in1 ⟨hr, rfl⟩) F hb passN I (vs := [V.ref a, V.ref b]) (.cons rfl (.cons rfl .nil)) (Q := fun v H' => v = .bl (decide (n = m ∧ ks = ls)) ∧ Q (.bl (!decide (n = m ∧ ks = ls))) H')
    ⟨a, b, n, m, ks, ls, rfl, N1, N2, fun H' e => ⟨rfl, q H' e⟩⟩) (fun v s' z => ?_) fun _ _ z => z)
  obtain ⟨w, H', I', rv, rfl, q'⟩ := z
  cases rv
  exact ⟨_, rfl, ⟨V.bl (!decide (n = m ∧ ks = ls)), H', I', rfl, q'⟩⟩
end
section
variable {C a b lp : Addr} {n m : Nat} {ks ls ps : List Pr} {G H : Hp} {L : List (Addr × HO)} {Q : VK} {E : XK} {xs : List V}
theorem n_lenNet (N : NetAt C H a n ks) (k : Q (.int (n : Int)) H) : rLenNet C [.ref a] H Q := ⟨a, n, ks, rfl, N, k⟩
theorem n_eqNet (S : Own G L H) (N1 : NetAt C G a n ks) (N2 : NetAt C G b m ls) (k : ∀ H1, Own G L H1 → Q (.bl (decide (n = m ∧ ks = ls))) H1) : rEqNet C (.ref a) (.ref b) H Q := ⟨a, b, n, m, ks, ls, rfl, rfl, N1.mono S.ex, N2.mono S.ex, fun H' e => k H' (S.grow e)⟩
theorem n_neNet (S : Own G L H) (N1 : NetAt C G a n ks) (N2 : NetAt C G b m ls) (k : ∀ H1, Own G L H1 → Q (.bl (!decide (n = m ∧ ks = ls))) H1) : rNeNet C (.ref a) (.ref b) H Q := ⟨a, b, n, m, ks, ls, rfl, rfl, N1.mono S.ex, N2.mono S.ex, fun H' e => k H' (S.grow e)⟩
theorem NetAt.ins (N : NetAt C H a n ks) {m : Str} (h1 : ¬ m = "near") (h2 : ¬ m = "kept") : INS C m (.ref a) H := by
  obtain ⟨dx, kp, np, xs, nps, o⟩ := N.at_
  exact ⟨a, dx, _, rfl, o.ins, nf_no kp np h1 h2⟩
/-- Network(n, links) -/
theorem n_netN (hlp : H lp = some (.lst xs)) (hl : Lks H xs ps) (hok : Okl n ps) (hnd : ps.Nodup) (hn : 1 ≤ n ∧ n ≤ 60) (hz : ps.length ≤ 10000)
    (k : ∀ x H1, H x = none → Ex H H1 → NetAt C (nw H H1) x n (sortP ps) → Q (.ref x) H1) : MAKE C (spInit C) E [.int (n : Int), .ref lp] H Q := by
  intro x dx hx hdx ne
  have hx' : upd H dx (.own x) x = none := by rw [upd_ne (Ne.symm ne)]; exact hx
  have e1 : Ex H (upd H dx (.own x)) := Ex.new hdx
  exact ⟨x, lp, dx, n, xs, ps, upd H dx (.own x), rfl, (Own.start _).lay hx', e1 _ _ hlp, hl.mono e1, hok, hnd, hn.1, hn.2, hz, fun H' e N => ⟨rfl, k x H' hx (e1.trans e) (N.mono (nw_mono e1))⟩⟩
theorem n_net (S : Own G L H) (hlp : H lp = some (.lst xs)) (hl : Lks H xs ps) (hok : Okl n ps) (hnd : ps.Nodup) (hn : 1 ≤ n ∧ n ≤ 60) (hz : ps.length ≤ 10000)
    (k : ∀ x G1 H1, H x = none → Ex G G1 → Ex H H1 → Own G1 L H1 → NetAt C G1 x n (sortP ps) → Q (.ref x) H1) : MAKE C (spInit C) E [.int (n : Int), .ref lp] H Q :=
  n_netN hlp hl hok hnd hn hz fun x H1 hx e N => by
    obtain ⟨S1, e2, e3⟩ := S.absorb e
    exact k x _ H1 hx e2 e S1 (N.mono e3)
end
end NX

namespace NX
open PySem PySem.Spec PyProof.Rows L2
open Evl (Ex ex_l ex_t fresh_back)
/-- sizes of smallest networks: behind n turns -/
def fw (off : Bool) : Nat → Int
  | 0 => 1
  | 1 => 2
  | n + 2 => if off then fw off (n + 1) + fw off n else fw off (n + 1) + fw off (n + 1)
/-- the one ahead of the last -/
def fwB (off : Bool) : Nat → Int
  | 0 => 1
  | n + 1 => fw off n
theorem fw_next (off : Bool) : ∀ n, fw off (n + 1) = fw off n + (if off = true then fwB off n else fw off n)
  | 0 => by cases off <;> rfl
  | n + 1 => by cases off <;> rfl
def fwL (off : Bool) (n : Nat) : List V := (List.range (n + 1)).map fun i => V.int (fw off i)
theorem fwL_next (off : Bool) (n : Nat) : fwL off (n + 1) = fwL off n ++ [.int (fw off (n + 1))] := by
  unfold fwL
  rw [List.range_succ, List.map_append] <;> rfl
theorem fwL_len (off : Bool) (n : Nat) : (fwL off n).length = n + 1 := by
  unfold fwL
  rw [List.length_map, List.length_range]
theorem fwL_last (off : Bool) (n : Nat) : atI (fwL off n) (-1) = some (.int (fw off n)) := by
  cases n with
  | zero => rfl
  | succ n => rw [fwL_next]; exact atI_last _ _
abbrev s_fewest_stations : Stmt := top 13
theorem sc_fewest_stations : FnScope ["channel", "off", "sizes", "before", "last"] ["channel", "off"] (defScope s_fewest_stations) := ⟨rfl, rfl, rfl, by decide +kernel, rfl, by decide +kernel, by decide +kernel⟩
def spFewest : Sp := fun vs H Q _ => ∃ (c : Nat) (off : Bool), vs = [.int ((c : Int) + 1), .bl off] ∧ c < 60 ∧ ∀ H', Ex H H' → Q (.int (fw off c)) H'
theorem n_few {G H : Hp} {L : List (Addr × HO)} {i : Int} {off : Bool} {Q : VK} {E : XK} (c : Nat) (S : Own G L H) (h : i = (c : Int) + 1) (hc : c < 60) (k : ∀ H1, Own G L H1 → Q (.int (fw off c)) H1) : spFewest [.int i, .bl off] H Q E := by
  subst h
  exact ⟨c, off, rfl, hc, fun H' e => k H' (S.grow e)⟩
section
variable {P : Program} {w : World} {K : PySem.W.Frag} {mg : Str → Option Value} {base : Heap}
theorem ok_fewest {f : Addr} {fd : FuncData} (F : FunD K "fewest_stations" "fewest_stations" (defArgs s_fewest_stations) (defBody s_fewest_stations) (defScope s_fewest_stations) [] [("off", .bl true)] f fd) (T : Txt mg)
    (c_is_int : Cal P w K mg base 1 "is_int" ["value"] [] (spIsInt K)) : FnOk P w K mg base (L2.CX P w) 2 f fd ["channel", "off"] spFewest := by
  refine F.ok sc_fewest_stations (fun vs H Q E h => ?_) (fun cdv A outer s H vs Q E hr h => ?_)
  · obtain ⟨c, off, rfl, _⟩ := h
    rfl
  · obtain ⟨c, off, rfl, hc, k⟩ := h
    refine ⟨_, PSs.nox (pss_cons (ps_if (PW.pt (pw_or (pt_not (pt_val (pe_cal c_is_int (hr.mono (by first | decide | omega)) passN (pa_cons (pv 0) pa_nil)))) (pw_or1 (pt_not (pt_chain op_le op_le pe_int (pv 0) (pe_cst (by rfl) T.m_MAX_CHANNEL)))))) (pss_one ps_never) pss_nil)
      (pss_cons (ps_set (i := 2) sc_fewest_stations.nd rfl (Or.inl rfl) (pe_lst (pa_cons pe_int pa_nil)))
      (pss_cons (ps_set (i := 3) sc_fewest_stations.nd rfl (Or.inl rfl) pe_int)
      (pss_cons (ps_while PassesOwn.never (pt_cmpR op_lt (pe_callB call_lenN (by rfl) T.n_len (by decide +kernel) (pa_cons (pv 2) pa_nil)) (pv 0) (nomark _)) (pss_cons (ps_par (i := 3) (j := 4) rfl sc_fewest_stations.nd rfl rfl (by decide) rfl rfl (pa_cons (pe_ix ix_list (pv 2) (pe_un un_neg pe_int) (fun _ _ => rfl)) (pa_cons (pv 3) pa_nil)) rfl)
      (pss_one (ps_expr (pe_bm PySem.F.plainAttrs_list PySem.F.slot_list_append PySem.F.type_list_append mt_append (pv 2) (pa_cons (pe_op op_add (pv 3) (pe_ifExp (pt_val (pv 1)) (pv 4) (pv 3))) pa_nil))))))
      (pss_one (ps_ret (pe_ix ix_list (pv 2) (pe_un un_neg pe_int) (fun _ _ => rfl)))))))), ?_⟩
    walk_at "go"
    refine g_isint ?_
    walk_at "go"
    refine if_tt (dtrue (by omega)) ?_
    walk_at "go"
    refine if_ff (ntrue (by omega)) ?_
    walk_at "go"
    refine n_lst (Own.start H) (by decide) fun p H1 hp S1 => ?_
    walk_at "go"
    refine s_while (fun m σ' H' => ∃ i : Nat, i ≤ c ∧ m = c - i ∧ (∃ lst, σ' = [some (.int ((c : Int) + 1)), some (.bl off), some (.ref p), some (.int (fwB off i)), lst]) ∧ Own H [(p, .lst (fwL off i))] H') c ⟨0, Nat.zero_le _, rfl, ⟨none, rfl⟩, S1⟩ ?_
    rintro m σ' H' ⟨i, hi, rfl, ⟨lst, rfl⟩, S⟩
    walk_at "go"
    refine n_len S.l0 ?_
    walk_at "go"
    rw [fwL_len]
    refine if_2 (fun e => ?_) (fun e => ?_)
    · have e := of_decide_eq_true e
      refine s_turn ?_
      walk_at "go"
      refine g_ixL S.l0 (fwL_last off i) ?_
      walk_at "go"
      refine ⟨tyL S.l0, ?_⟩
      walk_at "go"
      refine if_2 (fun e1 => ?_) (fun e1 => ?_)
      · walk_at "go"
        refine n_app S (by rw [fwL_len]; omega) fun H2 S2 => ?_
        exact ⟨c - (i + 1), by omega, i + 1, by omega, rfl, ⟨_, rfl⟩, by rw [fwL_next, fw_next, if_pos e1]; exact S2⟩
      · walk_at "go"
        refine n_app S (by rw [fwL_len]; omega) fun H2 S2 => ?_
        exact ⟨c - (i + 1), by omega, i + 1, by omega, rfl, ⟨_, rfl⟩, by rw [fwL_next, fw_next, if_neg (by rw [e1]; decide)]; exact S2⟩
    · have e := of_decide_eq_false e
      have ei : i = c := by omega
      subst ei
      walk_at "go"
      refine g_ixL S.l0 (fwL_last off i) ?_
      exact k _ S.ex
end
end NX

namespace NX
/-! ### the sizes grow -/
theorem fw_ten : ∀ off : Bool, (60 : Int) < fw off 9 := by decide +kernel
theorem fw_one (off : Bool) : fw off 0 = 1 := rfl
theorem fw_pos (off : Bool) : ∀ n, 1 ≤ fw off n ∧ 1 ≤ fwB off n
  | 0 => ⟨Int.le_refl _, Int.le_refl _⟩
  | n + 1 => by
    have h := fw_pos off n
    refine ⟨?_, h.1⟩
    rw [fw_next]
    split <;> omega
theorem fw_up (off : Bool) (n : Nat) : fw off n < fw off (n + 1) := by
  have h := fw_pos off n
  rw [fw_next]
  split <;> omega
theorem fw_le (off : Bool) {n m : Nat} (h : n ≤ m) : fw off n ≤ fw off m := by
  induction m with
  | zero => have e : n = 0 := by omega
            subst e; exact Int.le_refl _
  | succ m ih =>
    by_cases c : n = m + 1
    · subst c; exact Int.le_refl _
    · exact Int.le_trans (ih (by omega)) (Int.le_of_lt (fw_up off m))
theorem fw_small (off : Bool) {c : Nat} (h : fw off c ≤ 60) : c < 9 := by
  rcases Nat.lt_or_ge c 9 with q | q
  · exact q
  · have h1 := fw_le off q
    have h2 := fw_ten off
    omega
end NX

namespace NX
open PySem PySem.Spec PyProof.Rows L2
open Evl (Ex ex_l ex_t fresh_back)
/-- what grown makes of the links l -/
def grow (off : Bool) : Nat → List (Int × Int) → Int → List Int → List (Int × Int)
  | 0, l, _, _ => l
  | d + 1, l, top, kinds => kinds.foldl (fun l kind => grow off d (l ++ [(top, (l.length : Int) + 1)]) ((l.length : Int) + 1) (rgI 1 (kind - (if off then 1 else 0)))) l
def gstep (off : Bool) (d : Nat) (top : Int) (l : List (Int × Int)) (kind : Int) : List (Int × Int) := grow off d (l ++ [(top, (l.length : Int) + 1)]) ((l.length : Int) + 1) (rgI 1 (kind - (if off then 1 else 0)))
theorem grow_succ (off : Bool) (d : Nat) (l : List (Int × Int)) (top : Int) (kinds : List Int) : grow off (d + 1) l top kinds = kinds.foldl (gstep off d top) l := rfl
theorem grow_len (off : Bool) : ∀ (d : Nat) (l : List (Int × Int)) (top : Int) (kinds : List Int), l.length ≤ (grow off d l top kinds).length
  | 0, l, _, _ => Nat.le_refl _
  | d + 1, l, top, kinds => by
    rw [grow_succ]
    induction kinds generalizing l with
    | nil => exact Nat.le_refl _
    | cons k ks ih =>
      rw [List.foldl_cons]
      refine Nat.le_trans ?_ (ih (gstep off d top l k))
      unfold gstep
      refine Nat.le_trans ?_ (grow_len off d _ _ _)
      rw [List.length_append]
      exact Nat.le_add_right _ _
theorem fold_len (off : Bool) (d : Nat) (top : Int) (l : List (Int × Int)) (ks : List Int) : l.length ≤ (ks.foldl (gstep off d top) l).length := grow_len off (d + 1) l top ks
abbrev s_grown : Stmt := top 14
theorem sc_grown : FnScope ["links", "top", "kinds", "off", "kind", "station"] ["links", "top", "kinds", "off"] (defScope s_grown) := ⟨rfl, rfl, rfl, by decide +kernel, rfl, by decide +kernel, by decide +kernel⟩
def spGrown (K : PySem.W.Frag) (d : Nat) : Sp := fun vs H Q _ => ∃ (p kp : Addr) (xs : List V) (ps : List (Int × Int)) (top : Int) (kinds : List Int) (off : Bool) (G : Hp), vs = [.ref p, .int top, .ref kp, .bl off] ∧ Own G [(p, .lst xs)] H ∧ Lks G xs ps ∧
  SqL K G kp (kinds.map V.int) ∧ (∀ k ∈ kinds, 1 ≤ k ∧ k ≤ (d : Int)) ∧ d ≤ 1000 ∧ (grow off (d + 1) ps top kinds).length ≤ 100000 ∧ ∀ G' xs' H', Ex G G' → Own G' [(p, .lst xs')] H' → Lks G' xs' (grow off (d + 1) ps top kinds) → Q .non H'
def spPrev (K : PySem.W.Frag) : Nat → Sp
  | 0 => fun _ _ _ _ => False
  | d + 1 => spGrown K d
theorem grow_enough (off : Bool) (l : List (Int × Int)) (top : Int) (kinds : List Int) (d : Nat) (h : ∀ k ∈ kinds, 1 ≤ k ∧ k ≤ (d : Int)) (hd : d = 0) : kinds = [] := by
  cases kinds with
  | nil => rfl
  | cons k ks => have := h k List.mem_cons_self; omega
section
variable {P : Program} {w : World} {K : PySem.W.Frag} {mg : Str → Option Value} {base : Heap}
theorem body_grown {f : Addr} {fd : FuncData} (F : Fun K "grown" "grown" s_grown f fd) (T : Txt mg) (d : Nat) (c_grown : Cal P w K mg base d "grown" ["links", "top", "kinds", "off"] [] (spPrev K d)) :
    FnOk P w K mg base CX0 (d + 1) f fd ["links", "top", "kinds", "off"] (spGrown K d) := by
  refine F.ok sc_grown (fun vs H Q E h => ?_) (fun cdv A outer s H vs Q E hr h => ?_)
  · obtain ⟨p, kp, xs, ps, top, kinds, off, G, rfl, _⟩ := h
    rfl
  · obtain ⟨p, kp, xs, ps, top, kinds, off, G, rfl, S0, hl, hk, hb, hd, hz, k⟩ := h
    refine ⟨_, (pss_one (ps_for PassesOwn.never rfl (pi_list (pv 2)) (pg_name (i := 4) sc_grown.nd rfl (Or.inl rfl)) (pss_cons (ps_set (i := 5) sc_grown.nd rfl (Or.inl rfl) (pe_op op_add (pe_callB call_lenN (by rfl) T.n_len (by decide +kernel) (pa_cons (pv 0) pa_nil)) pe_int))
      (pss_cons (ps_expr (pe_bm PySem.F.plainAttrs_list PySem.F.slot_list_append PySem.F.type_list_append mt_append (pv 0) (pa_cons (pe_tup (pa_cons (pv 1) (pa_cons (pv 5) pa_nil))) pa_nil)))
      (pss_one (ps_expr (pe_cal c_grown (hr.mono (by first | decide | omega)) passN (pa_cons (pv 0) (pa_cons (pv 5) (pa_cons (pe_listRg rfl (by rfl) T.n_list (prg_2 (by rfl) T.n_range pe_int (pe_op op_sub (pv 4) (pe_callTy call_intN (by rfl) T.n_int (by decide +kernel) (pa_cons (pv 3) pa_nil))))) (pa_cons (pv 3) pa_nil))))))))))), ?_⟩
    walk_at "go"
    refine w_list (xs := kinds.map V.int) (fun i σ' H' => (∃ x y, σ' = [some (.ref p), some (.int top), some (.ref kp), some (.bl off), x, y]) ∧ ∃ G' xs', Ex G G' ∧ Own G' [(p, .lst xs')] H' ∧ Lks G' xs' ((kinds.take i).foldl (gstep off d top) ps))
      (S0.sl hk) ⟨⟨none, none, rfl⟩, G, xs, Ex.refl G, S0, hl⟩ (fun i σ' H' ⟨_, G', xs', e, S, _⟩ => S.sl (ex_l e hk)) ?_ ?_
    · rintro i x σ' H' hx ⟨⟨x0, y0, rfl⟩, G', xs', e, S, hl'⟩
      obtain ⟨kind, hkd, rfl⟩ := get_map hx
      have hb1 := hb kind (List.mem_of_getElem? hkd)
      have hstep : (kinds.take (i + 1)).foldl (gstep off d top) ps = gstep off d top ((kinds.take i).foldl (gstep off d top) ps) kind := by rw [take_snoc hkd, List.foldl_append] <;> rfl
      have hz1 : ((kinds.take (i + 1)).foldl (gstep off d top) ps).length ≤ 100000 := by
        refine Nat.le_trans ?_ hz
        rw [grow_succ]
        have q : kinds = kinds.take (i + 1) ++ kinds.drop (i + 1) := (List.take_append_drop _ _).symm
        conv => rhs; rw [q, List.foldl_append]
        exact fold_len off d top _ _
      rw [hstep] at hz1 ⊢
      generalize (kinds.take i).foldl (gstep off d top) ps = l at hl' hz1 ⊢
      have hlen := pr_len hl'
      have hz2 : l.length + 1 ≤ 100000 := by
        refine Nat.le_trans ?_ hz1
        unfold gstep
        refine Nat.le_trans ?_ (grow_len off d _ _ _)
        rw [List.length_append]
        exact Nat.le_refl _
      match d, c_grown, hd, hb, hb1, hz1 with
      | 0, _, _, _, hb1, _ => exact absurd hb1.2 (by have := hb1.1; omega)
      | d + 1, c_grown, hd, hb, hb1, hz1 =>
      walk_at "go"
      refine n_len S.l0 ?_
      walk_at "go"
      refine ⟨tyL S.l0, ?_⟩
      walk_at "go"
      refine n_tup S (by show 2 ≤ 10000000; decide) fun t G2 H2 _ e2 _ ht S2 => ?_
      walk_at "go"
      refine n_app S2 (by omega) fun H3 S3 => ?_
      walk_at "go"
      refine n_rgG S3 (by cases off <;> simp <;> omega) fun q G4 H4 _ e4 _ hq S4 => ?_
      walk_at "go"
      rw [hlen] at ht ⊢
      refine ⟨p, q, _, l ++ [(top, (l.length : Int) + 1)], _, rgI 1 (kind - (if off then 1 else 0)), off, G4, rfl, S4, ?_, ?_, ?_, by omega, hz1, ?_⟩
      · exact pr_snoc (hl'.mono (e2.trans e4)) ⟨t, rfl, e4 _ _ ht⟩
      · rw [← rgV_eq]; exact SqL.of hq
      · intro k hk'
        have := mem_rgI hk'
        have : kind - (if off = true then 1 else 0) ≤ kind := by split <;> omega
        omega
      · intro G5 xs5 H5 e5 S5 h5
        walk_at "go"
        exact ⟨⟨_, _, rfl⟩, G5, xs5, ((e.trans e2).trans e4).trans e5, S5, h5⟩
    · rintro σ' H' ⟨_, G', xs', e, S, hl'⟩
      rw [List.length_map, List.take_length] at hl'
      exact k G' xs' H' e S hl'
theorem ok_grown {f : Addr} {fd : FuncData} (F : Fun K "grown" "grown" s_grown f fd) (T : Txt mg) (hm : mg "grown" = some (.ref f)) (hb : Binds K fd ["links", "top", "kinds", "off"] []) :
    ∀ d, FnOk P w K mg base (L2.CX P w) (d + 1) f fd ["links", "top", "kinds", "off"] (spGrown K d)
  | 0 => fn_up (body_grown F T 0 ⟨f, fd, [], ⟨fun _ _ _ _ h => h.elim, fun _ _ _ _ _ _ _ _ _ _ _ _ _ h => h.elim⟩, hm, F.kp, hb, .nil⟩)
  | d + 1 => fn_up (body_grown F T (d + 1) ⟨f, fd, [], ok_grown F T hm hb d, hm, F.kp, hb, .nil⟩)
end
end NX

namespace NX
open PySem PySem.Spec PyProof.Rows L2
open Evl (Ex ex_l ex_t fresh_back)
/-- the links of a smallest network for the channel c + 1 -/
def treeL (off : Bool) (c : Nat) : List Pr := grow off (c + 1) [] 0 (rgI 1 ((c : Int) + 1))
def treeN (off : Bool) (c : Nat) : Nat := (treeL off c).length + 1
def okTree (off : Bool) (c : Nat) : Bool := decide ((treeN off c : Int) = fw off c) && ((treeL off c).all fun q => decide (0 ≤ q.1 ∧ q.1 < q.2 ∧ q.2 < (treeN off c : Int))) && decide (treeL off c).Nodup
theorem tree_ok : ∀ off : Bool, ∀ c : Nat, c < 9 → fw off c ≤ 60 → okTree off c = true := by decide +kernel
theorem tree_facts {off : Bool} {c : Nat} (h : fw off c ≤ 60) : (treeN off c : Int) = fw off c ∧ Okl (treeN off c) (treeL off c) ∧ (treeL off c).Nodup := by
  have z := tree_ok off c (fw_small off h) h
  unfold okTree at z
  rw [Bool.and_eq_true, Bool.and_eq_true] at z
  refine ⟨of_decide_eq_true z.1.1, fun q hq => ?_, of_decide_eq_true z.2⟩
  have y := List.all_eq_true.mp z.1.2 q hq
  exact of_decide_eq_true y
abbrev s_tree : Stmt := top 15
theorem sc_tree : FnScope ["channel", "off", "links"] ["channel", "off"] (defScope s_tree) := ⟨rfl, rfl, rfl, by decide +kernel, rfl, by decide +kernel, by decide +kernel⟩
abbrev s_fibonacci_tree : Stmt := top 16
theorem sc_fibonacci_tree : FnScope ["channel"] ["channel"] (defScope s_fibonacci_tree) := ⟨rfl, rfl, rfl, by decide +kernel, rfl, by decide +kernel, by decide +kernel⟩
abbrev s_doubling_tree : Stmt := top 17
theorem sc_doubling_tree : FnScope ["channel"] ["channel"] (defScope s_doubling_tree) := ⟨rfl, rfl, rfl, by decide +kernel, rfl, by decide +kernel, by decide +kernel⟩
def spTree (C : Addr) : Sp := fun vs H Q _ => ∃ (c : Nat) (off : Bool), vs = [.int ((c : Int) + 1), .bl off] ∧ fw off c ≤ 60 ∧ ∀ x H', H x = none → Ex H H' → NetAt C (nw H H') x (treeN off c) (sortP (treeL off c)) → Q (.ref x) H'
def spTree1 (C : Addr) (off : Bool) : Sp := fun vs H Q _ => ∃ (c : Nat), vs = [.int ((c : Int) + 1)] ∧ fw off c ≤ 60 ∧ ∀ x H', H x = none → Ex H H' → NetAt C (nw H H') x (treeN off c) (sortP (treeL off c)) → Q (.ref x) H'
theorem n_tree1 {C : Addr} {off : Bool} {G H : Hp} {L : List (Addr × HO)} {i : Int} {Q : VK} {E : XK} (c : Nat) (S : Own G L H) (hi : i = (c : Int) + 1) (h : fw off c ≤ 60)
    (k : ∀ x G1 H1, H x = none → Ex G G1 → Own G1 L H1 → NetAt C G1 x (treeN off c) (sortP (treeL off c)) → Q (.ref x) H1) : spTree1 C off [.int i] H Q E := by
  subst hi
  refine ⟨c, rfl, h, fun x H' hx e N => ?_⟩
  obtain ⟨S1, e2, e3⟩ := S.absorb e
  exact k x _ H' hx e2 S1 (N.mono e3)
section
variable {P : Program} {w : World} {K : PySem.W.Frag} {mg : Str → Option Value} {base : Heap}
theorem ok_tree {f C : Addr} {fd : FuncData} (F : Fun K "tree" "tree" s_tree f fd) (T : Txt mg)
    (c_is_int : Cal P w K mg base 1 "is_int" ["value"] [] (spIsInt K))
    (k_fewest_stations_1_off : CalK P w K mg base 2 "fewest_stations" ["channel", "off"] 1 ["off"] (fun vs zs => vs ++ zs) spFewest)
    (C_grown : ∀ d, d ≤ 8 → Cal P w K mg base 9 "grown" ["links", "top", "kinds", "off"] [] (spGrown K d))
    (c_Network : Cnw P w K mg base 3 "Network" C ["self", "stations", "links"] (spInit C)) : FnOk P w K mg base CX0 10 f fd ["channel", "off"] (spTree C) := by
  refine F.ok sc_tree (fun vs H Q E h => ?_) (fun cdv A outer s H vs Q E hr h => ?_)
  · obtain ⟨c, off, rfl, _⟩ := h
    rfl
  · obtain ⟨c, off, rfl, hc, k⟩ := h
    have h9 := fw_small off hc
    have c_grown := C_grown c (by omega)
    obtain ⟨hn, hok, hnd⟩ := tree_facts hc
    refine ⟨_, (pss_cons (ps_if (PW.pt (pw_or (pt_not (pt_val (pe_cal c_is_int (hr.mono (by first | decide | omega)) passN (pa_cons (pv 0) pa_nil)))) (pw_or (pt_cmpR op_gt (pv 0) (pe_cst (by rfl) T.m_MAX_CHANNEL) (nomark _)) (pw_or (pt_cmpR op_lt (pv 0) pe_int (nomark _)) (pw_or1 (pt_cmpR op_gt (pe_calK k_fewest_stations_1_off (hr.mono (by first | decide | omega)) passN (pa_cons (pv 0) pa_nil) (pk_cons (pv 1) pk_nil)) (pe_cst (by rfl) T.m_MAX_STATIONS) (nomark _))))))) (pss_one ps_never) pss_nil)
      (pss_cons (ps_set (i := 2) sc_tree.nd rfl (Or.inl rfl) (pe_lst pa_nil))
      (pss_cons (ps_expr (pe_cal c_grown (hr.mono (by first | decide | omega)) passN (pa_cons (pv 2) (pa_cons pe_int (pa_cons (pe_listRg rfl (by rfl) T.n_list (prg_2 (by rfl) T.n_range pe_int (pv 0))) (pa_cons (pv 1) pa_nil))))))
      (pss_one (ps_ret (pe_new c_Network (hr.mono (by first | decide | omega)) passN (pa_cons (pe_op op_add (pe_callB call_lenN (by rfl) T.n_len (by decide +kernel) (pa_cons (pv 2) pa_nil)) pe_int) (pa_cons (pv 2) pa_nil)))))))), ?_⟩
    walk_at "go"
    refine g_isint ?_
    walk_at "go"
    refine if_ff (dfalse (by omega)) ?_
    walk_at "go"
    refine if_ff (dfalse (by omega)) ?_
    walk_at "go"
    refine ⟨rfl, rfl, n_few c (Own.start H) rfl (by omega) fun H1 S1 => ?_⟩
    walk_at "go"
    refine if_ff (dfalse (by omega)) ?_
    walk_at "go"
    refine n_lst S1 (by decide) fun p H2 hp S2 => ?_
    walk_at "go"
    refine n_rgG S2 (by omega) fun q G3 H3 _ e3 _ hq S3 => ?_
    walk_at "go"
    refine ⟨p, q, [], [], 0, rgI 1 ((c : Int) + 1), off, G3, rfl, S3, .nil, by rw [← rgV_eq]; exact SqL.of hq, fun k hk => ?_, by omega, ?_, ?_⟩
    · have := mem_rgI hk
      omega
    · show (treeL off c).length ≤ 100000
      have : (treeN off c : Int) ≤ 60 := by omega
      unfold treeN at this
      omega
    · intro G4 xs H4 e4 S4 hl
      have hlen := pr_len hl
      have e34 := e3.trans e4
      walk_at "go"
      refine n_len S4.l0 ?_
      walk_at "go"
      obtain ⟨S5, e5, h5⟩ := S4.freeze
      have hl5 : Lks H4 xs (treeL off c) := hl.mono (e5.trans S5.ex)
      have en : (xs.length : Int) + 1 = ((treeN off c : Nat) : Int) := by
        have hlen' : xs.length = (treeL off c).length := hlen
        rw [hlen']
        unfold treeN
        omega
      rw [en]
      have eH4 : Ex H H4 := e34.trans (e5.trans S5.ex)
      refine n_netN S4.get0 hl5 hok hnd ⟨by unfold treeN; omega, by omega⟩ (by unfold treeN at hn; omega) fun x H6 hx e6 N => ?_
      exact k x H6 (fresh_back eH4 hx) (eH4.trans e6) (N.mono (nw_mono eH4))
theorem ok_fib {f C : Addr} {fd : FuncData} (F : Fun K "fibonacci_tree" "fibonacci_tree" s_fibonacci_tree f fd) (c_tree : Cal P w K mg base 10 "tree" ["channel", "off"] [] (spTree C)) : FnOk P w K mg base CX0 11 f fd ["channel"] (spTree1 C true) := by
  refine F.ok sc_fibonacci_tree (fun vs H Q E h => ?_) (fun cdv A outer s H vs Q E hr h => ?_)
  · obtain ⟨c, rfl, _⟩ := h
    rfl
  · obtain ⟨c, rfl, hc, k⟩ := h
    refine ⟨_, (pss_one (ps_ret (pe_cal c_tree (hr.mono (by first | decide | omega)) passN (pa_cons (pv 0) (pa_cons pe_bl pa_nil))))), ?_⟩
    walk_at "go"
    exact ⟨c, true, rfl, hc, k⟩
theorem ok_dbl {f C : Addr} {fd : FuncData} (F : Fun K "doubling_tree" "doubling_tree" s_doubling_tree f fd) (c_tree : Cal P w K mg base 10 "tree" ["channel", "off"] [] (spTree C)) : FnOk P w K mg base CX0 11 f fd ["channel"] (spTree1 C false) := by
  refine F.ok sc_doubling_tree (fun vs H Q E h => ?_) (fun cdv A outer s H vs Q E hr h => ?_)
  · obtain ⟨c, rfl, _⟩ := h
    rfl
  · obtain ⟨c, rfl, hc, k⟩ := h
    refine ⟨_, (pss_one (ps_ret (pe_cal c_tree (hr.mono (by first | decide | omega)) passN (pa_cons (pv 0) (pa_cons pe_bl pa_nil))))), ?_⟩
    walk_at "go"
    exact ⟨c, false, rfl, hc, k⟩
end
end NX

namespace NX
open PySem PySem.Spec PyProof.Rows L2
open Evl (Ex ex_l ex_t fresh_back)
/-- no channel of a smallest network -/
def BadT (off : Bool) (v : V) (t : String) : Prop := t = "int" → ∃ i : Int, v = .int i ∧ (i < 1 ∨ 60 < i ∨ ∃ c : Nat, i = (c : Int) + 1 ∧ 60 < fw off c)
def spTreeX (C CCh : Addr) : Sp := fun vs H Q E => (∃ (v : V) (off : Bool) (t : String), vs = [v, .bl off] ∧ OddV H v t ∧ BadT off v t ∧ Thr E CCh "channel" v H) ∨ spTree C vs H Q E
def spTree1X (C CCh : Addr) (off : Bool) : Sp := fun vs H Q E => (∃ (v : V) (t : String), vs = [v] ∧ OddV H v t ∧ BadT off v t ∧ Thr E CCh "channel" v H) ∨ spTree1 C off vs H Q E
section
variable {P : Program} {w : World} {K : PySem.W.Frag} {mg : Str → Option Value} {base : Heap} {CCh : Addr}
theorem ok_treeX {f C : Addr} {fd : FuncData} (F : Fun K "tree" "tree" s_tree f fd) (T : Txt mg)
    (c_is_int : Cal P w K mg base 1 "is_int" ["value"] [] (spIsInt K))
    (k_fewest_stations_1_off : CalK P w K mg base 2 "fewest_stations" ["channel", "off"] 1 ["off"] (fun vs zs => vs ++ zs) spFewest)
    (C_grown : ∀ d, d ≤ 8 → Cal P w K mg base 9 "grown" ["links", "top", "kinds", "off"] [] (spGrown K d))
    (c_Network : Cnw P w K mg base 3 "Network" C ["self", "stations", "links"] (spInit C)) (X_NoChannel : Exn P w K mg base "NoChannel" CCh "channel") : FnOk P w K mg base (L2.CX P w) 10 f fd ["channel", "off"] (spTreeX C CCh) := by
  refine F.okX sc_tree (fun vs H Q E h => ?_) (fun cdv A outer s H vs Q E hr h => ?_)
  · rcases h with ⟨v, off, t, rfl, _⟩ | ⟨c, off, rfl, _⟩ <;> rfl
  · rcases h with ⟨v, off, t, rfl, ht, hb, kE⟩ | ⟨c, off, rfl, hc, k⟩
    · have c_grown := C_grown 0 (by decide)
      refine ⟨_, (pss_cons (ps_if (PW.pt (pw_or (pt_not (pt_val (pe_cal c_is_int (hr.mono (by first | decide | omega)) passN (pa_cons (pv 0) pa_nil)))) (pw_or (pt_cmpR op_gt (pv 0) (pe_cst (by rfl) T.m_MAX_CHANNEL) (nomark _)) (pw_or (pt_cmpR op_lt (pv 0) pe_int (nomark _)) (pw_or1 (pt_cmpR op_gt (pe_calK k_fewest_stations_1_off (hr.mono (by first | decide | omega)) passN (pa_cons (pv 0) pa_nil) (pk_cons (pv 1) pk_nil)) (pe_cst (by rfl) T.m_MAX_STATIONS) (nomark _))))))) (pss_one (ps_raiseE (K := K) rfl (takes_of rfl rfl rfl rfl) X_NoChannel (hr.mono (by first | decide | omega)) (pa_cons (pv 0) pa_nil))) pss_nil)
      (pss_cons (ps_set (i := 2) sc_tree.nd rfl (Or.inl rfl) (pe_lst pa_nil))
      (pss_cons (ps_expr (pe_cal c_grown (hr.mono (by first | decide | omega)) passN (pa_cons (pv 2) (pa_cons pe_int (pa_cons (pe_listRg rfl (by rfl) T.n_list (prg_2 (by rfl) T.n_range pe_int (pv 0))) (pa_cons (pv 1) pa_nil))))))
      (pss_one (ps_ret (pe_new c_Network (hr.mono (by first | decide | omega)) passN (pa_cons (pe_op op_add (pe_callB call_lenN (by rfl) T.n_len (by decide +kernel) (pa_cons (pv 2) pa_nil)) pe_int) (pa_cons (pv 2) pa_nil)))))))), ?_⟩
      have bad : ∀ H', Ex H H' → RAISE K CCh "channel" (fun cls d x H => E cls d H) (L2.start ["channel", "off", "links"] [v, .bl off]) [v] H' := fun H' e' => n_raise X_NoChannel.oex fun d H4 _ e4 hd => kE d H4 (e'.trans e4) hd
      walk_at "go"
      refine ⟨v, t, rfl, ht.isT, ?_⟩
      walk_at "go"
      by_cases c : t = "int"
      · subst c
        obtain ⟨i, rfl, hi⟩ := hb rfl
        refine if_ff (by decide +kernel) ?_
        walk_at "go"
        refine if_2 (fun e1 => ?_) (fun e1 => ?_)
        · walk_at "go"
          refine s_raiseE ?_
          walk_at "go"
          exact bad H (Ex.refl H)
        · have e1 := of_decide_eq_false e1
          walk_at "go"
          refine if_2 (fun e2 => ?_) (fun e2 => ?_)
          · walk_at "go"
            refine s_raiseE ?_
            walk_at "go"
            exact bad H (Ex.refl H)
          · have e2 := of_decide_eq_false e2
            obtain ⟨c, rfl, hw⟩ : ∃ c : Nat, i = (c : Int) + 1 ∧ 60 < fw off c := by
              rcases hi with h | h | h
              · omega
              · omega
              · exact h
            walk_at "go"
            refine ⟨rfl, rfl, n_few c (Own.start H) rfl (by omega) fun H1 S1 => ?_⟩
            walk_at "go"
            refine if_tt (dtrue (by omega)) ?_
            refine s_raiseE ?_
            walk_at "go"
            exact bad H1 S1.ex
      · have e : (t == "int") = false := by simp [c]
        rw [e]
        walk_at "go"
        refine s_raiseE ?_
        walk_at "go"
        exact bad H (Ex.refl H)
    · have h9 := fw_small off hc
      have c_grown := C_grown c (by omega)
      obtain ⟨hn, hok, hnd⟩ := tree_facts hc
      refine ⟨_, (pss_cons (ps_if (PW.pt (pw_or (pt_not (pt_val (pe_cal c_is_int (hr.mono (by first | decide | omega)) passN (pa_cons (pv 0) pa_nil)))) (pw_or (pt_cmpR op_gt (pv 0) (pe_cst (by rfl) T.m_MAX_CHANNEL) (nomark _)) (pw_or (pt_cmpR op_lt (pv 0) pe_int (nomark _)) (pw_or1 (pt_cmpR op_gt (pe_calK k_fewest_stations_1_off (hr.mono (by first | decide | omega)) passN (pa_cons (pv 0) pa_nil) (pk_cons (pv 1) pk_nil)) (pe_cst (by rfl) T.m_MAX_STATIONS) (nomark _))))))) (pss_one (ps_raiseE (K := K) rfl (takes_of rfl rfl rfl rfl) X_NoChannel (hr.mono (by first | decide | omega)) (pa_cons (pv 0) pa_nil))) pss_nil)
      (pss_cons (ps_set (i := 2) sc_tree.nd rfl (Or.inl rfl) (pe_lst pa_nil))
      (pss_cons (ps_expr (pe_cal c_grown (hr.mono (by first | decide | omega)) passN (pa_cons (pv 2) (pa_cons pe_int (pa_cons (pe_listRg rfl (by rfl) T.n_list (prg_2 (by rfl) T.n_range pe_int (pv 0))) (pa_cons (pv 1) pa_nil))))))
      (pss_one (ps_ret (pe_new c_Network (hr.mono (by first | decide | omega)) passN (pa_cons (pe_op op_add (pe_callB call_lenN (by rfl) T.n_len (by decide +kernel) (pa_cons (pv 2) pa_nil)) pe_int) (pa_cons (pv 2) pa_nil)))))))), ?_⟩
      walk_at "go"
      refine g_isint ?_
      walk_at "go"
      refine if_ff (dfalse (by omega)) ?_
      walk_at "go"
      refine if_ff (dfalse (by omega)) ?_
      walk_at "go"
      refine ⟨rfl, rfl, n_few c (Own.start H) rfl (by omega) fun H1 S1 => ?_⟩
      walk_at "go"
      refine if_ff (dfalse (by omega)) ?_
      walk_at "go"
      refine n_lst S1 (by decide) fun p H2 hp S2 => ?_
      walk_at "go"
      refine n_rgG S2 (by omega) fun q G3 H3 _ e3 _ hq S3 => ?_
      walk_at "go"
      refine ⟨p, q, [], [], 0, rgI 1 ((c : Int) + 1), off, G3, rfl, S3, .nil, by rw [← rgV_eq]; exact SqL.of hq, fun k hk => ?_, by omega, ?_, ?_⟩
      · have := mem_rgI hk
        omega
      · show (treeL off c).length ≤ 100000
        have : (treeN off c : Int) ≤ 60 := by omega
        unfold treeN at this
        omega
      · intro G4 xs H4 e4 S4 hl
        have hlen := pr_len hl
        have e34 := e3.trans e4
        walk_at "go"
        refine n_len S4.l0 ?_
        walk_at "go"
        obtain ⟨S5, e5, h5⟩ := S4.freeze
        have hl5 : Lks H4 xs (treeL off c) := hl.mono (e5.trans S5.ex)
        have en : (xs.length : Int) + 1 = ((treeN off c : Nat) : Int) := by
          have hlen' : xs.length = (treeL off c).length := hlen
          rw [hlen']
          unfold treeN
          omega
        rw [en]
        have eH4 : Ex H H4 := e34.trans (e5.trans S5.ex)
        refine n_netN S4.get0 hl5 hok hnd ⟨by unfold treeN; omega, by omega⟩ (by unfold treeN at hn; omega) fun x H6 hx e6 N => ?_
        exact k x H6 (fresh_back eH4 hx) (eH4.trans e6) (N.mono (nw_mono eH4))

theorem ok_fibX {f C : Addr} {fd : FuncData} (F : Fun K "fibonacci_tree" "fibonacci_tree" s_fibonacci_tree f fd) (c_tree : Cal P w K mg base 10 "tree" ["channel", "off"] [] (spTreeX C CCh)) : FnOk P w K mg base (L2.CX P w) 11 f fd ["channel"] (spTree1X C CCh true) := by
  refine F.okX sc_fibonacci_tree (fun vs H Q E h => ?_) (fun cdv A outer s H vs Q E hr h => ?_)
  · rcases h with ⟨v, t, rfl, _⟩ | ⟨c, rfl, _⟩ <;> rfl
  · rcases h with ⟨v, t, rfl, ht, hb, kE⟩ | ⟨c, rfl, hc, k⟩
    · refine ⟨_, (pss_one (ps_ret (pe_cal c_tree (hr.mono (by first | decide | omega)) (passE (takes_of rfl rfl rfl rfl) fun _ _ _ _ z => z) (pa_cons (pv 0) (pa_cons pe_bl pa_nil))))), ?_⟩
      walk_at "go"
      exact .inl ⟨v, true, t, rfl, ht, hb, kE⟩
    · refine ⟨_, (pss_one (ps_ret (pe_cal c_tree (hr.mono (by first | decide | omega)) (passE (takes_of rfl rfl rfl rfl) fun _ _ _ _ z => z) (pa_cons (pv 0) (pa_cons pe_bl pa_nil))))), ?_⟩
      walk_at "go"
      exact .inr ⟨c, true, rfl, hc, k⟩
theorem ok_dblX {f C : Addr} {fd : FuncData} (F : Fun K "doubling_tree" "doubling_tree" s_doubling_tree f fd) (c_tree : Cal P w K mg base 10 "tree" ["channel", "off"] [] (spTreeX C CCh)) : FnOk P w K mg base (L2.CX P w) 11 f fd ["channel"] (spTree1X C CCh false) := by
  refine F.okX sc_doubling_tree (fun vs H Q E h => ?_) (fun cdv A outer s H vs Q E hr h => ?_)
  · rcases h with ⟨v, t, rfl, _⟩ | ⟨c, rfl, _⟩ <;> rfl
  · rcases h with ⟨v, t, rfl, ht, hb, kE⟩ | ⟨c, rfl, hc, k⟩
    · refine ⟨_, (pss_one (ps_ret (pe_cal c_tree (hr.mono (by first | decide | omega)) (passE (takes_of rfl rfl rfl rfl) fun _ _ _ _ z => z) (pa_cons (pv 0) (pa_cons pe_bl pa_nil))))), ?_⟩
      walk_at "go"
      exact .inl ⟨v, false, t, rfl, ht, hb, kE⟩
    · refine ⟨_, (pss_one (ps_ret (pe_cal c_tree (hr.mono (by first | decide | omega)) (passE (takes_of rfl rfl rfl rfl) fun _ _ _ _ z => z) (pa_cons (pv 0) (pa_cons pe_bl pa_nil))))), ?_⟩
      walk_at "go"
      exact .inr ⟨c, false, rfl, hc, k⟩
theorem fn_imp {f : Addr} {fd : FuncData} {CX : CXT} {k : Nat} {ps : List Str} {sp sp' : Sp} (F : FnOk P w K mg base CX k f fd ps sp) (h : ∀ vs H Q E, sp' vs H Q E → sp vs H Q E) : FnOk P w K mg base CX k f fd ps sp' :=
  ⟨fun vs H Q E z => F.len vs H Q E (h _ _ _ _ z), fun A outer s H args us vs Q E hr e0 hb r hs => F.run A outer s H args us vs Q E hr e0 hb r (h _ _ _ _ hs)⟩
end
end NX

namespace NX
open PySem PySem.Spec PyProof.Rows L2
open Evl (Ex ex_l ex_t fresh_back)
/-- a well of draws -/
def wl (a b c : Int) : HO := .lst [.int a, .int b, .int c]
theorem n_setLi {H : Hp} {W : Addr} {xs : List V} {i : Int} {j : Nat} {v : V} {Q : Hp → Prop} (h : H W = some (.lst xs)) (hi : ixN xs.length i = some j) (k : Q (upd H W (.lst (xs.set j v)))) : rSetL (.ref W) (.int i) v H Q := ⟨W, xs, i, j, rfl, rfl, h, hi, k⟩
theorem mod_rng {a m : Int} (h : 0 < m) : 0 ≤ a % m ∧ a % m < m := ⟨Int.emod_nonneg a (by omega), Int.emod_lt_of_pos a h⟩
theorem Own.weak {G G' H : Hp} {L : List (Addr × HO)} (e : Ex G G') (S : Own G' L H) : Own G L H := ⟨e.trans S.ex, fun p hp => ⟨fresh_back e (S.at_ p hp).1, (S.at_ p hp).2⟩, S.nd, S.nt⟩
/-- xs.pop(i) -/
theorem n_popAt {G H : Hp} {L : List (Addr × HO)} {p : Addr} {xs : List V} {i : Int} {Q : VK} (S : Own G ((p, .lst xs) :: L) H) (h0 : 0 ≤ i) (h1 : i < (xs.length : Int)) (hz : xs.length ≤ 1000000)
    (k : ∀ y H1, xs[i.toNat]? = some y → Own G ((p, .lst (xs.eraseIdx i.toNat)) :: L) H1 → Q y H1) : rPopAt (.ref p) [.int i] H Q := by
  have hl : i.toNat < xs.length := by omega
  have hy : xs[i.toNat]? = some xs[i.toNat] := List.getElem?_eq_getElem hl
  refine ⟨p, xs, i, i.toNat, _, rfl, rfl, S.get0, by omega, by omega, ?_, hy, k _ _ hy S.put0⟩
  unfold seqIndex?
  have h3 : ¬ i < 0 := by omega
  simp [h3, h1]
  try omega
/-- a list whose items are data: for == and != -/
def DataOk (K : PySem.W.Frag) (G : Hp) (xs : List V) : Prop := ∀ H, Ex G H → ∀ ys : List V, (∀ y ∈ ys, y ∈ xs) → ∃ ds, DpAll K H ys ds ∧ SeqAt.shaped (.list ds) = true ∧ ds.length = ys.length
theorem ints_of_sub {ns : List Int} : ∀ {ys : List V}, (∀ y ∈ ys, y ∈ ns.map V.int) → ∃ ms : List Int, ys = ms.map V.int
  | [], _ => ⟨[], rfl⟩
  | y :: ys, h => by
    obtain ⟨ms, rfl⟩ := ints_of_sub (ys := ys) fun y hy => h y (List.mem_cons_of_mem _ hy)
    obtain ⟨m, _, rfl⟩ := List.mem_map.mp (h y List.mem_cons_self)
    exact ⟨m :: ms, rfl⟩
theorem data_ints (K : PySem.W.Frag) (G : Hp) (ns : List Int) : DataOk K G (ns.map V.int) := fun H _ ys h => by
  obtain ⟨ms, rfl⟩ := ints_of_sub h
  exact ⟨_, dp_ints ms, shaped_ints ms, by simp⟩
theorem data_lks {K : PySem.W.Frag} {G : Hp} {xs : List V} {ps : List Pr} (h : Lks G xs ps) : DataOk K G xs := fun H e ys hy => by
  have z : Lks G ys (ys.map (kOf G)) := lks_of fun x hx => (lks_k h).2 x (hy x hx)
  exact ⟨_, dp_lks (z.mono e), shaped_lks _, by simp⟩
theorem eqv_nil (ds : List PyData) : PyData.eqv (.list ds) (.list []) = decide (ds = []) := by
  cases ds with
  | nil => simp [PyData.eqv, PyData.eqvAll]
  | cons d ds => simp [PyData.eqv, PyData.eqvAll]
theorem n_neNil {K : PySem.W.Frag} {G H : Hp} {p q : Addr} {xs ys : List V} {Q : VK} (d : DataOk K G xs) (e : Ex G H) (sub : ∀ y ∈ ys, y ∈ xs) (h1 : SqL K H p ys) (h2 : SqL K H q []) (k : Q (.bl (!decide (ys = []))) H) : rNeD K (.ref p) (.ref q) H Q := by
  obtain ⟨ds, h3, h4, h5⟩ := d H e ys sub
  refine ⟨_, _, .lst h1 h3, .lst h2 .nil, h4, shaped_ints [], ?_⟩
  rw [eqv_nil]
  have z : decide (ds = []) = decide (ys = []) := by
    rw [Bool.eq_iff_iff, decide_eq_true_eq, decide_eq_true_eq, ← List.length_eq_zero_iff, ← List.length_eq_zero_iff, h5]
  rw [z]
  exact k
theorem erase_perm {α : Type} : ∀ {l : List α} {i : Nat} (h : i < l.length), (l[i] :: l.eraseIdx i).Perm l
  | [], _, h => absurd h (Nat.not_lt_zero _)
  | a :: l, 0, _ => List.Perm.refl _
  | a :: l, i + 1, h => by
    have ih := erase_perm (l := l) (i := i) (by simpa using h)
    exact (List.Perm.swap a _ _).trans (ih.cons a)
theorem DataOk.mono {K : PySem.W.Frag} {G H : Hp} {xs : List V} (h : DataOk K G xs) (e : Ex G H) : DataOk K H xs := fun H' e' => h H' (e.trans e')
def spMixed (K : PySem.W.Frag) : Sp := fun vs H Q _ => ∃ (W p : Addr) (a b c : Int) (xs : List V), vs = [.ref W, .ref p] ∧ H W = some (wl a b c) ∧ SqL K (cut H [(W, wl a b c)]) p xs ∧ DataOk K (cut H [(W, wl a b c)]) xs ∧ xs.length ≤ 100000 ∧
  ∀ ys q H' a' b' c', ys.Perm xs → H q = none → Own (cut H [(W, wl a b c)]) [(W, wl a' b' c'), (q, .lst ys)] H' → Q (.ref q) H'
theorem n_mixed {K : PySem.W.Frag} {H G : Hp} {L : List (Addr × HO)} {W p : Addr} {a b c : Int} {xs : List V} {Q : VK} {E : XK} (S : Own G ((W, wl a b c) :: L) H) (hp : SqL K G p xs) (hd : DataOk K G xs) (hz : xs.length ≤ 100000)
    (k : ∀ ys q H1 a' b' c', ys.Perm xs → H q = none → Own G ((W, wl a' b' c') :: (q, .lst ys) :: L) H1 → Q (.ref q) H1) : spMixed K [.ref W, .ref p] H Q E :=
  ⟨W, p, a, b, c, xs, rfl, S.get0, ex_l S.keep hp, hd.mono S.keep, hz, fun ys q H' a' b' c' hy hq T => k ys q H' a' b' c' hy hq (S.back T)⟩
end NX

namespace NX
open PySem PySem.Spec PyProof.Rows L2
open Evl (Ex ex_l ex_t fresh_back)
abbrev s__law_fewest : Stmt := top 24
theorem sc__law_fewest : FnScope ["_law_channel", "_law_is_off", "_law_branches_so", "_law_kind"] ["_law_channel", "_law_is_off"] (defScope s__law_fewest) := ⟨rfl, rfl, rfl, by decide +kernel, rfl, by decide +kernel, by decide +kernel⟩
/-- the sizes of the branches -/
def bz (off : Bool) : Nat → Int
  | 0 => 0
  | k + 1 => if off then fw true (k - 1) else fw false k
def bzL (off : Bool) (n : Nat) : List Int := (List.range (n + 1)).map (bz off)
theorem bzL_next (off : Bool) (n : Nat) : bzL off (n + 1) = bzL off n ++ [bz off (n + 1)] := by
  unfold bzL
  rw [List.range_succ, List.map_append] <;> rfl
theorem bzL_len (off : Bool) (n : Nat) : (bzL off n).length = n + 1 := by unfold bzL; rw [List.length_map, List.length_range]
theorem bzL_take (off : Bool) {n m : Nat} (h : m ≤ n) : (bzL off n).take (m + 1) = bzL off m := by
  unfold bzL
  rw [← List.map_take, List.take_range, Nat.min_eq_left (by omega)]
theorem fwB_eq (off : Bool) : ∀ n, fwB off n = fw off (n - 1)
  | 0 => rfl
  | _ + 1 => rfl
theorem bz_sum (off : Bool) : ∀ n, 1 + (bzL off n).sum = fw off n
  | 0 => rfl
  | n + 1 => by
    have ih := bz_sum off n
    rw [bzL_next, List.sum_append, fw_next]
    have e : [bz off (n + 1)].sum = bz off (n + 1) := by simp
    rw [e]
    cases off with
    | true =>
      rw [if_pos rfl, fwB_eq]
      show 1 + ((bzL true n).sum + fw true (n - 1)) = _
      omega
    | false =>
      rw [if_neg (by decide)]
      show 1 + ((bzL false n).sum + fw false n) = _
      omega
def spLFew : Sp := fun vs H Q _ => ∃ (c : Nat) (off : Bool), vs = [.int ((c : Int) + 1), .bl off] ∧ c ≤ 1000 ∧ ∀ H', Ex H H' → Q (.int (fw off c)) H'
theorem n_lfew {G H : Hp} {L : List (Addr × HO)} {i : Int} {off : Bool} {Q : VK} {E : XK} (c : Nat) (S : Own G L H) (h : i = (c : Int) + 1) (hc : c ≤ 1000) (k : ∀ H1, Own G L H1 → Q (.int (fw off c)) H1) : spLFew [.int i, .bl off] H Q E := by
  subst h
  exact ⟨c, off, rfl, hc, fun H' e => k H' (S.grow e)⟩
theorem n_sum {K : PySem.W.Frag} {H : Hp} {p : Addr} {ns : List Int} {Q : VK} (h : SqL K H p (ns.map V.int)) (k : Q (.int ns.sum) H) : rSum K [.ref p] H Q := ⟨p, ns, rfl, h, k⟩
section
variable {P : Program} {w : World} {K : PySem.W.Frag} {mg : Str → Option Value} {base : Heap}
theorem ok_lfew {f : Addr} {fd : FuncData} (F : Fun K "_law_fewest" "_law_fewest" s__law_fewest f fd) (T : Txt mg) : FnOk P w K mg base CX0 1 f fd ["_law_channel", "_law_is_off"] spLFew := by
  refine F.ok sc__law_fewest (fun vs H Q E h => ?_) (fun cdv A outer s H vs Q E hr h => ?_)
  · obtain ⟨c, off, rfl, _⟩ := h
    rfl
  · obtain ⟨c, off, rfl, hc, k⟩ := h
    refine ⟨_, (pss_cons (ps_set (i := 2) sc__law_fewest.nd rfl (Or.inl rfl) (pe_lst (pa_cons pe_int pa_nil)))
      (pss_cons (ps_for PassesOwn.never rfl (pi_range2 (by rfl) T.n_range (pa_cons pe_int (pa_cons (pv 0) pa_nil))) (pg_name (i := 3) sc__law_fewest.nd rfl (Or.inl rfl)) (pss_one (ps_expr (pe_bm PySem.F.plainAttrs_list PySem.F.slot_list_append PySem.F.type_list_append mt_append (pv 2) (pa_cons (pe_op op_add pe_int (pe_callB (cr_sum rfl) (by rfl) T.n_sum (by decide +kernel) (pa_cons (pe_ifExp (pt_val (pv 1)) (pe_slice sl_list (pv 2) po_none (po_some (pe_callB (call_maxN rfl) (by rfl) T.n_max (by decide +kernel) (pa_cons pe_int (pa_cons (pe_op op_sub (pv 3) pe_int) pa_nil))))) (pv 2)) pa_nil))) pa_nil)))))
      (pss_one (ps_ret (pe_op op_add pe_int (pe_callB (cr_sum rfl) (by rfl) T.n_sum (by decide +kernel) (pa_cons (pv 2) pa_nil))))))), ?_⟩
    walk_at "go"
    refine n_lst (Own.start H) (by show 1 ≤ 10000000; decide) fun p H1 _ S1 => ?_
    walk_at "go"
    refine w_rng2 (fun i σ' H' => (∃ x, σ' = [some (.int ((c : Int) + 1)), some (.bl off), some (.ref p), x]) ∧ Own H [(p, .lst ((bzL off i).map V.int))] H') (by omega) ⟨⟨none, rfl⟩, S1⟩ ?_ ?_
    · rintro i σ' H' hi ⟨⟨x, rfl⟩, S⟩
      have hl : ((bzL off i).map V.int).length = i + 1 := by rw [List.length_map, bzL_len]
      walk_at "go"
      refine ⟨tyL S.l0, ?_⟩
      walk_at "go"
      cases off with
      | true =>
        walk_at "go"
        have e1 : max 1 (1 + (i : Int) - 1) = ((max 1 i : Nat) : Int) := by omega
        rw [e1]
        refine n_sl S S.l0 fun p2 G2 H2 _ e2 _ hp2 S2 => ?_
        have e3 : max 1 i = max 1 i - 1 + 1 := by omega
        rw [cutV_to, ← List.map_take, e3, bzL_take true (by omega)] at hp2
        walk_at "go"
        refine n_sum (SqL.of (S2.ex _ _ hp2)) ?_
        walk_at "go"
        refine n_app S2 (by rw [hl]; omega) fun H3 S3 => ?_
        refine ⟨⟨_, rfl⟩, ?_⟩
        rw [bzL_next, List.map_append]
        have e4 : bz true (i + 1) = 1 + (bzL true (max 1 i - 1)).sum := by
          rw [bz_sum]
          show fw true (i - 1) = _
          congr 1
          omega
        rw [e4]
        exact Own.weak e2 S3
      | false =>
        walk_at "go"
        refine n_sum S.l0 ?_
        walk_at "go"
        refine n_app S (by rw [hl]; omega) fun H3 S3 => ?_
        refine ⟨⟨_, rfl⟩, ?_⟩
        rw [bzL_next, List.map_append]
        have e4 : bz false (i + 1) = 1 + (bzL false i).sum := (bz_sum false i).symm
        rw [e4]
        exact S3
    · rintro σ' H' ⟨⟨x, rfl⟩, S⟩
      walk_at "go"
      refine n_sum S.l0 ?_
      walk_at "go"
      have e : ((c : Int) + 1 - 1).toNat = c := by omega
      rw [e, bz_sum]
      exact k H' S.ex
end
end NX

namespace NX
open PySem PySem.Spec PyProof.Rows L2
/-! ### ways that join behind an if -/
theorem s_join {ts : TS} {n b c : L2.St → Hp → Prop} {rt : VK} {σ : L2.St} {H : Hp} (J : L2.St → Hp → Prop) (hj : ∀ σ' H', J σ' H' → n σ' H') (h : ∀ n' : L2.St → Hp → Prop, (∀ σ' H', J σ' H' → n' σ' H') → ts ⟨n', rt, b, c⟩ σ H) : ts ⟨n, rt, b, c⟩ σ H := h n hj
theorem e_join {te : TE} {σ : L2.St} {H : Hp} {Q : VK} (J : V → Hp → Prop) (hj : ∀ x H', J x H' → Q x H') (h : ∀ Q' : VK, (∀ x H', J x H' → Q' x H') → te σ H Q') : te σ H Q := h Q hj
theorem t_join {tt : TT} {σ : L2.St} {H : Hp} {Q : Bool → Hp → Prop} (J : Bool → Hp → Prop) (hj : ∀ b H', J b H' → Q b H') (h : ∀ Q' : Bool → Hp → Prop, (∀ b H', J b H' → Q' b H') → tt σ H Q') : tt σ H Q := h Q hj
end NX

namespace NX
open PySem PySem.Spec PyProof.Rows L2
open Evl (Ex ex_l ex_t fresh_back)
open LamX (CodeO TabB)
abbrev s__law_asked_right : Stmt := top 27
theorem sc__law_asked_right : FnScope ["_law_channel", "_law_is_off", "_law_due", "_law_found"] ["_law_channel"] (defScope s__law_asked_right) := ⟨rfl, rfl, rfl, by decide +kernel, rfl, by decide +kernel, by decide +kernel⟩
theorem Ex.noT' {G H : Hp} (e : Ex (NX.noT G) H) : Ex (NX.noT G) (NX.noT H) := fun a o h => noT_of (e _ _ h) (of_noT h).2
/-- the name of the lambdas of _law_asked_right -/
def qA (c : Addr) : Str := (envOfC "_law_asked_right" (defScope s__law_asked_right) 0 0 (.ref c)).qual ++ "<lambda>"
theorem n_neStr {K : PySem.W.Frag} {H : Hp} {s : Str} {Q : VK} (hs : PyData.strOk s = true) (k : Q (.bl false) H) : rNeD K (.str s) (.str s) H Q := by
  refine ⟨_, _, .str s, .str s, ?_, ?_, ?_⟩
  · unfold SeqAt.shaped
    simp [PyData.canLay0, PyData.depth, hs]
  · unfold SeqAt.shaped
    simp [PyData.canLay0, PyData.depth, hs]
  · simpa [PyData.eqv] using k
theorem n_neStrI {K : PySem.W.Frag} {H : Hp} {a b : Addr} {s : Str} {i : Int} {Q : VK} (hs : PyData.strOk s = true) (h1 : SqT K H a [.str s, .int i]) (h2 : SqT K H b [.str s, .int i]) (k : Q (.bl false) H) : rNeD K (.ref a) (.ref b) H Q := by
  refine ⟨_, _, .tup h1 (.cons (.str s) (.cons (.int i) .nil)), .tup h2 (.cons (.str s) (.cons (.int i) .nil)), ?_, ?_, ?_⟩
  · unfold SeqAt.shaped
    simp [PyData.canLay0, PyData.canLayAll0, PyData.depth, PyData.depthAll, hs]
  · unfold SeqAt.shaped
    simp [PyData.canLay0, PyData.canLayAll0, PyData.depth, PyData.depthAll, hs]
  · simpa [PyData.eqv, PyData.eqvAll] using k
def spAsk (P R : Addr) (q r : Str) : Sp := fun vs H Q _ => ∃ (i : Nat) (G : Hp) (ps rs : Array Value), vs = [.int ((i : Int) + 1)] ∧ Own G [(P, .tbl ps), (R, .tbl rs)] H ∧ TabG G ps q ∧ TabG G rs r ∧
  ∀ H' G' ps' rs', Ex (noT G) G' → Own G' [(P, .tbl ps'), (R, .tbl rs')] H' → TabG G' ps' q → TabG G' rs' r → Q (.bl true) H'
theorem n_ask {P R : Addr} {q r : Str} {i : Int} {G H : Hp} {ps rs : Array Value} {Q : VK} {E : XK} (n : Nat) (hi : i = (n : Int) + 1) (S : Own G [(P, .tbl ps), (R, .tbl rs)] H) (tg : TabG G ps q) (tr : TabG G rs r)
    (k : ∀ H' G' ps' rs', Ex (noT G) G' → Own G' [(P, .tbl ps'), (R, .tbl rs')] H' → TabG G' ps' q → TabG G' rs' r → Q (.bl true) H') : spAsk P R q r [.int i] H Q E := by
  subst hi
  exact ⟨n, G, ps, rs, rfl, S, tg, tr, k⟩
section
variable {P : Program} {w : World} {K : PySem.W.Frag} {mg : Str → Option Value} {base : Heap} {C CCh c P1 P2 : Addr} {q2 : Str}
theorem ok_asked {f : Addr} {fd : FuncData} (F : FunC K "_law_asked_right" "_law_asked_right" s__law_asked_right f fd c) (T : Txt mg) (TB : TabB base mg c P1) (ne : P1 ≠ P2)
    (c__law_fewest : Cal P w K mg base 1 "_law_fewest" ["_law_channel", "_law_is_off"] [] spLFew) (L__law_said : LamDef P w K mg base "_law_said" "_law_call" (SaidT1 CCh))
    (c_fibonacci_treex : Cal P w K mg base 11 "fibonacci_tree" ["channel"] [] (spTree1X C CCh true)) (c_doubling_treex : Cal P w K mg base 11 "doubling_tree" ["channel"] [] (spTree1X C CCh false)) :
    FnOk P w K mg base CX0 14 f fd ["_law_channel"] (spAsk P1 P2 (qA c) q2) := by
  have hmT : (P1, qA c) ∈ [(P1, qA c), (P2, q2)] := by simp
  have huT := (two_u (q := qA c) (r := q2) ne).1
  refine F.ok sc__law_asked_right (fun vs H Q E h => ?_) (fun A outer s H vs Q E hr h => ?_)
  · obtain ⟨i, G, ps, rs, rfl, _⟩ := h
    rfl
  · obtain ⟨i, G, ps, rs, rfl, S0, tg, tr, k⟩ := h
    have hu65 : ∀ X : Cx, X.A = A.deeper (envOfC "_law_asked_right" (defScope s__law_asked_right) s.heap.objs.size f (.ref c)) → X.A.units + 65 < cLine := fun X e => by rw [e]; have := hr.un; omega
    refine ⟨_, (pss_cons (ps_for PassesOwn.never rfl (pi_tup (pe_tup (pa_cons pe_bl (pa_cons pe_bl pa_nil)))) (pg_name (i := 1) sc__law_asked_right.nd rfl (Or.inr rfl)) (pss_cons (ps_set (i := 2) sc__law_asked_right.nd rfl (Or.inl rfl) pe_str)
      (pss_cons (ps_if (PW.pt (pw_or (pt_cmpR op_gt (pv 0) pe_int (nomark _)) (pw_or1 (pt_cmpR op_gt (pe_cal c__law_fewest (hr.mono (by first | decide | omega)) passN (pa_cons (pv 0) (pa_cons (pv 1) pa_nil))) pe_int (nomark _))))) (pss_one (ps_set (i := 2) sc__law_asked_right.nd rfl (Or.inl rfl) (pe_tup (pa_cons pe_str (pa_cons (pv 0) pa_nil))))) pss_nil)
      (pss_cons (ps_set (i := 3) sc__law_asked_right.nd rfl (Or.inl rfl) (pe_lamS (k := 11) L__law_said TB hmT huT (hr.mono (by first | decide | omega)) (fun A outer s H E f c' hr => (pe_ifExp (pt_val (pv 1)) (pe_cal c_fibonacci_treex (hr.mono (by first | decide | omega)) (passE (takes_of rfl rfl rfl rfl) fun _ _ _ _ z => z) (pa_cons (pv 0) pa_nil)) (pe_cal c_doubling_treex (hr.mono (by first | decide | omega)) (passE (takes_of rfl rfl rfl rfl) fun _ _ _ _ z => z) (pa_cons (pv 0) pa_nil)))) (LamX.lamS_by (sc := defScope s__law_asked_right) (by decide +kernel))))
      (pss_one (ps_if (pt_cmpR (op_neD (Nat.lt_of_succ_lt (hu65 _ rfl))) (pv 3) (pv 2) (nomark _)) (pss_one (ps_ret pe_bl)) pss_nil))))))
      (pss_one (ps_ret pe_bl))), ?_⟩
    walk_at "go"
    refine n_tup S0 (by show 2 ≤ 10000000; decide) fun t2 G2 H2 _ e2 _ ht2 S2 => ?_
    walk_at "go"
    refine w_tup (fun j σ' H' => ∃ (x1 x2 x3 : Option V) (G' : Hp) (ps' rs' : Array Value), σ' = [some (.int ((i : Int) + 1)), x1, x2, x3] ∧ Ex (noT G2) G' ∧ Own G' [(P1, .tbl ps'), (P2, .tbl rs')] H' ∧ TabG G' ps' (qA c) ∧ TabG G' rs' q2) (SqT.of (S2.ex _ _ ht2))
      ⟨_, _, _, G2, ps, rs, rfl, ex_noT _, S2, tg.mono e2, tr.mono e2⟩ (fun j σ' H' ⟨_, _, _, G', _, _, _, e, S, _⟩ => SqT.of (S.ex _ _ (e _ _ (noT_of ht2 fun qs z => by cases z)))) ?_ ?_
    · rintro j y σ' H' hy ⟨x1, x2, x3, G', ps', rs', rfl, e', S', tg', tr'⟩
      obtain ⟨off, rfl⟩ : ∃ off, y = .bl off := by
        match j, hy with
        | 0, hy => exact ⟨true, (Option.some.inj hy).symm⟩
        | 1, hy => exact ⟨false, (Option.some.inj hy).symm⟩
        | j + 2, hy => simp at hy
      refine s_name ?_
      refine s_seq ?_
      refine s_asg ?_
      refine g_c ?_
      refine s_name ?_
      refine s_seq ?_
      refine s_join (fun σ2 H2 => ∃ (D : V) (G3 : Hp), σ2 = [some (.int ((i : Int) + 1)), some (.bl off), some D, x3] ∧ Ex G' G3 ∧ Own G3 [(P1, .tbl ps'), (P2, .tbl rs')] H2 ∧
        (((60 < (i : Int) + 1 ∨ 60 < fw off i) ∧ ∃ td, D = .ref td ∧ G3 td = some (.tup [.str "channel", .int ((i : Int) + 1)])) ∨ (¬ (60 < (i : Int) + 1 ∨ 60 < fw off i) ∧ D = .str "told"))) ?_ (fun n' hn' => ?_)
      · rintro σ2 H2 ⟨D, G3, rfl, e3, S3, hD⟩
        walk_at "go"
        refine n_lam2 S3 (tg'.mono e3) (tr'.mono e3) (fun p hp => nomatch hp) fun G4 H4 ps4 rs4 e4 S4 tg4 tr4 => ?_
        intro E1 Q1 hE1 hQ1
        have e24 : Ex (noT G2) G4 := (NX.Ex.noT' (e'.trans e3)).trans e4
        have key : spTree1X C CCh off [.int ((i : Int) + 1)] H4 Q1 E1 := by
          rcases hD with ⟨hb, td, rfl, htd⟩ | ⟨hg, rfl⟩
          · have htd4 := e4 _ _ (noT_of htd fun qs z => by cases z)
            refine .inl ⟨_, _, rfl, .int _, fun _ => ⟨_, rfl, ?_⟩, fun dd H5 e5 hd => hE1 _ _ _ ⟨dd, _, rfl, rfl, hd, n_retG (S4.grow e5) fun p6 G6 H6 _ e6 _ hp6 S6 => ?_⟩⟩
            · rcases hb with h | h
              · exact .inr (.inl (by omega))
              · exact .inr (.inr ⟨i, rfl, h⟩)
            · walk_at "go"
              refine n_neStrI (by decide +kernel) (SqT.of (S6.ex _ _ hp6)) (SqT.of (S6.ex _ _ (e6 _ _ htd4))) ?_
              walk_at "go"
              exact ⟨_, _, _, G6, ps4, rs4, rfl, e24.trans e6, S6, tg4.mono e6, tr4.mono e6⟩
          · refine .inr ⟨i, rfl, by omega, fun x H5 hx e5 N => hQ1 _ _ ?_⟩
            obtain ⟨S6, e6, _⟩ := S4.absorb e5
            walk_at "go"
            refine n_neStr (by decide +kernel) ?_
            walk_at "go"
            exact ⟨_, _, _, _, ps4, rs4, rfl, e24.trans e6, S6, tg4.mono e6, tr4.mono e6⟩
        cases off with
        | true =>
          walk_at "go"
          exact key
        | false =>
          walk_at "go"
          exact key
      · walk_at "go"
        have yes : ∀ H3, Own G' [(P1, .tbl ps'), (P2, .tbl rs')] H3 → (60 < (i : Int) + 1 ∨ 60 < fw off i) → NewT [.str "channel", .int ((i : Int) + 1)] H3 fun x H4 => n' ([some (.int ((i : Int) + 1)), some (.bl off), some x, x3]) H4 := fun H3 S3 hb =>
          n_tup S3 (by show 2 ≤ 10000000; decide) fun t5 G5 H5 _ e5 _ ht5 S5 => hn' _ _ ⟨_, G5, rfl, e5, S5, .inl ⟨hb, t5, rfl, ht5⟩⟩
        refine if_2 (fun c1 => ?_) (fun c1 => ?_)
        · have c1 := of_decide_eq_true c1
          walk_at "go"
          exact yes _ S' (.inl c1)
        · have c1 := of_decide_eq_false c1
          walk_at "go"
          refine n_lfew i S' rfl (by omega) fun H3 S3 => ?_
          walk_at "go"
          refine if_2 (fun c2 => ?_) (fun c2 => ?_)
          · have c2 := of_decide_eq_true c2
            walk_at "go"
            exact yes _ S3 (.inr c2)
          · have c2 := of_decide_eq_false c2
            walk_at "go"
            exact hn' _ _ ⟨_, G', rfl, Ex.refl _, S3, .inr ⟨by omega, rfl⟩⟩
    · rintro σ' H' ⟨x1, x2, x3, G', ps', rs', rfl, e', S', tg', tr'⟩
      walk_at "go"
      exact k H' G' ps' rs' ((NX.Ex.noT e2).trans e') S' tg' tr'
end
end NX

namespace NX
/-! ### greatest_channels: the table -/
/-- one step of the table -/
def StepT (n : Nat) (ks : List Pr) (t t' : List Int) : Prop := t'.length = n ∧ ∀ i : Nat, i < n → IsCh ((nb ks (i : Int)).map (tv t)) (tv t' (i : Int) - 1)
def TabF (n : Nat) (ks : List Pr) (t : List Int) : Prop := StepT n ks t t
def LowT (n : Nat) (ks : List Pr) (t : List Int) : Prop := t.length = n ∧ (∀ i : Nat, i < n → 0 ≤ tv t (i : Int)) ∧ ∀ t', StepT n ks t t' → ∀ i : Nat, i < n → tv t' (i : Int) ≤ tv t (i : Int)
theorem nb_nat {n : Nat} {ks : List Pr} (h : Okl n ks) {i x : Int} (m : x ∈ nb ks i) : ∃ j : Nat, x = (j : Int) ∧ j < n := by
  have := nb_rng h m
  exact ⟨x.toNat, by omega, by omega⟩
theorem low_step {n : Nat} {ks : List Pr} {t t' : List Int} (ok : Okl n ks) (h : LowT n ks t) (s : StepT n ks t t') : LowT n ks t' := by
  refine ⟨s.1, fun i hi => by have := (s.2 i hi).1; omega, fun t'' s' i hi => ?_⟩
  have := IsCh.mono (f := tv t') (g := tv t) (List.Sublist.refl _) (fun x hx => by
    obtain ⟨j, rfl, hj⟩ := nb_nat ok hx
    exact h.2.2 t' s j hj) (s'.2 i hi) (s.2 i hi)
  omega
theorem low_sum {n : Nat} {ks : List Pr} {t t' : List Int} (h : LowT n ks t) (s : StepT n ks t t') : 0 ≤ t'.sum ∧ t'.sum ≤ t.sum ∧ (t' ≠ t → t'.sum < t.sum) := by
  have z := sum_le (s := t') (t := t) (s.1.trans h.1.symm) fun i hi => h.2.2 t' s i (by have := s.1; omega)
  exact ⟨sum_nn fun i hi => by have := (s.2 i (by have := s.1; omega)).1; omega, z⟩
theorem low_start {n : Nat} {ks : List Pr} {t : List Int} (h : t.length = n) (e : ∀ i : Nat, i < n → tv t (i : Int) = ((nb ks (i : Int)).length : Int) + 1) : LowT n ks t :=
  ⟨h, fun i hi => by rw [e i hi]; omega, fun t' s i hi => by
    have := (s.2 i hi).le_len
    rw [List.length_map] at this
    rw [e i hi]
    omega⟩
theorem TabF.tab {n : Nat} {ks : List Pr} {t : List Int} (h : TabF n ks t) : Tab (fun v : Int => 0 ≤ v ∧ v < (n : Int)) (nb ks) (tv t) := fun v ⟨h1, h2⟩ => by
  obtain ⟨i, rfl⟩ : ∃ i : Nat, v = (i : Int) := ⟨v.toNat, by omega⟩
  exact h.2 i (by omega)
theorem TabF.uniq {n : Nat} {ks : List Pr} {s t : List Int} (ok : Okl n ks) (h : TabF n ks s) (h' : TabF n ks t) : s = t := by
  have a := tab_le h.tab h'.tab id (fun v hv => hv) (fun v _ u hu => by have := nb_rng ok hu; omega) (fun v _ => ⟨_, List.Perm.refl _, by rw [List.map_id]; exact List.Sublist.refl _⟩)
  have b := tab_le h'.tab h.tab id (fun v hv => hv) (fun v _ u hu => by have := nb_rng ok hu; omega) (fun v _ => ⟨_, List.Perm.refl _, by rw [List.map_id]; exact List.Sublist.refl _⟩)
  refine tv_ext (h.1.trans h'.1.symm) fun i hi => ?_
  have hi' : i < n := by have := h.1; omega
  have c := a (i : Int) ⟨by omega, by omega⟩
  have d := b (i : Int) ⟨by omega, by omega⟩
  simp only [id] at c d
  omega
end NX

namespace NX
open PySem PySem.Spec PyProof.Rows L2
open Evl (Ex ex_l ex_t fresh_back)
abbrev s__law_chain : Stmt := top 21
theorem sc__law_chain : FnScope ["_law_numbers", "_law_found", "_law_number"] ["_law_numbers"] (defScope s__law_chain) := ⟨rfl, rfl, rfl, by decide +kernel, rfl, by decide +kernel, by decide +kernel⟩
/-- 1 and the chain -/
def spLCh (K : PySem.W.Frag) : Sp := fun vs H Q _ => ∃ (p : Addr) (ns : List Int), vs = [.ref p] ∧ SqL K H p (ns.map V.int) ∧ ∀ g H', Ex H H' → IsCh ns g → Q (.int (g + 1)) H'
theorem n_lch {K : PySem.W.Frag} {G H : Hp} {L : List (Addr × HO)} {p : Addr} {ns : List Int} {Q : VK} {E : XK} (S : Own G L H) (h : SqL K H p (ns.map V.int)) (k : ∀ g H1, Ex H H1 → IsCh ns g → Own G L H1 → Q (.int (g + 1)) H1) : spLCh K [.ref p] H Q E :=
  ⟨p, ns, rfl, h, fun g H' e c => k g H' e c (S.grow e)⟩
section
variable {P : Program} {w : World} {K : PySem.W.Frag} {mg : Str → Option Value} {base : Heap}
theorem ok_lch {f : Addr} {fd : FuncData} (F : Fun K "_law_chain" "_law_chain" s__law_chain f fd) (T : Txt mg) : FnOk P w K mg base CX0 1 f fd ["_law_numbers"] (spLCh K) := by
  refine F.ok sc__law_chain (fun vs H Q E h => ?_) (fun cdv A outer s H vs Q E hr h => ?_)
  · obtain ⟨p, ns, rfl, _⟩ := h
    rfl
  · obtain ⟨p, ns, rfl, hp, k⟩ := h
    refine ⟨_, (pss_cons (ps_set (i := 1) sc__law_chain.nd rfl (Or.inl rfl) pe_int)
      (pss_cons (ps_for PassesOwn.never rfl (pi_list (pe_callB cr_sortedI (by rfl) T.n_sorted (by decide +kernel) (pa_cons (pv 0) pa_nil))) (pg_name (i := 2) sc__law_chain.nd rfl (Or.inl rfl)) (pss_one (ps_if (pt_cmpR op_ge (pv 2) (pv 1) (nomark _)) (pss_one (ps_set (i := 1) sc__law_chain.nd rfl (Or.inl rfl) (pe_op op_add (pv 1) pe_int))) pss_nil)))
      (pss_one (ps_ret (pv 1))))), ?_⟩
    walk_at "go"
    refine n_sortI (Own.start H) hp fun ms q G1 H1 hpm hs _ e1 _ hq S1 => ?_
    refine w_list (xs := ms.map V.int) (fun i σ' H' => (∃ g x, σ' = [some (.ref p), some (.int (g + 1)), x] ∧ IsCh (ms.take i) g) ∧ Own G1 [] H') (SqL.of (S1.ex _ _ hq)) ⟨⟨0, _, rfl, IsCh.nil⟩, S1⟩ (fun i σ' H' h => SqL.of (h.2.ex _ _ hq)) ?_ ?_
    · rintro i y σ' H' hy ⟨⟨g, x, rfl, hc⟩, S⟩
      obtain ⟨z, hz, rfl⟩ := get_map hy
      have hc' := IsCh.snoc (x := z) hc fun y hy => by
        obtain ⟨j, hj, e⟩ := List.mem_iff_getElem.mp hy
        have hj' : j < i ∧ j < ms.length := by rw [List.length_take] at hj; omega
        rw [List.getElem_take] at e
        obtain ⟨hi, ez⟩ := List.getElem?_eq_some_iff.mp hz
        have := List.pairwise_iff_getElem.mp hs j i hj'.2 hi hj'.1
        omega
      rw [← take_snoc hz] at hc'
      walk_at "go"
      refine if_2 (fun e => ?_) (fun e => ?_)
      · have e := of_decide_eq_true e
        walk_at "go"
        rw [if_pos (show z > g by omega)] at hc'
        exact ⟨⟨_, _, rfl, hc'⟩, S⟩
      · have e := of_decide_eq_false e
        walk_at "go"
        rw [if_neg (show ¬ z > g by omega)] at hc'
        exact ⟨⟨_, _, rfl, hc'⟩, S⟩
    · rintro σ' H' ⟨⟨g, x, rfl, hc⟩, S⟩
      rw [List.length_map, List.take_length] at hc
      walk_at "go"
      exact k g _ (e1.trans S.ex) (hc.perm hpm)
end
end NX

namespace NX
open PySem PySem.Spec PyProof.Rows L2
open Evl (Ex ex_l ex_t fresh_back)
/-! ### _law_near, _law_table -/
/-- at a: the lists of the neighbours of n stations -/
def NearAt (H : Hp) (a : Addr) (n : Nat) (ks : List Pr) : Prop := ∃ nps : List Addr, H a = some (.lst (nps.map V.ref)) ∧ nps.length = n ∧ ∀ (i : Nat) (p : Addr), nps[i]? = some p → H p = some (.lst ((nb ks (i : Int)).map V.int))
theorem NearAt.mono {G H : Hp} {a : Addr} {n : Nat} {ks : List Pr} (h : NearAt G a n ks) (e : Ex G H) : NearAt H a n ks := by
  obtain ⟨nps, h1, h2, h3⟩ := h
  exact ⟨nps, e _ _ h1, h2, fun i p q => e _ _ (h3 i p q)⟩
abbrev s__law_near : Stmt := top 20
theorem sc__law_near : FnScope ["_law_size", "_law_links", "_law_found", "_law_one", "_law_other", "_law_station"] ["_law_size", "_law_links"] (defScope s__law_near) := ⟨rfl, rfl, rfl, by decide +kernel, rfl, by decide +kernel, by decide +kernel⟩
/-- n stations, links in any order -/
def spNear : Sp := fun vs H Q _ => ∃ (n : Nat) (p : Addr) (xs : List V) (ps : List Pr), vs = [.int (n : Int), .ref p] ∧ H p = some (.lst xs) ∧ Lks H xs ps ∧ Okl n ps ∧ n ≤ 1000 ∧ ps.length ≤ 10000 ∧ ∀ x H', H x = none → Ex H H' → NearAt (nw H H') x n ps → Q (.ref x) H'
theorem n_near {G H : Hp} {L : List (Addr × HO)} {n : Nat} {p : Addr} {xs : List V} {ps : List Pr} {Q : VK} {E : XK} (S : Own G L H) (hp : H p = some (.lst xs)) (hl : Lks H xs ps) (ok : Okl n ps) (hn : n ≤ 1000) (hz : ps.length ≤ 10000)
    (k : ∀ x G1 H1, H x = none → Ex G G1 → Ex H H1 → Own G1 L H1 → NearAt G1 x n ps → Q (.ref x) H1) : spNear [.int (n : Int), .ref p] H Q E :=
  ⟨n, p, xs, ps, rfl, hp, hl, ok, hn, hz, fun x H' hx e N => by
    obtain ⟨S1, e2, e3⟩ := S.absorb e
    exact k x _ H' hx e2 e S1 (N.mono e3)⟩
theorem nb_len (ps : List Pr) (i : Int) : (nb ps i).length ≤ ps.length := List.length_filterMap_le _ _
section
variable {P : Program} {w : World} {K : PySem.W.Frag} {mg : Str → Option Value} {base : Heap}
theorem ok_near {f : Addr} {fd : FuncData} (F : Fun K "_law_near" "_law_near" s__law_near f fd) (T : Txt mg) : FnOk P w K mg base CX0 1 f fd ["_law_size", "_law_links"] spNear := by
  refine F.ok sc__law_near (fun vs H Q E h => ?_) (fun cdv A outer s H vs Q E hr h => ?_)
  · obtain ⟨n, p, xs, ps, rfl, _⟩ := h
    rfl
  · obtain ⟨n, p, xs, ps, rfl, hp, hl, ok, hn, hz, k⟩ := h
    refine ⟨_, (pss_cons (ps_setLc (i := 2) (own := [("_law_station", 5)]) (by rfl) sc__law_near.nd rfl rfl (sw_true rfl rfl rfl (by decide +kernel)) (pi_range1 (by rfl) T.n_range (pa_cons (pv 0) pa_nil)) (blkOk_by (own := [("_law_station", 5)]) (N := ["_law_size", "_law_links", "_law_found", "_law_one", "_law_other", "_law_station"]) (sc := defScope s__law_near) (by decide +kernel)) (fun _ _ _ _ _ => (pg_name (i := 5) sc__law_near.nd rfl (Or.inl rfl))) (fun _ _ _ _ _ => pts_nil) (fun _ _ _ _ _ => (pe_lst pa_nil)))
      (pss_cons (ps_for PassesOwn.never rfl (pi_list (pv 1)) (pg_tup (n := 2) rfl (pgs_cons (pg_name (i := 3) sc__law_near.nd rfl (Or.inl rfl)) (pgs_cons (pg_name (i := 4) sc__law_near.nd rfl (Or.inl rfl)) pgs_nil))) (pss_cons (ps_expr (pe_bm PySem.F.plainAttrs_list PySem.F.slot_list_append PySem.F.type_list_append mt_append (pe_ix ix_list (pv 2) (pv 3) (fun _ _ => rfl)) (pa_cons (pv 4) pa_nil)))
      (pss_one (ps_expr (pe_bm PySem.F.plainAttrs_list PySem.F.slot_list_append PySem.F.type_list_append mt_append (pe_ix ix_list (pv 2) (pv 4) (fun _ _ => rfl)) (pa_cons (pv 3) pa_nil))))))
      (pss_one (ps_ret (pv 2))))), ?_⟩
    walk_at "go"
    refine v_rng1 (j := (n : Int)) (fun i acc G' L' => G' = H ∧ ∃ nps : List Addr, nps.length = i ∧ acc = nps.map V.ref ∧ L' = nearL nps fun _ => []) (Own.start H) (by omega) ⟨rfl, [], rfl, rfl, rfl⟩ ?_ ?_
    · rintro D i acc G' L' H4 hi hi' e4 hl4 ⟨hG, nps, rfl, rfl, rfl⟩ S4
      subst hG
      walk_at "go"
      refine ⟨rfl, ?_⟩
      walk_at "go"
      refine n_lst S4 (by decide) fun q H5 hq S5 => ?_
      refine c_yes (acc := nps.map V.ref) (L1 := nearL (nps ++ [q]) fun _ => []) (S5.perm ?_) e4 hl4 hi' ⟨rfl, nps ++ [q], by rw [List.length_append]; rfl, by rw [List.map_append] <;> rfl, rfl⟩
      rw [nearL_snoc]
      exact ((List.perm_append_singleton _ _).cons _).trans (List.Perm.swap _ _ _)
    · rintro np acc G' L' H4 e4 _ ⟨hG, nps, hlen, rfl, rfl⟩ S4
      subst hG
      have hlen : nps.length = n := by omega
      obtain ⟨S6, e6, hnp⟩ := S4.freeze
      have hnp0 : G' np = none := S4.no0
      generalize upd G' np (.lst (nps.map V.ref)) = G6 at S6 e6 hnp
      have hl6 := hl.mono e6
      walk_at "go"
      refine w_list (xs := xs) (fun i σ' H' => (∃ x1 x2 x3, σ' = [some (.int (n : Int)), some (.ref p), some (.ref np), x1, x2, x3]) ∧ Own G6 (nearL nps fun j => nb (ps.take i) (j : Int)) H') (SqL.of (S6.ex _ _ (e6 _ _ hp))) ⟨⟨_, _, _, rfl⟩, S6⟩ (fun i σ' H' h => SqL.of (h.2.ex _ _ (e6 _ _ hp))) ?_ ?_
      · rintro i y σ' H' hy ⟨⟨x1, x2, x3, rfl⟩, S⟩
        obtain ⟨q, hq, t, rfl, ht6⟩ := pr_get hl6 hy
        have hb := ok q (List.mem_of_getElem? hq)
        obtain ⟨a, ha⟩ : ∃ a : Nat, q.1 = (a : Int) := ⟨q.1.toNat, by omega⟩
        obtain ⟨b, hbq⟩ : ∃ b : Nat, q.2 = (b : Int) := ⟨q.2.toNat, by omega⟩
        have hab : a ≠ b := by omega
        obtain ⟨pa, hpa⟩ : ∃ p, nps[a]? = some p := ⟨_, List.getElem?_eq_getElem (by omega)⟩
        obtain ⟨pb, hpb⟩ : ∃ p, nps[b]? = some p := ⟨_, List.getElem?_eq_getElem (by omega)⟩
        have hz2 : ∀ j : Nat, (nb (ps.take i) (j : Int)).length ≤ 10000 := fun j => Nat.le_trans (nb_len _ _) (by rw [List.length_take]; omega)
        refine s_gtup (S.st (SqT.of ht6)) rfl ?_
        walk_at "go"
        rw [ha]
        refine g_ixL (SqL.of (S.ex _ _ hnp)) (atI_nat (j := a) (v := .ref pa) (by rw [List.getElem?_map, hpa] <;> rfl)) ?_
        have ea : (nearL nps fun j => nb (ps.take i) (j : Int))[a]? = some (pa, .lst ((nb (ps.take i) (a : Int)).map V.int)) := nearL_get hpa
        refine ⟨tyL (SqL.of (S.getM (List.mem_of_getElem? ea))), ?_⟩
        walk_at "go"
        refine n_appM S ea (by rw [List.length_map]; have := hz2 a; omega) fun H7 S7 => ?_
        have eset : (nearL nps fun j => nb (ps.take i) (j : Int)).set a (pa, .lst ((nb (ps.take i) (a : Int)).map V.int ++ [.int q.2])) = nearL nps fun j => if j = a then nb (ps.take i) (j : Int) ++ [q.2] else nb (ps.take i) (j : Int) := by
          have e := nearL_set (g := fun j => nb (ps.take i) (j : Int)) (g' := fun j => if j = a then nb (ps.take i) (j : Int) ++ [q.2] else nb (ps.take i) (j : Int)) hpa (fun j hj => if_neg hj)
          rw [← e]
          simp
        rw [eset] at S7
        walk_at "go"
        rw [hbq]
        refine g_ixL (SqL.of (S7.ex _ _ hnp)) (atI_nat (j := b) (v := .ref pb) (by rw [List.getElem?_map, hpb] <;> rfl)) ?_
        have eb : (nearL nps fun j => if j = a then nb (ps.take i) (j : Int) ++ [q.2] else nb (ps.take i) (j : Int))[b]? = some (pb, .lst ((nb (ps.take i) (b : Int)).map V.int)) := by
          have z := nearL_get (g := fun j => if j = a then nb (ps.take i) (j : Int) ++ [q.2] else nb (ps.take i) (j : Int)) hpb
          rw [if_neg (Ne.symm hab)] at z
          exact z
        refine ⟨tyL (SqL.of (S7.getM (List.mem_of_getElem? eb))), ?_⟩
        walk_at "go"
        refine n_appM S7 eb (by rw [List.length_map]; have := hz2 b; omega) fun H8 S8 => ?_
        have etk : ps.take (i + 1) = ps.take i ++ [q] := take_snoc hq
        have eset2 : (nearL nps fun j => if j = a then nb (ps.take i) (j : Int) ++ [q.2] else nb (ps.take i) (j : Int)).set b (pb, .lst ((nb (ps.take i) (b : Int)).map V.int ++ [.int q.1])) = nearL nps fun j => nb (ps.take (i + 1)) (j : Int) := by
          have e := nearL_set (g := fun j => if j = a then nb (ps.take i) (j : Int) ++ [q.2] else nb (ps.take i) (j : Int)) (g' := fun j => nb (ps.take (i + 1)) (j : Int)) hpb (fun j hj => by
            rw [etk, nb_one_n (n := n) ha hbq hab, if_neg hj, ← hbq])
          rw [← e]
          simp only [etk]
          rw [nb_one_n (n := n) ha hbq hab, if_neg (Ne.symm hab), if_pos rfl]
          simp [ha]
        rw [ha] at eset2
        rw [eset2] at S8
        walk_at "go"
        exact ⟨⟨_, _, _, rfl⟩, S8⟩
      · rintro σ' H' ⟨⟨x1, x2, x3, rfl⟩, S⟩
        rw [(pr_len hl), List.take_length] at S
        walk_at "go"
        have new : ∀ a : Addr, G' a = none → nw G' H' a = H' a := fun a h => nw_new h
        refine k np H' hnp0 (e6.trans S.ex) ⟨nps, (new np hnp0).trans (S.ex _ _ hnp), hlen, fun i p hp => ?_⟩
        have m := List.mem_of_getElem? (nearL_get (g := fun j => nb ps (j : Int)) hp)
        exact (new p (fresh_back e6 (S.at_ _ m).1)).trans (S.at_ _ m).2
end
end NX

namespace NX
/-! ### chains, asked by computing -/
def hasB (ns : List Int) (k : Nat) : Bool := (List.range k).all fun (j : Nat) => decide ((k : Int) - ((j : Int) + 1) + 1 ≤ (cge ns ((j : Int) + 1) : Int))
theorem hasB_iff {ns : List Int} {k : Nat} : hasB ns k = true ↔ Has ns (k : Int) := by
  unfold hasB
  rw [List.all_eq_true]
  constructor
  · intro h j h1 h2
    have := of_decide_eq_true (h (j - 1).toNat (List.mem_range.mpr (by omega)))
    have e : (((j - 1).toNat : Nat) : Int) + 1 = j := by omega
    rw [e] at this
    exact this
  · intro h j hj
    have := List.mem_range.mp hj
    exact decide_eq_true (h ((j : Int) + 1) (by omega) (by omega))
def isChB (ns : List Int) (g : Int) : Bool := decide (0 ≤ g) && hasB ns g.toNat && !hasB ns (g.toNat + 1)
theorem isChB_is {ns : List Int} {g : Int} (h : isChB ns g = true) : IsCh ns g := by
  unfold isChB at h
  rw [Bool.and_eq_true, Bool.and_eq_true] at h
  obtain ⟨⟨h0, h1⟩, h2⟩ := h
  have h0 := of_decide_eq_true h0
  have h1 := hasB_iff.mp h1
  have e : ((g.toNat : Nat) : Int) = g := by omega
  rw [e] at h1
  refine ⟨h0, fun k => ⟨fun hk => h1.down hk, fun hk => ?_⟩⟩
  rcases Int.lt_or_le g k with c | c
  · have y : Has ns ((g.toNat + 1 : Nat) : Int) := hk.down (by omega)
    rw [hasB_iff.mpr y] at h2
    cases h2
  · exact c
def tabB (n : Nat) (ks : List Pr) (t : List Int) : Bool := decide (t.length = n) && (List.range n).all fun (i : Nat) => isChB ((nb ks (i : Int)).map (tv t)) (tv t (i : Int) - 1)
theorem tabB_is {n : Nat} {ks : List Pr} {t : List Int} (h : tabB n ks t = true) : TabF n ks t := by
  unfold tabB at h
  rw [Bool.and_eq_true] at h
  exact ⟨of_decide_eq_true h.1, fun i hi => isChB_is (List.all_eq_true.mp h.2 i (List.mem_range.mpr hi))⟩
/-- a chain that there is -/
def chB (ns : List Int) : Nat := ((List.range (ns.length + 1)).reverse.find? fun k => hasB ns k).getD 0
theorem chB_has (ns : List Int) : Has ns (chB ns : Int) := by
  unfold chB
  cases e : (List.range (ns.length + 1)).reverse.find? fun k => hasB ns k with
  | none =>
    intro j h1 h2
    have h2 : j ≤ ((0 : Nat) : Int) := h2
    omega
  | some k => exact hasB_iff.mp (List.find?_some e)
theorem has_mono {α : Type} {f g : α → Int} {l : List α} {k : Int} (h : ∀ x ∈ l, f x ≤ g x) (hk : Has (l.map f) k) : Has (l.map g) k := fun j h1 h2 => by
  have := hk j h1 h2
  have := cge_mono (f := f) (g := g) (List.Sublist.refl l) h j
  omega
end NX

namespace NX
open PySem PySem.Spec PyProof.Rows L2
open Evl (Ex ex_l ex_t fresh_back)
abbrev s__law_branch : Stmt := top 23
theorem sc__law_branch : FnScope ["_law_near_here", "_law_station", "_law_above", "_law_one"] ["_law_near_here", "_law_station", "_law_above"] (defScope s__law_branch) := ⟨rfl, rfl, rfl, by decide +kernel, rfl, by decide +kernel, by decide +kernel⟩
/-- the neighbours but one -/
def bel (ks : List Pr) (i above : Int) : List Int := (nb ks i).filter fun o => !decide (o = above)
/-- branches, computed -/
def brX (ks : List Pr) : Nat → Int → Int → Int
  | 0, _, _ => 0
  | d + 1, i, above => 1 + (chB ((bel ks i above).map fun o => brX ks d o i) : Int)
/-- .. rightly, in d steps -/
def okB (ks : List Pr) : Nat → Int → Int → Bool
  | 0, _, _ => false
  | d + 1, i, above => isChB ((bel ks i above).map fun o => brX ks d o i) (chB ((bel ks i above).map fun o => brX ks d o i) : Int) && (bel ks i above).all fun o => okB ks d o i
def spBr (K : PySem.W.Frag) (d : Nat) : Sp := fun vs H Q _ => ∃ (a : Addr) (n : Nat) (ks : List Pr) (i above : Int), vs = [.ref a, .int i, .int above] ∧ NearAt H a n ks ∧ Okl n ks ∧ ks.length ≤ 10000 ∧ (0 ≤ i ∧ i < (n : Int)) ∧ okB ks d i above = true ∧ ∀ H', Ex H H' → Q (.int (brX ks d i above)) H'
section
variable {P : Program} {w : World} {K : PySem.W.Frag} {mg : Str → Option Value} {base : Heap}
theorem body_br {f : Addr} {fd : FuncData} (F : Fun K "_law_branch" "_law_branch" s__law_branch f fd) (T : Txt mg) (c__law_chain : Cal P w K mg base 1 "_law_chain" ["_law_numbers"] [] (spLCh K)) (d : Nat) {spb : Sp}
    (c__law_branch : Cal P w K mg base (d + 1) "_law_branch" ["_law_near_here", "_law_station", "_law_above"] [] spb) (hspb : ∀ e, d = e + 1 → spb = spBr K e) : FnOk P w K mg base CX0 (d + 2) f fd ["_law_near_here", "_law_station", "_law_above"] (spBr K d) := by
  refine F.ok sc__law_branch (fun vs H Q E h => ?_) (fun cdv A outer s H vs Q E hr h => ?_)
  · obtain ⟨a, n, ks, i, above, rfl, _⟩ := h
    rfl
  · obtain ⟨a, n, ks, i, above, rfl, N, ok, hz, hi, hok, k⟩ := h
    cases d with
    | zero => cases hok
    | succ d =>
      have e := hspb d rfl
      subst e
      obtain ⟨nps, hnp, hlen, heach⟩ := id N
      obtain ⟨ii, rfl⟩ : ∃ m : Nat, i = (m : Int) := ⟨i.toNat, by omega⟩
      obtain ⟨pi, hpi⟩ : ∃ p, nps[ii]? = some p := ⟨_, List.getElem?_eq_getElem (by omega)⟩
      have hok' := Bool.and_eq_true_iff.mp hok
      have hz2 : (nb ks (ii : Int)).length ≤ 1000000 := Nat.le_trans (nb_len _ _) (by omega)
      refine ⟨_, (pss_one (ps_ret (pe_cal c__law_chain (hr.mono (by first | decide | omega)) passN (pa_cons (pe_lc (own := [("_law_one", 3)]) (by rfl) sc__law_branch.nd (pi_list (pe_ix ix_list (pv 0) (pv 1) (fun _ _ => rfl))) (blkOk_by (own := [("_law_one", 3)]) (N := ["_law_near_here", "_law_station", "_law_above", "_law_one"]) (sc := defScope s__law_branch) (by decide +kernel)) (fun _ _ _ _ _ => (pg_name (i := 3) sc__law_branch.nd rfl (Or.inl rfl))) (fun _ _ _ _ _ => (pts_one (pt_cmpR op_ne (pv 3) (pv 2) (nomark _)))) (fun _ _ _ _ _ => (pe_cal c__law_branch (hr.mono (by first | decide | omega)) passN (pa_cons (pv 0) (pa_cons (pv 3) (pa_cons (pv 1) pa_nil)))))) pa_nil)))), ?_⟩
      walk_at "go"
      refine g_ixL (SqL.of hnp) (atI_nat (j := ii) (v := .ref pi) (by rw [List.getElem?_map, hpi] <;> rfl)) ?_
      refine v_list (xs := (nb ks (ii : Int)).map V.int) (fun j acc G' L' => L' = [] ∧ acc = ((((nb ks (ii : Int)).take j).filter fun o => !decide (o = above)).map fun o => brX ks d o (ii : Int)).map V.int) (Own.start H) (SqL.of (heach ii pi hpi)) (by rw [List.length_map]; exact hz2) ⟨rfl, rfl⟩ ?_ ?_
      · rintro D j x acc G' L' H1 hx hj e1 hl1 ⟨rfl, rfl⟩ S1
        obtain ⟨y, hy, rfl⟩ := get_map hx
        have hb := nb_rng ok (List.mem_of_getElem? hy)
        walk_at "go"
        refine ⟨rfl, ?_⟩
        walk_at "go"
        refine if_2 (fun c => ?_) (fun c => ?_)
        · have hm : y ∈ bel ks (ii : Int) above := List.mem_filter.mpr ⟨List.mem_of_getElem? hy, c⟩
          walk_at "go"
          refine ⟨a, n, ks, y, (ii : Int), rfl, (N.mono e1).mono S1.ex, ok, hz, ⟨by omega, by omega⟩, List.all_eq_true.mp hok'.2 y hm, fun H2 e2 => ?_⟩
          refine c_yes (S1.grow e2) e1 hl1 hj ⟨rfl, ?_⟩
          rw [take_snoc hy, List.filter_append, List.map_append, List.map_append]
          have e5 : [y].filter (fun o => !decide (o = above)) = [y] := by rw [List.filter_cons, if_pos c] <;> rfl
          rw [e5] <;> rfl
        · refine c_no S1 e1 hl1 ⟨rfl, ?_⟩
          rw [take_snoc hy, List.filter_append]
          have e5 : [y].filter (fun o => !decide (o = above)) = [] := by rw [List.filter_cons, if_neg (by rw [c]; exact Bool.false_ne_true)] <;> rfl
          rw [e5, List.append_nil]
      · rintro p acc G1 L1 H1 e1 _ ⟨rfl, rfl⟩ S1
        rw [List.length_map, List.take_length] at S1
        walk_at "go"
        refine n_lch S1 S1.l0 fun g H2 e2 hch S2 => ?_
        have hg := hch.uniq (isChB_is hok'.1)
        rw [hg, show (chB ((bel ks (ii : Int) above).map fun o => brX ks d o (ii : Int)) : Int) + 1 = brX ks (d + 1) (ii : Int) above from Int.add_comm _ _]
        exact k H2 (e1.trans S2.ex)
theorem ok_br {f : Addr} {fd : FuncData} (F : Fun K "_law_branch" "_law_branch" s__law_branch f fd) (T : Txt mg) (c__law_chain : Cal P w K mg base 1 "_law_chain" ["_law_numbers"] [] (spLCh K)) (hm : mg "_law_branch" = some (.ref f)) (hb : Binds K fd ["_law_near_here", "_law_station", "_law_above"] []) :
    ∀ d, FnOk P w K mg base (L2.CX P w) (d + 2) f fd ["_law_near_here", "_law_station", "_law_above"] (spBr K d)
  | 0 => fn_up (body_br F T c__law_chain 0 (spb := fun _ _ _ _ => False) ⟨f, fd, [], ⟨fun _ _ _ _ h => h.elim, fun _ _ _ _ _ _ _ _ _ _ _ _ _ h => h.elim⟩, hm, F.kp, hb, .nil⟩ fun e z => nomatch z)
  | d + 1 => fn_up (body_br F T c__law_chain (d + 1) ⟨f, fd, [], ok_br F T c__law_chain hm hb d, hm, F.kp, hb, .nil⟩ fun e z => by cases z; rfl)
end
end NX

namespace NX
open PySem PySem.Spec PyProof.Rows L2
open Evl (Ex ex_l ex_t fresh_back)
theorem lks_nw {H H' : Hp} (e : Ex H H') {xs : List V} {ks : List Pr} (h : Lks H xs ks) : Lks (nw H H') xs ks := Paired.mapP h fun _ _ ⟨t, a, b⟩ => ⟨t, a, by rw [nw_tup b rfl]; exact e _ _ b⟩
abbrev s_Network_links : Stmt := inClass (top 10) 1
theorem sc_Network_links : FnScope ["self"] ["self"] (defScope s_Network_links) := ⟨rfl, rfl, rfl, by decide +kernel, rfl, by decide +kernel, by decide +kernel⟩
abbrev s_Network_check_station : Stmt := inClass (top 10) 5
theorem sc_Network_check_station : FnScope ["self", "station"] ["self", "station"] (defScope s_Network_check_station) := ⟨rfl, rfl, rfl, by decide +kernel, rfl, by decide +kernel, by decide +kernel⟩
def spLinks (C : Addr) : Sp := fun vs H Q _ => ∃ (a : Addr) (n : Nat) (ks : List Pr), vs = [.ref a] ∧ NetAt C H a n ks ∧ ∀ xs, Lks H xs ks → Ret (.lst xs) H Q
/-- the station is one -/
def spChk (C : Addr) : Sp := fun vs H Q _ => ∃ (a : Addr) (n : Nat) (ks : List Pr) (i : Int), vs = [.ref a, .int i] ∧ NetAt C H a n ks ∧ (0 ≤ i ∧ i < (n : Int)) ∧ ∀ H', Ex H H' → Q .non H'
section
variable {C : Addr} {G H : Hp} {L : List (Addr × HO)} {a : Addr} {n : Nat} {ks : List Pr} {Q : VK} {E : XK}
theorem n_links (S : Own G L H) (N : NetAt C G a n ks) (k : ∀ xs p G1 H1, Lks G1 xs ks → H p = none → Ex G G1 → Ex H H1 → G1 p = some (.lst xs) → Own G1 L H1 → Q (.ref p) H1) : spLinks C [.ref a] H Q E :=
  ⟨a, n, ks, rfl, N.mono S.ex, fun xs hx p H' hp e h => by
    obtain ⟨S1, e1, e2⟩ := S.absorb e
    exact k xs p _ H' ((lks_nw e hx).mono e2) hp e1 e (e2 _ _ ((nw_new hp).trans h)) S1⟩
theorem n_linksO (S : Own G L H) (N : NetAt C G a n ks) (k : ∀ xs p G1 H1, Lks G1 xs ks → H p = none → Ex G G1 → Ex H H1 → Own G1 ((p, .lst xs) :: L) H1 → Q (.ref p) H1) : spLinks C [.ref a] H Q E :=
  n_links S N fun xs p G1 H1 hl hp e1 e2 h S1 => by
    obtain ⟨S2, k2⟩ := S1.thaw h
    refine k xs p _ H1 (Paired.mapP hl fun _ _ ⟨t, b, c⟩ => ⟨t, b, k2 _ _ (fun z => ?_) c⟩) hp (fun b u hb => k2 _ _ (ne_of_none hb (fresh_back S.ex hp)) (e1 _ _ hb)) e2 S2
    rw [z, h] at c
    cases c
theorem n_chk {i : Int} (S : Own G L H) (N : NetAt C G a n ks) (h : 0 ≤ i ∧ i < (n : Int)) (k : ∀ H1, Ex H H1 → Own G L H1 → Q .non H1) : spChk C [.ref a, .int i] H Q E :=
  ⟨a, n, ks, i, rfl, N.mono S.ex, h, fun H' e => k H' e (S.grow e)⟩
end
section
variable {P : Program} {w : World} {K : PySem.W.Frag} {mg : Str → Option Value} {base : Heap} {C : Addr}
theorem ok_links {f : Addr} {fd : FuncData} (F : Fun K "links" "Network.links" s_Network_links f fd) (T : Txt mg) (NC : NetC K C) : FnOk P w K mg base CX0 1 f fd ["self"] (spLinks C) := by
  refine F.ok sc_Network_links (fun vs H Q E h => ?_) (fun cdv A outer s H vs Q E hr h => ?_)
  · obtain ⟨a, n, ks, rfl, _⟩ := h
    rfl
  · obtain ⟨a, n, ks, rfl, N, k⟩ := h
    obtain ⟨dx, kp, np, xs, nps, o⟩ := N.at_
    refine ⟨_, (pss_one (ps_ret (pe_callTy call_listN (by rfl) T.n_list (by decide +kernel) (pa_cons (pe_fld (pv 0) rfl) pa_nil)))), ?_⟩
    walk_at "go"
    refine n_fld o.ins NC.cl NC.nK (nf_kept kp np) ?_
    walk_at "go"
    exact ⟨kp, xs, rfl, .inl (SqL.of o.kept), fun p hp => k xs o.lks p _ hp (Ex.new hp) upd_same⟩
theorem ok_chk {f : Addr} {fd : FuncData} (F : Fun K "check_station" "Network.check_station" s_Network_check_station f fd) (T : Txt mg) (NC : NetC K C) (c_is_int : Cal P w K mg base 1 "is_int" ["value"] [] (spIsInt K)) : FnOk P w K mg base CX0 2 f fd ["self", "station"] (spChk C) := by
  refine F.ok sc_Network_check_station (fun vs H Q E h => ?_) (fun cdv A outer s H vs Q E hr h => ?_)
  · obtain ⟨a, n, ks, i, rfl, _⟩ := h
    rfl
  · obtain ⟨a, n, ks, i, rfl, N, hi, k⟩ := h
    obtain ⟨dx, kp, np, xs, nps, o⟩ := N.at_
    refine ⟨_, (pss_one (ps_if (PW.pt (pw_or (pt_not (pt_val (pe_cal c_is_int (hr.mono (by first | decide | omega)) passN (pa_cons (pv 1) pa_nil)))) (pw_or1 (pt_not (pt_chain op_le op_lt pe_int (pv 1) (pe_callB call_lenN (by rfl) T.n_len (by decide +kernel) (pa_cons (pe_fld (pv 0) rfl) pa_nil))))))) (pss_one ps_never) pss_nil)), ?_⟩
    walk_at "go"
    refine g_isint ?_
    walk_at "go"
    refine if_tt (dtrue (by omega)) ?_
    walk_at "go"
    refine n_fld o.ins NC.cl NC.nN (nf_near kp np) ?_
    walk_at "go"
    refine n_len (SqL.of o.near) ?_
    rw [List.length_map, o.len]
    walk_at "go"
    refine if_ff (ntrue (by omega)) ?_
    walk_at "go"
    exact k H (Ex.refl H)
end
end NX

namespace NX
open PySem PySem.Spec PyProof.Rows L2
open Evl (Ex ex_l ex_t fresh_back)
abbrev s__law_is_whole : Stmt := top 26
theorem sc__law_is_whole : FnScope ["_law_net", "_law_marks", "_law_one", "_law_other", "_law_old", "_law_new", "_law_mark"] ["_law_net"] (defScope s__law_is_whole) := ⟨rfl, rfl, rfl, by decide +kernel, rfl, by decide +kernel, by decide +kernel⟩
/-- marks behind a link -/
def mkS (ms : List Int) (q : Pr) : List Int := ms.map fun z => if z = tv ms q.1 then tv ms q.2 else z
/-- no link joins stations of one mark -/
def whB : List Int → List Pr → Bool
  | _, [] => true
  | ms, q :: ks => !decide (tv ms q.1 = tv ms q.2) && whB (mkS ms q) ks
theorem mkS_len (ms : List Int) (q : Pr) : (mkS ms q).length = ms.length := List.length_map _
def spWhole (C : Addr) : Sp := fun vs H Q _ => ∃ (a : Addr) (n : Nat) (ks : List Pr), vs = [.ref a] ∧ NetAt C H a n ks ∧ whB (rgI 0 (n : Int)) ks = true ∧ ∀ H', Ex H H' → Q (.bl true) H'
section
variable {P : Program} {w : World} {K : PySem.W.Frag} {mg : Str → Option Value} {base : Heap} {C : Addr}
theorem ok_whole {f : Addr} {fd : FuncData} (F : Fun K "_law_is_whole" "_law_is_whole" s__law_is_whole f fd) (T : Txt mg) (NC : NetC K C) (M_len : Mth P w K mg base 1 C "__len__" ["self"] (spLen C)) (M_links : Mth P w K mg base 1 C "links" ["self"] (spLinks C)) : FnOk P w K mg base CX0 3 f fd ["_law_net"] (spWhole C) := by
  refine F.ok sc__law_is_whole (fun vs H Q E h => ?_) (fun cdv A outer s H vs Q E hr h => ?_)
  · obtain ⟨a, n, ks, rfl, _⟩ := h
    rfl
  · obtain ⟨a, n, ks, rfl, N, hw, k⟩ := h
    have hn := N.sz
    have ok := N.ok
    refine ⟨_, (pss_cons (ps_set (i := 1) sc__law_is_whole.nd rfl (Or.inl rfl) (pe_listRg rfl (by rfl) T.n_list (prg_1 (by rfl) T.n_range (pe_callB (call_lenNet NC M_len (hr.mono (by first | decide | omega))) (by rfl) T.n_len (by decide +kernel) (pa_cons (pv 0) pa_nil)))))
      (pss_cons (ps_for PassesOwn.never rfl (pi_list (pe_mth0 (pv 0) M_links NC.cl (hr.mono (by first | decide | omega)) passN)) (pg_tup (n := 2) rfl (pgs_cons (pg_name (i := 2) sc__law_is_whole.nd rfl (Or.inl rfl)) (pgs_cons (pg_name (i := 3) sc__law_is_whole.nd rfl (Or.inl rfl)) pgs_nil))) (pss_cons (ps_if (pt_cmpR op_eq (pe_ix ix_list (pv 1) (pv 2) (fun _ _ => rfl)) (pe_ix ix_list (pv 1) (pv 3) (fun _ _ => rfl)) (nomark _)) (pss_one (ps_ret pe_bl)) pss_nil)
      (pss_cons (ps_asg (pe_tup (pa_cons (pe_ix ix_list (pv 1) (pv 2) (fun _ _ => rfl)) (pa_cons (pe_ix ix_list (pv 1) (pv 3) (fun _ _ => rfl)) pa_nil))) (pg_tup (n := 2) rfl (pgs_cons (pg_name (i := 4) sc__law_is_whole.nd rfl (Or.inr rfl)) (pgs_cons (pg_name (i := 5) sc__law_is_whole.nd rfl (Or.inr rfl)) pgs_nil))))
      (pss_one (ps_setLc (i := 1) (own := [("_law_mark", 6)]) (by rfl) sc__law_is_whole.nd rfl rfl (sw_true rfl rfl rfl (by decide +kernel)) (pi_list (pv 1)) (blkOk_by (own := [("_law_mark", 6)]) (N := ["_law_net", "_law_marks", "_law_one", "_law_other", "_law_old", "_law_new", "_law_mark"]) (sc := defScope s__law_is_whole) (by decide +kernel)) (fun _ _ _ _ _ => (pg_name (i := 6) sc__law_is_whole.nd rfl (Or.inl rfl))) (fun _ _ _ _ _ => pts_nil) (fun _ _ _ _ _ => (pe_ifExp (pt_cmpR op_eq (pv 6) (pv 4) (nomark _)) (pv 5) (pv 6))))))))
      (pss_one (ps_ret pe_bl)))), ?_⟩
    walk_at "go"
    refine n_lenNet N ?_
    walk_at "go"
    refine n_rgG (Own.start H) (by omega) fun rp G1 H1 _ e1 _ hrp S1 => ?_
    rw [rgV_eq] at hrp
    have hrl : (rgI 0 (n : Int)).length = n := by unfold rgI; rw [List.length_map, List.length_range]; omega
    walk_at "go"
    refine ⟨((N.mono e1).mono S1.ex).ins (by decide) (by decide), ?_⟩
    walk_at "go"
    refine n_links S1 (N.mono e1) fun xs lp G2 H2 hl _ e2 _ hlp S2 => ?_
    refine w_list (xs := xs) (fun i σ' H' => ∃ (q : Addr) (ms : List Int) (G' : Hp), (∃ x1 x2 x3 x4 x5, σ' = [some (.ref a), some (.ref q), x1, x2, x3, x4, x5]) ∧ Ex G2 G' ∧ Own G' [] H' ∧ G' q = some (.lst (ms.map V.int)) ∧ ms.length = n ∧ whB ms (ks.drop i) = true) (SqL.of (S2.ex _ _ hlp))
      ⟨rp, rgI 0 (n : Int), G2, ⟨_, _, _, _, _, rfl⟩, Ex.refl _, S2, e2 _ _ hrp, hrl, hw⟩ (fun i σ' H' ⟨_, _, G', _, e, S, _⟩ => SqL.of (S.ex _ _ (e _ _ hlp))) ?_ ?_
    · rintro i y σ' H' hy ⟨q, ms, G', ⟨x1, x2, x3, x4, x5, rfl⟩, eG, S, hq, hlen, hinv⟩
      obtain ⟨p, hp, t, rfl, ht⟩ := pr_get hl hy
      have hbd := ok p (List.mem_of_getElem? hp)
      have hdrop : ks.drop i = p :: ks.drop (i + 1) := by
        obtain ⟨hl, e⟩ := List.getElem?_eq_some_iff.mp hp
        rw [List.drop_eq_getElem_cons hl, e]
      rw [hdrop] at hinv
      obtain ⟨h1, h2⟩ := Bool.and_eq_true_iff.mp hinv
      have hne : ¬ tv ms p.1 = tv ms p.2 := fun z => by rw [dtrue z] at h1; cases h1
      have g1 := at_tv (t := ms) (j := p.1) hbd.1 (by rw [hlen]; omega)
      have g2 := at_tv (t := ms) (j := p.2) (by omega) (by rw [hlen]; omega)
      refine s_gtup (SqT.of (S.ex _ _ (eG _ _ ht))) rfl ?_
      walk_at "go"
      refine g_ixL (SqL.of (S.ex _ _ hq)) g1 ?_
      walk_at "go"
      refine g_ixL (SqL.of (S.ex _ _ hq)) g2 ?_
      walk_at "go"
      refine if_ff (dfalse hne) ?_
      walk_at "go"
      refine g_ixL (SqL.of (S.ex _ _ hq)) g1 ?_
      walk_at "go"
      refine g_ixL (SqL.of (S.ex _ _ hq)) g2 ?_
      walk_at "go"
      refine n_tup S (by show 2 ≤ 10000000; decide) fun t3 G3 H3 _ e3 _ ht3 S3 => ?_
      refine s_gtup (SqT.of (S3.ex _ _ ht3)) rfl ?_
      walk_at "go"
      refine v_list (xs := ms.map V.int) (fun j acc G4 L4 => L4 = [] ∧ acc = ((ms.take j).map fun z => if z = tv ms p.1 then tv ms p.2 else z).map V.int) S3 (SqL.of (e3 _ _ hq)) (by rw [List.length_map, hlen]; omega) ⟨rfl, rfl⟩ ?_ ?_
      · rintro D j x acc G4 L4 H4 hx hj e4 hl4 ⟨rfl, rfl⟩ S4
        obtain ⟨z, hz, rfl⟩ := get_map hx
        walk_at "go"
        refine ⟨rfl, ?_⟩
        walk_at "go"
        refine if_2 (fun c => ?_) (fun c => ?_)
        · have c := of_decide_eq_true c
          walk_at "go"
          refine c_yes S4 e4 hl4 hj ⟨rfl, ?_⟩
          rw [take_snoc hz, List.map_append, List.map_append]
          show _ = _ ++ [V.int (if z = tv ms p.1 then tv ms p.2 else z)]
          rw [if_pos c]
        · have c := of_decide_eq_false c
          walk_at "go"
          refine c_yes S4 e4 hl4 hj ⟨rfl, ?_⟩
          rw [take_snoc hz, List.map_append, List.map_append]
          show _ = _ ++ [V.int (if z = tv ms p.1 then tv ms p.2 else z)]
          rw [if_neg c]
      · rintro p5 acc G5 L5 H5 e5 _ ⟨rfl, rfl⟩ S5
        rw [List.length_map, List.take_length] at S5
        obtain ⟨S6, e6, hp6⟩ := S5.freeze
        walk_at "go"
        exact ⟨p5, mkS ms p, _, ⟨_, _, _, _, _, rfl⟩, eG.trans (e3.trans (e5.trans e6)), S6, hp6, by rw [mkS_len]; exact hlen, h2⟩
    · rintro σ' H' ⟨q, ms, G', ⟨x1, x2, x3, x4, x5, rfl⟩, eG, S, _⟩
      walk_at "go"
      exact k _ (e1.trans (e2.trans (eG.trans S.ex)))
end
end NX

namespace NX
/-! ### facts of the smallest networks, computed -/
def itS (ks : List Pr) (n : Nat) (t : List Int) : List Int := (List.range n).map fun (i : Nat) => 1 + (chB ((nb ks (i : Int)).map (tv t)) : Int)
def tabC (ks : List Pr) (n : Nat) : List Int := (List.range 12).foldl (fun t _ => itS ks n t) (List.replicate n 12)
def tab31 (c : Nat) : Bool := let ks := sortP (treeL true c); tabB (treeN true c) ks (tabC ks (treeN true c)) && decide (tv (tabC ks (treeN true c)) 0 = (c : Int) + 1)
theorem tab31_ok : ∀ c, c < 9 → tab31 c = true := by decide +kernel
theorem wh31_ok : ∀ off : Bool, ∀ c, c < 9 → fw off c ≤ 60 → whB (rgI 0 (treeN off c : Int)) (sortP (treeL off c)) = true := by decide +kernel
theorem br31_ok : ∀ c, c < 6 → okB (sortP (treeL false c)) 8 0 (-1) = true ∧ brX (sortP (treeL false c)) 8 0 (-1) = (c : Int) + 1 := by decide +kernel
theorem tab_zero {c : Nat} {t : List Int} (hc : c < 9) (h : TabF (treeN true c) (sortP (treeL true c)) t) (ok : Okl (treeN true c) (sortP (treeL true c))) : tv t 0 = (c : Int) + 1 := by
  have z := Bool.and_eq_true_iff.mp (tab31_ok c hc)
  rw [TabF.uniq ok h (tabB_is z.1)]
  exact of_decide_eq_true z.2
end NX

namespace NX
open PySem PySem.Spec PyProof.Rows L2
open Evl (Ex ex_l ex_t fresh_back)
abbrev s__law_table : Stmt := top 22
theorem sc__law_table : FnScope ["_law_near_here", "_law_table_here", "_law_later", "_law_some", "_law_one"] ["_law_near_here"] (defScope s__law_table) := ⟨rfl, rfl, rfl, by decide +kernel, rfl, by decide +kernel, by decide +kernel⟩
/-- the table of the law, a list -/
def spTableL (K : PySem.W.Frag) : Sp := fun vs H Q _ => ∃ (a : Addr) (n : Nat) (ks : List Pr), vs = [.ref a] ∧ NearAt H a n ks ∧ Okl n ks ∧ n ≤ 1000 ∧ ks.length ≤ 10000 ∧ ∀ t, TabF n ks t → Ret (.lst (t.map V.int)) H Q
theorem n_tableL {K : PySem.W.Frag} {G H : Hp} {L : List (Addr × HO)} {a : Addr} {n : Nat} {ks : List Pr} {Q : VK} {E : XK} (S : Own G L H) (N : NearAt G a n ks) (ok : Okl n ks) (hn : n ≤ 1000) (hz : ks.length ≤ 10000)
    (k : ∀ t p G1 H1, TabF n ks t → Ex G G1 → G1 p = some (.lst (t.map V.int)) → Own G1 L H1 → Q (.ref p) H1) : spTableL K [.ref a] H Q E :=
  ⟨a, n, ks, rfl, N.mono S.ex, ok, hn, hz, fun t ht => n_retG S fun p G1 H1 _ e _ h S1 => k t p G1 H1 ht e h S1⟩
section
variable {P : Program} {w : World} {K : PySem.W.Frag} {mg : Str → Option Value} {base : Heap}
theorem ok_tableL {f : Addr} {fd : FuncData} (F : Fun K "_law_table" "_law_table" s__law_table f fd) (T : Txt mg) (c__law_chain : Cal P w K mg base 1 "_law_chain" ["_law_numbers"] [] (spLCh K)) : FnOk P w K mg base CX0 2 f fd ["_law_near_here"] (spTableL K) := by
  refine F.ok sc__law_table (fun vs H Q E h => ?_) (fun cdv A outer s H vs Q E hr h => ?_)
  · obtain ⟨a, n, ks, rfl, _⟩ := h
    rfl
  · obtain ⟨a, n, ks, rfl, ⟨nps, hnp, hlen, heach⟩, ok, hn, hz, k⟩ := h
    have hu65 : ∀ X : Cx, X.A = A.deeper (envOfC "_law_table" (defScope s__law_table) s.heap.objs.size f cdv) → X.A.units + 65 < cLine := fun X e => by rw [e]; have := hr.un; omega
    have hz2 : ∀ i : Int, (nb ks i).length ≤ 1000000 := fun i => Nat.le_trans (nb_len _ _) (by omega)
    have ref_at : ∀ {i : Nat} {x : V}, (nps.map V.ref)[i]? = some x → ∃ p, nps[i]? = some p ∧ x = .ref p := fun h => get_map h
    refine ⟨_, (pss_cons (ps_set (i := 1) sc__law_table.nd rfl (Or.inr rfl) (pe_lc (own := [("_law_some", 3)]) (by rfl) sc__law_table.nd (pi_list (pv 0)) (blkOk_by (own := [("_law_some", 3)]) (N := ["_law_near_here", "_law_table_here", "_law_later", "_law_some", "_law_one"]) (sc := defScope s__law_table) (by decide +kernel)) (fun _ _ _ _ _ => (pg_name (i := 3) sc__law_table.nd rfl (Or.inl rfl))) (fun _ _ _ _ _ => pts_nil) (fun _ _ _ _ _ => (pe_op op_add (pe_callB (call_lenK (K := K)) (by rfl) T.n_len (by decide +kernel) (pa_cons (pv 3) pa_nil)) pe_int))))
      (pss_cons (ps_setLc (i := 2) (own := [("_law_some", 3)]) (by rfl) sc__law_table.nd rfl rfl (sw_true rfl rfl rfl (by decide +kernel)) (pi_list (pv 0)) (blkOk_by (own := [("_law_some", 3)]) (N := ["_law_near_here", "_law_table_here", "_law_later", "_law_some", "_law_one"]) (sc := defScope s__law_table) (by decide +kernel)) (fun _ _ _ _ _ => (pg_name (i := 3) sc__law_table.nd rfl (Or.inl rfl))) (fun _ _ _ _ _ => pts_nil) (fun _ _ _ _ _ => (pe_cal c__law_chain (hr.mono (by first | decide | omega)) passN (pa_cons (pe_lc (own := [("_law_one", 4)]) (by rfl) sc__law_table.nd (pi_listK (K := K) (pv 3)) (blkOk_by (own := [("_law_one", 4)]) (by first | decide +kernel | kernel_rfl)) (fun _ _ _ _ _ => (pg_name (i := 4) sc__law_table.nd rfl (Or.inl rfl))) (fun _ _ _ _ _ => pts_nil) (fun _ _ _ _ _ => (pe_ix (ix_listK (K := K)) (pv 1) (pv 4) (fun _ _ => rfl)))) pa_nil))))
      (pss_cons (ps_while PassesOwn.never (pt_cmpR (op_neD (Nat.lt_of_succ_lt (hu65 _ rfl))) (pv 2) (pv 1) (nomark _)) (pss_cons (ps_set (i := 1) sc__law_table.nd rfl (Or.inr rfl) (pv 2))
      (pss_one (ps_setLc (i := 2) (own := [("_law_some", 3)]) (by rfl) sc__law_table.nd rfl rfl (sw_true rfl rfl rfl (by decide +kernel)) (pi_list (pv 0)) (blkOk_by (own := [("_law_some", 3)]) (N := ["_law_near_here", "_law_table_here", "_law_later", "_law_some", "_law_one"]) (sc := defScope s__law_table) (by decide +kernel)) (fun _ _ _ _ _ => (pg_name (i := 3) sc__law_table.nd rfl (Or.inl rfl))) (fun _ _ _ _ _ => pts_nil) (fun _ _ _ _ _ => (pe_cal c__law_chain (hr.mono (by first | decide | omega)) passN (pa_cons (pe_lc (own := [("_law_one", 4)]) (by rfl) sc__law_table.nd (pi_listK (K := K) (pv 3)) (blkOk_by (own := [("_law_one", 4)]) (by first | decide +kernel | kernel_rfl)) (fun _ _ _ _ _ => (pg_name (i := 4) sc__law_table.nd rfl (Or.inl rfl))) (fun _ _ _ _ _ => pts_nil) (fun _ _ _ _ _ => (pe_ix (ix_listK (K := K)) (pv 1) (pv 4) (fun _ _ => rfl)))) pa_nil)))))))
      (pss_one (ps_ret (pv 1)))))), ?_⟩
    walk_at "go"
    refine v_list (xs := nps.map V.ref) (fun i acc G' L' => L' = [] ∧ ∃ c : List Int, c.length = i ∧ acc = c.map V.int ∧ ∀ j : Nat, j < i → tv c (j : Int) = ((nb ks (j : Int)).length : Int) + 1) (Own.start H) (SqL.of hnp) (by rw [List.length_map]; omega) ⟨rfl, [], rfl, rfl, fun j hj => absurd hj (Nat.not_lt_zero j)⟩ ?_ ?_
    · rintro D i x acc G' L' H1 hx hi' e1 hl1 ⟨rfl, c, hc, rfl, hv⟩ S1
      obtain ⟨p, hp, rfl⟩ := ref_at hx
      walk_at "go"
      refine ⟨rfl, ?_⟩
      walk_at "go"
      refine n_len (SqL.of (S1.ex _ _ (e1 _ _ (heach i p hp)))) ?_
      walk_at "go"
      rw [List.length_map]
      refine c_yes S1 e1 hl1 hi' ⟨rfl, c ++ [((nb ks (i : Int)).length : Int) + 1], by rw [List.length_append, hc] <;> rfl, by rw [List.map_append] <;> rfl, fun j hj => ?_⟩
      by_cases e : j = i
      · subst e
        rw [← hc, tv_app2]
      · rw [tv_app1 (by omega) (by omega)]
        exact hv j (by omega)
    · rintro p0 acc G1 L1 H1 e1 _ ⟨rfl, t0, hlen0, rfl, hv⟩ S1
      rw [List.length_map] at hlen0 hv
      have hlen0 : t0.length = n := by omega
      have low0 : LowT n ks t0 := low_start hlen0 fun i hi => hv i (by omega)
      obtain ⟨S2, e2, hp2⟩ := S1.freeze
      generalize upd G1 p0 (.lst (t0.map V.int)) = G2 at S2 e2 hp2
      walk_at "go"
      have e02 := e1.trans e2
      refine v_list (xs := nps.map V.ref) (fun i acc G5 L' => L' = [] ∧ ∃ c : List Int, c.length = i ∧ acc = c.map V.int ∧ ∀ j : Nat, j < i → IsCh ((nb ks (j : Int)).map (tv t0)) (tv c (j : Int) - 1)) S2 (SqL.of (e02 _ _ hnp)) (by rw [List.length_map]; omega) ⟨rfl, [], rfl, rfl, fun j hj => absurd hj (Nat.not_lt_zero j)⟩ ?_ ?_
      · rintro D i x acc G5 L' H5 hx hi' e5 hl5 ⟨rfl, c, hc, rfl, hv5⟩ S5
        obtain ⟨pi, hpi, rfl⟩ := ref_at hx
        walk_at "go"
        refine ⟨rfl, ?_⟩
        walk_at "go"
        refine v_list (xs := (nb ks (i : Int)).map V.int) (fun j acc6 G6 L6 => L6 = [(D, .lst (c.map V.int))] ∧ acc6 = (((nb ks (i : Int)).take j).map (tv t0)).map V.int) S5 (SqL.of (e5 _ _ (e02 _ _ (heach i pi hpi)))) (by rw [List.length_map]; exact hz2 _) ⟨rfl, rfl⟩ ?_ ?_
        · rintro D6 j x acc6 G6 L6 H6 hx hj e6 hl6 ⟨rfl, rfl⟩ S6
          obtain ⟨y, hy, rfl⟩ := get_map hx
          obtain ⟨y', rfl, hy'⟩ := nb_nat ok (List.mem_of_getElem? hy)
          walk_at "go"
          refine ⟨rfl, ?_⟩
          walk_at "go"
          refine g_ixL (SqL.of (S6.ex _ _ (e6 _ _ (e5 _ _ hp2)))) (at_tv (by omega) (by have := low0.1; omega)) ?_
          exact c_yes S6 e6 hl6 hj ⟨rfl, by rw [take_snoc hy, List.map_append, List.map_append] <;> rfl⟩
        · rintro p6 acc6 G6 L6 H6 e6 _ ⟨rfl, rfl⟩ S6
          rw [List.length_map, List.take_length] at S6
          walk_at "go"
          refine n_lch S6.forget S6.l0 fun g H7 e7 hch S7 => ?_
          refine c_yes S7 (e5.trans e6) hl5 hi' ⟨rfl, c ++ [g + 1], by rw [List.length_append, hc] <;> rfl, by rw [List.map_append] <;> rfl, fun j hj => ?_⟩
          by_cases e : j = i
          · subst e
            rw [← hc, tv_app2, hc]
            have z : g + 1 - 1 = g := by omega
            rw [z]
            exact hch
          · rw [tv_app1 (by omega) (by omega)]
            exact hv5 j (by omega)
      · rintro p5 acc G5 L5 H5 e5 _ ⟨rfl, c, hc, rfl, hv5⟩ S5
        rw [List.length_map] at hc hv5
        have fr5 : H p5 = none := fresh_back (e02.trans e5) S5.no0
        have hst0 : StepT n ks t0 c := ⟨by omega, fun i hi => hv5 i (by omega)⟩
        obtain ⟨S6, e6, hp6⟩ := S5.freeze
        generalize upd G5 p5 (.lst (c.map V.int)) = G6 at S6 e6 hp6
        walk_at "go"
        refine s_while (fun m σ' H' => ∃ (q r : Addr) (t t' : List Int) (G' : Hp), H q = none ∧ H r = none ∧ (∃ x1 x2, σ' = [some (.ref a), some (.ref q), some (.ref r), x1, x2]) ∧ m = t.sum.toNat ∧ LowT n ks t ∧ StepT n ks t t' ∧
          Ex H G' ∧ Own G' [] H' ∧ G' q = some (.lst (t.map V.int)) ∧ G' r = some (.lst (t'.map V.int))) _ ⟨p0, p5, t0, c, G6, fresh_back e1 S1.no0, fr5, ⟨_, _, rfl⟩, rfl, low0, hst0, e02.trans (e5.trans e6), S6, e6 _ _ (e5 _ _ hp2), hp6⟩ ?_
        rintro m σ' H' ⟨q, r, t, t', G', fq, fr, ⟨x1, x2, rfl⟩, rfl, hlow, hst, eG, S, hq, hrr⟩
        walk_at "go"
        refine n_neIL (SqL.of (S.ex _ _ hrr)) (SqL.of (S.ex _ _ hq)) ?_
        walk_at "go"
        have hs := low_sum hlow hst
        have hlow' := low_step ok hlow hst
        refine if_2 (fun e => ?_) (fun e => ?_)
        · have ne : t' ≠ t := fun z => by rw [dtrue z] at e; cases e
          have hlt := hs.2.2 ne
          refine s_turn ?_
          walk_at "go"
          refine v_list (xs := nps.map V.ref) (fun i acc G5 L' => L' = [] ∧ ∃ c : List Int, c.length = i ∧ acc = c.map V.int ∧ ∀ j : Nat, j < i → IsCh ((nb ks (j : Int)).map (tv t')) (tv c (j : Int) - 1)) S (SqL.of (eG _ _ hnp)) (by rw [List.length_map]; omega) ⟨rfl, [], rfl, rfl, fun j hj => absurd hj (Nat.not_lt_zero j)⟩ ?_ ?_
          · rintro D i x acc G5 L' H5 hx hi' e5 hl5 ⟨rfl, c, hc, rfl, hv5⟩ S5
            obtain ⟨pi, hpi, rfl⟩ := ref_at hx
            walk_at "go"
            refine ⟨rfl, ?_⟩
            walk_at "go"
            refine v_list (xs := (nb ks (i : Int)).map V.int) (fun j acc6 G6 L6 => L6 = [(D, .lst (c.map V.int))] ∧ acc6 = (((nb ks (i : Int)).take j).map (tv t')).map V.int) S5 (SqL.of (e5 _ _ (eG _ _ (heach i pi hpi)))) (by rw [List.length_map]; exact hz2 _) ⟨rfl, rfl⟩ ?_ ?_
            · rintro D6 j x acc6 G6 L6 H6 hx hj e6 hl6 ⟨rfl, rfl⟩ S6
              obtain ⟨y, hy, rfl⟩ := get_map hx
              obtain ⟨y', rfl, hy'⟩ := nb_nat ok (List.mem_of_getElem? hy)
              walk_at "go"
              refine ⟨rfl, ?_⟩
              walk_at "go"
              refine g_ixL (SqL.of (S6.ex _ _ (e6 _ _ (e5 _ _ hrr)))) (at_tv (by omega) (by have := hlow'.1; omega)) ?_
              exact c_yes S6 e6 hl6 hj ⟨rfl, by rw [take_snoc hy, List.map_append, List.map_append] <;> rfl⟩
            · rintro p6 acc6 G6 L6 H6 e6 _ ⟨rfl, rfl⟩ S6
              rw [List.length_map, List.take_length] at S6
              walk_at "go"
              refine n_lch S6.forget S6.l0 fun g H7 e7 hch S7 => ?_
              refine c_yes S7 (e5.trans e6) hl5 hi' ⟨rfl, c ++ [g + 1], by rw [List.length_append, hc] <;> rfl, by rw [List.map_append] <;> rfl, fun j hj => ?_⟩
              by_cases e : j = i
              · subst e
                rw [← hc, tv_app2, hc]
                have z : g + 1 - 1 = g := by omega
                rw [z]
                exact hch
              · rw [tv_app1 (by omega) (by omega)]
                exact hv5 j (by omega)
          · rintro p5 acc G5 L5 H5 e5 _ ⟨rfl, c, hc, rfl, hv5⟩ S5
            rw [List.length_map] at hc hv5
            have fr5 : H p5 = none := fresh_back (eG.trans e5) S5.no0
            have hst2 : StepT n ks t' c := ⟨by omega, fun i hi => hv5 i (by omega)⟩
            obtain ⟨S7, e7, hp7⟩ := S5.freeze
            walk_at "go"
            exact ⟨_, by omega, r, p5, t', c, _, fr, fr5, ⟨_, _, rfl⟩, rfl, hlow', hst2, eG.trans (e5.trans e7), S7, e7 _ _ (e5 _ _ hrr), hp7⟩
        · have eq : t' = t := Classical.byContradiction fun z => by rw [dfalse z] at e; cases e
          subst eq
          walk_at "go"
          exact k t' hst q H' fq (eG.trans S.ex) (S.ex _ _ hq)
end
end NX

namespace NX
open PySem PySem.Spec PyProof.Rows L2
open Evl (Ex ex_l ex_t fresh_back)
abbrev s_Network___len__ : Stmt := inClass (top 10) 2
theorem sc_Network___len__ : FnScope ["self"] ["self"] (defScope s_Network___len__) := ⟨rfl, rfl, rfl, by decide +kernel, rfl, by decide +kernel, by decide +kernel⟩
abbrev s_Network___eq__ : Stmt := inClass (top 10) 3
theorem sc_Network___eq__ : FnScope ["self", "other"] ["self", "other"] (defScope s_Network___eq__) := ⟨rfl, rfl, rfl, by decide +kernel, rfl, by decide +kernel, by decide +kernel⟩
section
variable {P : Program} {w : World} {K : PySem.W.Frag} {mg : Str → Option Value} {base : Heap}
theorem ok_len {f C : Addr} {fd : FuncData} (F : Fun K "__len__" "Network.__len__" s_Network___len__ f fd) (T : Txt mg) (NC : NetC K C) : FnOk P w K mg base CX0 1 f fd ["self"] (spLen C) := by
  refine F.ok sc_Network___len__ (fun vs H Q E h => ?_) (fun cdv A outer s H vs Q E hr h => ?_)
  · obtain ⟨a, n, ks, rfl, _⟩ := h
    rfl
  · obtain ⟨a, n, ks, rfl, N, k⟩ := h
    obtain ⟨dx, kp, np, xs, nps, o⟩ := N.at_
    refine ⟨_, (pss_one (ps_ret (pe_callB call_lenN (by rfl) T.n_len (by decide +kernel) (pa_cons (pe_fld (pv 0) rfl) pa_nil)))), ?_⟩
    walk_at "go"
    refine n_fld o.ins NC.cl NC.nN (nf_near kp np) ?_
    walk_at "go"
    refine n_len (SqL.of o.near) ?_
    rw [List.length_map, o.len]
    exact k
theorem ok_eq {f C : Addr} {fd : FuncData} (F : Fun K "__eq__" "Network.__eq__" s_Network___eq__ f fd) (T : Txt mg) (NC : NetC K C) (hC : mg "Network" = some (.ref C)) (M_len : Mth P w K mg base 1 C "__len__" ["self"] (spLen C)) :
    FnOk P w K mg base CX0 3 f fd ["self", "other"] (spEqN C) := by
  refine F.ok sc_Network___eq__ (fun vs H Q E h => ?_) (fun cdv A outer s H vs Q E hr h => ?_)
  · obtain ⟨a, b, n, m, ks, ls, rfl, _⟩ := h
    rfl
  · obtain ⟨a, b, n, m, ks, ls, rfl, N1, N2, k⟩ := h
    have hu65 : ∀ X : Cx, X.A = A.deeper (envOfC "Network.__eq__" (defScope s_Network___eq__) s.heap.objs.size f cdv) → X.A.units + 65 < cLine := fun X e => by rw [e]; have := hr.un; omega
    obtain ⟨dx, kp, np, xs, nps, o⟩ := N1.at_
    obtain ⟨dx', kp', np', xs', nps', o'⟩ := N2.at_
    refine ⟨_, (pss_one (ps_ret (pe_and (pe_callB call_isi (by rfl) T.n_isinstance (by decide +kernel) (pa_cons (pv 1) (pa_cons (pe_glob (v := .ref C) (by rfl) hC rfl) pa_nil))) (pe_and (pe_cmpR op_eq (pe_callB (call_lenNet NC M_len (hr.mono (by first | decide | omega))) (by rfl) T.n_len (by decide +kernel) (pa_cons (pv 0) pa_nil)) (pe_callB (call_lenNet NC M_len (hr.mono (by first | decide | omega))) (by rfl) T.n_len (by decide +kernel) (pa_cons (pv 1) pa_nil)) (nomark _)) (pe_one (pe_cmpR (op_eqD (Nat.lt_of_succ_lt (hu65 _ rfl))) (pe_fld (pv 0) rfl) (pe_fld (pv 1) rfl) (nomark _))))))), ?_⟩
    walk_at "go"
    refine ⟨_, _, _, _, _, rfl, .own C, .base (.ins o'.ins NC.cl NC.ha NC.hn NC.ht NC.hm), NC.kit, ?_⟩
    walk_at "go"
    refine n_lenNet N1 ?_
    walk_at "go"
    refine n_lenNet N2 ?_
    walk_at "go"
    refine if_2 (fun e => ?_) (fun e => ?_)
    · have e := of_decide_eq_true e
      walk_at "go"
      refine n_fld o.ins NC.cl NC.nK (nf_kept kp np) ?_
      walk_at "go"
      refine n_fld o'.ins NC.cl NC.nK (nf_kept kp' np') ?_
      refine ⟨_, _, .lst (SqL.of o.kept) (dp_lks o.lks), .lst (SqL.of o'.kept) (dp_lks o'.lks), shaped_lks ks, shaped_lks ls, ?_⟩
      rw [eqv_lks]
      have z := k H (Ex.refl H)
      have e2 : decide (n = m ∧ ks = ls) = decide (ks = ls) := by
        have hnm : n = m := by omega
        rw [Bool.eq_iff_iff]
        simp [hnm]
      rw [e2] at z
      exact z
    · have e := of_decide_eq_false e
      have z := k H (Ex.refl H)
      have e2 : decide (n = m ∧ ks = ls) = false := decide_eq_false fun c => e (by rw [c.1])
      rw [e2] at z
      exact z
end
end NX

namespace NX
open PySem PySem.Spec PyProof.Rows L2
open Evl (Ex ex_l ex_t fresh_back)
/-- a draw below n: some number, the well in some other state -/
def spDraw : Sp := fun vs H Q _ => ∃ (W : Addr) (a b c n : Int), vs = [.ref W, .int n] ∧ H W = some (wl a b c) ∧ 0 < n ∧ n < 1073741824 ∧ ∀ r a' b' c', 0 ≤ r → r < n → Q (.int r) (upd H W (wl a' b' c'))
theorem n_draw {H G : Hp} {L : List (Addr × HO)} {W : Addr} {a b c n : Int} {Q : VK} {E : XK} (S : Own G ((W, wl a b c) :: L) H) (h : 0 < n ∧ n < 1073741824) (k : ∀ r a' b' c' H1, 0 ≤ r → r < n → Own G ((W, wl a' b' c') :: L) H1 → Q (.int r) H1) : spDraw [.ref W, .int n] H Q E :=
  ⟨W, a, b, c, n, rfl, S.get0, h.1, h.2, fun r a' b' c' h1 h2 => k r a' b' c' _ h1 h2 S.put0⟩
abbrev s__law_draw : Stmt := top 19
theorem sc__law_draw : FnScope ["_law_well", "_law_limit", "_law_found", "_law_number"] ["_law_well", "_law_limit"] (defScope s__law_draw) := ⟨rfl, rfl, rfl, by decide +kernel, rfl, by decide +kernel, by decide +kernel⟩
section
variable {P : Program} {w : World} {K : PySem.W.Frag} {mg : Str → Option Value} {base : Heap}
theorem ok_draw {f : Addr} {fd : FuncData} (F : Fun K "_law_draw" "_law_draw" s__law_draw f fd) : FnOk P w K mg base CX0 1 f fd ["_law_well", "_law_limit"] spDraw := by
  refine F.ok sc__law_draw (fun vs H Q E h => ?_) (fun cdv A outer s H vs Q E hr h => ?_)
  · obtain ⟨W, a, b, c, n, rfl, _⟩ := h
    rfl
  · obtain ⟨W, a, b, c, n, rfl, hW, h1, h2, k⟩ := h
    refine ⟨_, (pss_cons (ps_if (pt_cmpR op_gt (pe_ix ix_list (pv 0) pe_int (fun _ _ => rfl)) pe_int (nomark _)) (pss_cons (ps_set (i := 2) sc__law_draw.nd rfl (Or.inl rfl) (pe_op op_mod (pe_ix ix_list (pv 0) pe_int (fun _ _ => rfl)) (pv 1)))
      (pss_cons (ps_asg (pe_op op_fdiv (pe_ix ix_list (pv 0) pe_int (fun _ _ => rfl)) (pv 1)) (pg_sub (pv 0) pe_int set_list))
      (pss_one (ps_ret (pv 2))))) pss_nil)
      (pss_cons (ps_asg (pe_op op_add (pe_ix ix_list (pv 0) pe_int (fun _ _ => rfl)) pe_int) (pg_sub (pv 0) pe_int set_list))
      (pss_cons (ps_set (i := 3) sc__law_draw.nd rfl (Or.inl rfl) (pe_op op_mod (pe_op op_mul (pe_op op_add (pe_op op_add (pe_ix ix_list (pv 0) pe_int (fun _ _ => rfl)) (pe_op op_mul pe_int (pe_ix ix_list (pv 0) pe_int (fun _ _ => rfl)))) pe_int) pe_int) pe_int))
      (pss_cons (ps_set (i := 3) sc__law_draw.nd rfl (Or.inl rfl) (pe_op op_mod (pe_op op_mul (pv 3) (pe_op op_add (pe_op op_fdiv (pv 3) pe_int) pe_int)) pe_int))
      (pss_one (ps_ret (pe_op op_mod (pe_op op_mod (pe_op op_mul (pv 3) (pe_op op_add (pe_op op_fdiv (pv 3) pe_int) pe_int)) pe_int) (pv 1)))))))), ?_⟩
    have hS : SqL K H W [.int a, .int b, .int c] := SqL.of hW
    walk_at "go"
    refine g_ixL (i := 0) hS rfl ?_
    walk_at "go"
    refine if_2 (fun e => ?_) (fun e => ?_)
    · walk_at "go"
      refine g_ixL (i := 0) hS rfl ?_
      walk_at "go"
      refine g_I h1 ?_
      walk_at "go"
      refine g_ixL (i := 0) hS rfl ?_
      walk_at "go"
      refine g_I ⟨h1, h2⟩ ?_
      walk_at "go"
      refine n_setLi (i := 0) hW rfl ?_
      walk_at "go"
      exact k _ _ _ _ (mod_rng h1).1 (mod_rng h1).2
    · walk_at "go"
      refine g_ixL (i := 2) hS rfl ?_
      walk_at "go"
      refine n_setLi (i := 2) hW rfl ?_
      have hS2 : SqL K (upd H W (.lst [.int a, .int b, .int (c + 1)])) W [.int a, .int b, .int (c + 1)] := SqL.of upd_same
      walk_at "go"
      refine g_ixL (i := 1) hS2 rfl ?_
      walk_at "go"
      refine g_ixL (i := 2) hS2 rfl ?_
      walk_at "go"
      refine g_I (.inl ⟨by decide, by decide⟩) ?_
      walk_at "go"
      refine g_I (.inr ⟨by decide, by decide⟩) ?_
      walk_at "go"
      refine g_I (by decide) ?_
      walk_at "go"
      have z1 := mod_rng (a := (b + 104729 * (c + 1) + 1) * 48271) (m := 2147483647) (by decide)
      generalize (b + 104729 * (c + 1) + 1) * 48271 % 2147483647 = x at z1 ⊢
      refine g_I ⟨by decide, by decide⟩ ?_
      walk_at "go"
      refine g_I (.inl ⟨by omega, by omega⟩) ?_
      walk_at "go"
      refine g_I (by decide) ?_
      walk_at "go"
      have z2 := mod_rng (a := x * (x / 1009 + 69621)) (m := 2147483647) (by decide)
      generalize x * (x / 1009 + 69621) % 2147483647 = y at z2 ⊢
      refine g_I ⟨by decide, by decide⟩ ?_
      walk_at "go"
      refine g_I (.inl ⟨by omega, by omega⟩) ?_
      walk_at "go"
      refine g_I (by decide) ?_
      walk_at "go"
      refine g_I h1 ?_
      exact k _ _ _ _ (mod_rng h1).1 (mod_rng h1).2
end
end NX

namespace NX
open PySem PySem.Spec PyProof.Rows L2
open Evl (Ex ex_l ex_t fresh_back)
open LamX (CodeO TabB)
abbrev s__law_right : Stmt := top 28
theorem sc__law_right : FnScope ["_law_well", "_law_k", "_law_channel", "_law_other", "_law_net", "_law_wide", "_law_one", "_law_size", "_law_odd", "_law_more"] ["_law_well", "_law_k"] (defScope s__law_right) := ⟨rfl, rfl, rfl, by decide +kernel, rfl, by decide +kernel, by decide +kernel⟩
abbrev s_law : Stmt := top 29
theorem sc_law : FnScope ["_law_script", "_law_k", "_law_cell"] ["_law_script"] (defScope s_law) := ⟨rfl, rfl, rfl, by decide +kernel, rfl, by decide +kernel, by decide +kernel⟩
/-- the name of the lambdas of _law_right -/
def qR (c : Addr) : Str := (envOfC "_law_right" (defScope s__law_right) 0 0 (.ref c)).qual ++ "<lambda>"
def spRight (P R : Addr) (q r : Str) : Sp := fun vs H Q _ => ∃ (W : Addr) (a b d : Int) (x : V) (G : Hp) (ps rs : Array Value), vs = [.ref W, x] ∧ Own G [(W, wl a b d), (P, .tbl ps), (R, .tbl rs)] H ∧ TabG G ps q ∧ TabG G rs r ∧
  ∀ H' G' ps' rs', Ex (noT G) G' → Own G' [(P, .tbl ps'), (R, .tbl rs')] H' → TabG G' ps' q → TabG G' rs' r → Q (.bl true) H'
def spLaw (P R : Addr) (K : PySem.W.Frag) : Sp := fun vs H Q _ => ∃ (a : Addr) (ns : List Int), vs = [.ref a] ∧ SqL K H a (ns.map V.int) ∧ ns.length ≤ 63 ∧ P ≠ R ∧ H P = some (.tbl #[]) ∧ H R = some (.tbl #[]) ∧ ∀ H', Q (.bl true) H'
theorem n_dnewG {G H : Hp} {L : List (Addr × HO)} {σ : L2.St} {Q : VK} (S : Own G L H) (k : ∀ p G1 H1, Ex G G1 → G1 p = some (.dT []) → Own G1 L H1 → Q (.ref p) H1) : tDNewT σ H Q :=
  fun p hp => k p _ _ (S.lay hp).freeze.2.1 (S.lay hp).freeze.2.2 (S.lay hp).freeze.1
/-- an odd value for a smallest network -/
def BadC (off : Bool) (G : Hp) (v : V) : Prop := ∃ t, OddV G v t ∧ BadT off v t
theorem badc_int {off : Bool} {G : Hp} {i : Int} (h : i < 1 ∨ 60 < i ∨ ∃ c : Nat, i = (c : Int) + 1 ∧ 60 < fw off c) : BadC off G (.int i) := ⟨_, .int i, fun _ => ⟨i, rfl, h⟩⟩
theorem badc_of {off : Bool} {G : Hp} {v : V} {t : String} (h : OddV G v t) (ne : t ≠ "int") : BadC off G v := ⟨t, h, fun e => absurd e ne⟩
section
variable {P : Program} {w : World} {K : PySem.W.Frag} {mg : Str → Option Value} {base : Heap} {C CCh c P1 P2 : Addr} {q1 : Str}
theorem ok_right {f : Addr} {fd : FuncData} (F : FunC K "_law_right" "_law_right" s__law_right f fd c) (T : Txt mg) (NC : NetC K C) (m_Network : mg "Network" = some (.ref C)) (TB : TabB base mg c P2) (ne : P1 ≠ P2)
    (M_len : Mth P w K mg base 1 C "__len__" ["self"] (spLen C)) (M_links : Mth P w K mg base 1 C "links" ["self"] (spLinks C)) (M_eq : Mth P w K mg base 3 C "__eq__" ["self", "other"] (spEqN C))
    (c__law_draw : Cal P w K mg base 1 "_law_draw" ["_law_well", "_law_limit"] [] spDraw) (c__law_fewest : Cal P w K mg base 1 "_law_fewest" ["_law_channel", "_law_is_off"] [] spLFew) (c__law_is_whole : Cal P w K mg base 3 "_law_is_whole" ["_law_net"] [] (spWhole C))
    (c__law_near : Cal P w K mg base 1 "_law_near" ["_law_size", "_law_links"] [] spNear) (c__law_table : Cal P w K mg base 2 "_law_table" ["_law_near_here"] [] (spTableL K)) (c__law_branch : Cal P w K mg base 10 "_law_branch" ["_law_near_here", "_law_station", "_law_above"] [] (spBr K 8))
    (c_fibonacci_tree : Cal P w K mg base 11 "fibonacci_tree" ["channel"] [] (spTree1 C true)) (c_doubling_tree : Cal P w K mg base 11 "doubling_tree" ["channel"] [] (spTree1 C false))
    (c_fibonacci_treex : Cal P w K mg base 11 "fibonacci_tree" ["channel"] [] (spTree1X C CCh true)) (c_doubling_treex : Cal P w K mg base 11 "doubling_tree" ["channel"] [] (spTree1X C CCh false))
    (L__law_said : LamDef P w K mg base "_law_said" "_law_call" (SaidT1 CCh)) (c__law_asked_right : Cal P w K mg base 14 "_law_asked_right" ["_law_channel"] [] (spAsk P1 P2 q1 (qR c))) :
    FnOk P w K mg base CX0 15 f fd ["_law_well", "_law_k"] (spRight P1 P2 q1 (qR c)) := by
  have hmT : (P2, qR c) ∈ [(P1, q1), (P2, qR c)] := by simp
  have huT := (two_u (q := q1) (r := qR c) ne).2
  refine F.ok sc__law_right (fun vs H Q E h => ?_) (fun A outer s H vs Q E hr h => ?_)
  · obtain ⟨W, a, b, d, x, G, ps, rs, rfl, _⟩ := h
    rfl
  · obtain ⟨W, a, b, d, x, G, ps, rs, rfl, S0, tg, tr, k⟩ := h
    have hu65 : ∀ X : Cx, X.A = A.deeper (envOfC "_law_right" (defScope s__law_right) s.heap.objs.size f (.ref c)) → X.A.units + 65 < cLine := fun X e => by rw [e]; have := hr.un; omega
    refine ⟨_, (pss_cons (ps_par (i := 2) (j := 3) rfl sc__law_right.nd rfl rfl (by decide) rfl rfl (pa_cons (pe_op op_add pe_int (pe_cal c__law_draw (hr.mono (by first | decide | omega)) passN (pa_cons (pv 0) (pa_cons pe_int pa_nil)))) (pa_cons (pe_op op_add pe_int (pe_cal c__law_draw (hr.mono (by first | decide | omega)) passN (pa_cons (pv 0) (pa_cons pe_int pa_nil)))) pa_nil)) rfl)
      (pss_cons (ps_par (i := 4) (j := 5) rfl sc__law_right.nd rfl rfl (by decide) rfl rfl (pa_cons (pe_cal c_fibonacci_tree (hr.mono (by first | decide | omega)) passN (pa_cons (pv 2) pa_nil)) (pa_cons (pe_cal c_doubling_tree (hr.mono (by first | decide | omega)) passN (pa_cons (pv 3) pa_nil)) pa_nil)) rfl)
      (pss_cons (ps_for PassesOwn.never rfl (pi_list (pe_lst (pa_cons (pe_tup (pa_cons (pv 4) (pa_cons (pe_cal c__law_fewest (hr.mono (by first | decide | omega)) passN (pa_cons (pv 2) (pa_cons pe_bl pa_nil))) pa_nil))) (pa_cons (pe_tup (pa_cons (pv 5) (pa_cons (pe_cal c__law_fewest (hr.mono (by first | decide | omega)) passN (pa_cons (pv 3) (pa_cons pe_bl pa_nil))) pa_nil))) pa_nil)))) (pg_tup (n := 2) rfl (pgs_cons (pg_name (i := 6) sc__law_right.nd rfl (Or.inl rfl)) (pgs_cons (pg_name (i := 7) sc__law_right.nd rfl (Or.inl rfl)) pgs_nil))) (pss_one (ps_if (PW.pt (pw_or (pt_not (pt_val (pe_callB call_isi (by rfl) T.n_isinstance (by decide +kernel) (pa_cons (pv 6) (pa_cons (pe_cls m_Network) pa_nil))))) (pw_or (pt_cmpR op_ne (pe_callB (call_lenNet NC M_len (hr.mono (by first | decide | omega))) (by rfl) T.n_len (by decide +kernel) (pa_cons (pv 6) pa_nil)) (pv 7) (nomark _)) (pw_or1 (pt_not (pt_val (pe_cal c__law_is_whole (hr.mono (by first | decide | omega)) passN (pa_cons (pv 6) pa_nil)))))))) (pss_one (ps_ret pe_bl)) pss_nil)))
      (pss_cons (ps_if (PW.pt (pw_or (pt_cmpR op_ne (pe_ix ix_list (pe_cal c__law_table (hr.mono (by first | decide | omega)) passN (pa_cons (pe_cal c__law_near (hr.mono (by first | decide | omega)) passN (pa_cons (pe_callB (call_lenNet NC M_len (hr.mono (by first | decide | omega))) (by rfl) T.n_len (by decide +kernel) (pa_cons (pv 4) pa_nil)) (pa_cons (pe_mth0 (pv 4) M_links NC.cl (hr.mono (by first | decide | omega)) passN) pa_nil))) pa_nil)) pe_int (fun _ _ => rfl)) (pv 2) (nomark _)) (pw_or1 (pt_cmpR (op_neNet NC M_eq (hr.mono (by first | decide | omega))) (pe_cal c_fibonacci_tree (hr.mono (by first | decide | omega)) passN (pa_cons (pv 2) pa_nil)) (pv 4) (nomark _))))) (pss_one (ps_ret pe_bl)) pss_nil)
      (pss_cons (ps_if (PW.pt (pw_or (pt_cmpR op_ne (pe_cal c__law_branch (hr.mono (by first | decide | omega)) passN (pa_cons (pe_cal c__law_near (hr.mono (by first | decide | omega)) passN (pa_cons (pe_callB (call_lenNet NC M_len (hr.mono (by first | decide | omega))) (by rfl) T.n_len (by decide +kernel) (pa_cons (pv 5) pa_nil)) (pa_cons (pe_mth0 (pv 5) M_links NC.cl (hr.mono (by first | decide | omega)) passN) pa_nil))) (pa_cons pe_int (pa_cons (pe_un un_neg pe_int) pa_nil)))) (pv 3) (nomark _)) (pw_or1 (pt_cmpR (op_neNet NC M_eq (hr.mono (by first | decide | omega))) (pe_cal c_doubling_tree (hr.mono (by first | decide | omega)) passN (pa_cons (pv 3) pa_nil)) (pv 5) (nomark _))))) (pss_one (ps_ret pe_bl)) pss_nil)
      (pss_cons (ps_set (i := 8) sc__law_right.nd rfl (Or.inr rfl) (pe_ix ix_list (pe_lst (pa_cons pe_non (pa_cons pe_int (pa_cons (pe_un un_neg pe_int) (pa_cons pe_int (pa_cons pe_bl (pa_cons pe_str (pa_cons (pe_lst (pa_cons pe_int pa_nil)) (pa_cons (pe_tup (pa_cons pe_int pa_nil)) (pa_cons pe_dnewT (pa_cons (pe_op op_pow pe_int pe_int) pa_nil))))))))))) (pe_cal c__law_draw (hr.mono (by first | decide | omega)) passN (pa_cons (pv 0) (pa_cons pe_int pa_nil))) (fun _ _ => rfl)))
      (pss_cons (ps_if (pt_cmpR (op_neSm (K := K) (Nat.lt_of_le_of_lt (Nat.le_add_right _ _) (hu65 _ rfl))) (pe_lamS (k := 11) L__law_said TB hmT huT (hr.mono (by first | decide | omega)) (fun A outer s H E f c' hr => (pe_cal c_fibonacci_treex (hr.mono (by first | decide | omega)) (passE (takes_of rfl rfl rfl rfl) fun _ _ _ _ z => z) (pa_cons (pv 8) pa_nil))) (LamX.lamS_by (sc := defScope s__law_right) (by decide +kernel))) (pe_tup (pa_cons pe_str (pa_cons (pv 8) pa_nil))) (nomark _)) (pss_one (ps_ret pe_bl)) pss_nil)
      (pss_cons (ps_set (i := 8) sc__law_right.nd rfl (Or.inr rfl) (pe_ix ix_list (pe_lst (pa_cons pe_non (pa_cons pe_int (pa_cons (pe_un un_neg pe_int) (pa_cons pe_int (pa_cons pe_bl (pa_cons pe_str (pa_cons (pe_lst (pa_cons pe_int pa_nil)) (pa_cons (pe_tup (pa_cons pe_int pa_nil)) (pa_cons pe_dnewT (pa_cons (pe_op op_pow pe_int pe_int) pa_nil))))))))))) (pe_cal c__law_draw (hr.mono (by first | decide | omega)) passN (pa_cons (pv 0) (pa_cons pe_int pa_nil))) (fun _ _ => rfl)))
      (pss_cons (ps_if (pt_cmpR (op_neSm (K := K) (Nat.lt_of_le_of_lt (Nat.le_add_right _ _) (hu65 _ rfl))) (pe_lamS (k := 11) L__law_said TB hmT huT (hr.mono (by first | decide | omega)) (fun A outer s H E f c' hr => (pe_cal c_doubling_treex (hr.mono (by first | decide | omega)) (passE (takes_of rfl rfl rfl rfl) fun _ _ _ _ z => z) (pa_cons (pv 8) pa_nil))) (LamX.lamS_by (sc := defScope s__law_right) (by decide +kernel))) (pe_tup (pa_cons pe_str (pa_cons (pv 8) pa_nil))) (nomark _)) (pss_one (ps_ret pe_bl)) pss_nil)
      (pss_cons (ps_set (i := 9) sc__law_right.nd rfl (Or.inl rfl) (pe_ix ix_list (pe_lst (pa_cons pe_int (pa_cons pe_int (pa_cons pe_int (pa_cons (pe_op op_pow pe_int pe_int) (pa_cons (pe_op op_pow pe_int pe_int) pa_nil)))))) (pe_cal c__law_draw (hr.mono (by first | decide | omega)) passN (pa_cons (pv 0) (pa_cons pe_int pa_nil))) (fun _ _ => rfl)))
      (pss_one (ps_ret (pe_and (pe_cal c__law_asked_right (hr.mono (by first | decide | omega)) passN (pa_cons (pe_op op_add pe_int (pe_cal c__law_draw (hr.mono (by first | decide | omega)) passN (pa_cons (pv 0) (pa_cons pe_int pa_nil)))) pa_nil)) (pe_one (pe_cal c__law_asked_right (hr.mono (by first | decide | omega)) passN (pa_cons (pv 9) pa_nil)))))))))))))))), ?_⟩
    walk_at "go"
    refine n_draw S0 ⟨by decide, by decide⟩ fun r1 a1 b1 d1 H1 g1 l1 S1 => ?_
    obtain ⟨m, hm⟩ : ∃ m : Nat, 1 + r1 = (m : Int) + 1 := ⟨r1.toNat, by omega⟩
    walk_at "go"
    refine n_draw S1 ⟨by decide, by decide⟩ fun r2 a2 b2 d2 H2 g2 l2 S2 => ?_
    obtain ⟨o, ho⟩ : ∃ o : Nat, 1 + r2 = (o : Int) + 1 := ⟨r2.toNat, by omega⟩
    have w1 : fw true m ≤ 60 := Int.le_trans (fw_le true (show m ≤ 8 by omega)) (by decide +kernel)
    have w2 : fw false o ≤ 60 := Int.le_trans (fw_le false (show o ≤ 5 by omega)) (by decide +kernel)
    obtain ⟨n1, ok1, nd1⟩ := tree_facts w1
    obtain ⟨n2, ok2, nd2⟩ := tree_facts w2
    walk_at "go"
    rw [hm, ho]
    refine n_tree1 m S2 rfl w1 fun x3 G3 H3 _ e3 S3 N3 => ?_
    walk_at "go"
    refine n_tree1 o S3 rfl w2 fun x4 G4 H4 _ e4 S4 N4 => ?_
    have N3 := N3.mono e4
    walk_at "go"
    refine n_lfew m S4 rfl (by omega) fun H5 S5 => ?_
    walk_at "go"
    refine n_tup S5 (by show 2 ≤ 10000000; decide) fun t6 G6 H6 _ e6 _ ht6 S6 => ?_
    walk_at "go"
    refine n_lfew o S6 rfl (by omega) fun H7 S7 => ?_
    walk_at "go"
    refine n_tup S7 (by show 2 ≤ 10000000; decide) fun t8 G8 H8 _ e8 _ ht8 S8 => ?_
    walk_at "go"
    refine n_lstG S8 (by show 2 ≤ 10000000; decide) fun p9 G9 H9 _ e9 _ hp9 S9 => ?_
    have N3 := ((N3.mono e6).mono e8).mono e9
    have N4 := ((N4.mono e6).mono e8).mono e9
    refine w_list (xs := [V.ref t6, V.ref t8]) (fun i σ' H' => (∃ x6 x7 x8 x9, σ' = [some (.ref W), some x, some (.int ((m : Int) + 1)), some (.int ((o : Int) + 1)), some (.ref x3), some (.ref x4), x6, x7, x8, x9]) ∧ Own G9 [(W, wl a2 b2 d2), (P1, .tbl ps), (P2, .tbl rs)] H') (SqL.of (S9.ex _ _ hp9)) ⟨⟨_, _, _, _, rfl⟩, S9⟩ (fun i σ' H' h => SqL.of (h.2.ex _ _ hp9)) ?_ ?_
    · rintro i y σ' H' hy ⟨⟨x6, x7, x8, x9, rfl⟩, S⟩
      obtain ⟨t, xn, n, kks, off, cc, rfl, ht, N, en, hw⟩ : ∃ (t xn : Addr) (n : Nat) (kks : List Pr) (off : Bool) (cc : Nat), y = .ref t ∧ G9 t = some (.tup [.ref xn, .int (fw off cc)]) ∧ NetAt C G9 xn n kks ∧ (n : Int) = fw off cc ∧ whB (rgI 0 (n : Int)) kks = true := by
        match i, hy with
        | 0, hy => exact ⟨t6, x3, _, _, true, m, (Option.some.inj hy).symm, e9 _ _ (e8 _ _ ht6), N3, n1, wh31_ok true m (by omega) w1⟩
        | 1, hy => exact ⟨t8, x4, _, _, false, o, (Option.some.inj hy).symm, e9 _ _ ht8, N4, n2, wh31_ok false o (by omega) w2⟩
        | i + 2, hy => simp at hy
      refine s_gtup (SqT.of (S.ex _ _ ht)) rfl ?_
      walk_at "go"
      obtain ⟨dx, kp, np, xs, nps, oo⟩ := (N.mono S.ex).at_
      refine ⟨_, _, _, _, _, rfl, .own C, .base (.ins oo.ins NC.cl NC.ha NC.hn NC.ht NC.hm), NC.kit, ?_⟩
      walk_at "go"
      refine n_lenNet (N.mono S.ex) ?_
      walk_at "go"
      refine if_ff (ntrue en) ?_
      walk_at "go"
      refine ⟨xn, n, kks, rfl, N.mono S.ex, hw, fun H10 e10 => ?_⟩
      walk_at "go"
      exact ⟨⟨_, _, _, _, rfl⟩, S.grow e10⟩
    · rintro σ' H' ⟨⟨x6, x7, x8, x9, rfl⟩, S⟩
      walk_at "go"
      refine n_lenNet (N3.mono S.ex) ?_
      walk_at "go"
      refine ⟨(N3.mono S.ex).ins (by decide) (by decide), ?_⟩
      walk_at "go"
      refine n_links S N3 fun ys p10 G10 H10 hl10 _ e10 _ hp10 S10 => ?_
      walk_at "go"
      have hz1 : (sortP (treeL true m)).length ≤ 10000 := by rw [sortP_len]; unfold treeN at n1; omega
      have hz2 : (sortP (treeL false o)).length ≤ 10000 := by rw [sortP_len]; unfold treeN at n2; omega
      refine n_near S10 (S10.ex _ _ hp10) (hl10.mono S10.ex) ok1.sort (by omega) hz1 fun p11 G11 H11 _ e11 _ S11 NR11 => ?_
      walk_at "go"
      refine n_tableL S11 NR11 ok1.sort (by omega) hz1 fun t p12 G12 H12 ht e12 hp12 S12 => ?_
      have ht0 := tab_zero (by omega) ht ok1.sort
      walk_at "go"
      refine g_ixL (i := 0) (SqL.of (S12.ex _ _ hp12)) (at_tv (by omega) (by rw [ht.1]; have := (fw_pos true m).1; omega)) ?_
      walk_at "go"
      refine if_ff (ntrue ht0) ?_
      walk_at "go"
      refine n_tree1 m S12 rfl w1 fun x13 G13 H13 _ e13 S13 N13 => ?_
      have e913 := (e10.trans (e11.trans e12)).trans e13
      have N3 := N3.mono e913
      have N4 := N4.mono e913
      walk_at "go"
      refine n_neNet S13 N13 N3 fun H14 S14 => ?_
      walk_at "go"
      refine if_ff (ntrue ⟨rfl, rfl⟩) ?_
      walk_at "go"
      refine n_lenNet (N4.mono S14.ex) ?_
      walk_at "go"
      refine ⟨(N4.mono S14.ex).ins (by decide) (by decide), ?_⟩
      walk_at "go"
      refine n_links S14 N4 fun zs p15 G15 H15 hl15 _ e15 _ hp15 S15 => ?_
      walk_at "go"
      refine n_near S15 (S15.ex _ _ hp15) (hl15.mono S15.ex) ok2.sort (by omega) hz2 fun p16 G16 H16 _ e16 _ S16 NR16 => ?_
      walk_at "go"
      obtain ⟨br1, br2⟩ := br31_ok o (by omega)
      refine ⟨p16, _, _, 0, -1, rfl, NR16.mono S16.ex, ok2.sort, hz2, ⟨by omega, by have := (fw_pos false o).1; omega⟩, br1, fun H17 e17 => ?_⟩
      have S17 := S16.grow e17
      rw [br2]
      walk_at "go"
      refine if_ff (ntrue rfl) ?_
      walk_at "go"
      refine n_tree1 o S17 rfl w2 fun x18 G18 H18 _ e18 S18 N18 => ?_
      walk_at "go"
      refine n_neNet S18 N18 ((N4.mono e15).mono (e16.trans e18)) fun H19 S19 => ?_
      walk_at "go"
      refine if_ff (ntrue ⟨rfl, rfl⟩) ?_
      walk_at "go"
      have eG18 : Ex G G18 := (e3.trans e4).trans ((e6.trans (e8.trans e9)).trans (e913.trans ((e15.trans e16).trans e18)))
      have hL : ∀ a b d : Int, ∀ p ∈ [(W, wl a b d)], ∃ xs, p.2 = HO.lst xs := fun a b d p hp => by
        have : p = (W, wl a b d) := by simpa using hp
        subst this
        exact ⟨_, rfl⟩
      have hsm : ∀ z : V, sameV z = true → ∀ s : Str, ∀ u ∈ [V.str s, z], sameV u = true := fun z hz s u hu => by
        rcases List.mem_cons.mp hu with rfl | hu
        · rfl
        · have : u = z := by simpa using hu
          subst this
          exact hz
      refine n_lstG S19 (by show 1 ≤ 10000000; decide) fun pl G20 H20 _ e20 _ hpl S20 => ?_
      walk_at "go"
      refine n_tup S20 (by show 1 ≤ 10000000; decide) fun pt G21 H21 _ e21 _ hpt S21 => ?_
      walk_at "go"
      refine n_dnewG S21 fun pd G22 H22 e22 hpd S22 => ?_
      walk_at "go"
      refine g_I ⟨by decide, by decide, by decide⟩ ?_
      walk_at "go"
      refine n_lstG S22 (by show 10 ≤ 10000000; decide) fun p23 G23 H23 _ e23 _ hp23 S23 => ?_
      walk_at "go"
      refine n_draw S23 ⟨by decide, by decide⟩ fun r24 a24 b24 d24 H24 g24 l24 S24 => ?_
      obtain ⟨v, hv, tv1, ov, bv⟩ : ∃ v : V, atI [V.non, V.int 0, V.int (-1), V.int 10, V.bl true, V.str (Str.ofString "1"), V.ref pl, V.ref pt, V.ref pd, V.int (10 ^ (20 : Int).toNat)] r24 = some v ∧ BadC true G23 v := by
        have : r24 = 0 ∨ r24 = 1 ∨ r24 = 2 ∨ r24 = 3 ∨ r24 = 4 ∨ r24 = 5 ∨ r24 = 6 ∨ r24 = 7 ∨ r24 = 8 ∨ r24 = 9 := by omega
        rcases this with rfl | rfl | rfl | rfl | rfl | rfl | rfl | rfl | rfl | rfl
        · exact ⟨_, rfl, badc_of .non (by decide)⟩
        · exact ⟨_, rfl, badc_int (.inl (by decide))⟩
        · exact ⟨_, rfl, badc_int (.inl (by decide))⟩
        · exact ⟨_, rfl, badc_int (.inr (.inr ⟨9, rfl, by decide +kernel⟩))⟩
        · exact ⟨_, rfl, badc_of (.bl true) (by decide)⟩
        · exact ⟨_, rfl, badc_of (.str _) (by decide)⟩
        · exact ⟨_, rfl, badc_of (.lst (e23 _ _ (e22 _ _ (e21 _ _ hpl)))) (by decide)⟩
        · exact ⟨_, rfl, badc_of (.tup (e23 _ _ (e22 _ _ hpt))) (by decide)⟩
        · exact ⟨_, rfl, badc_of (.dct (e23 _ _ hpd)) (by decide)⟩
        · exact ⟨_, rfl, badc_int (.inr (.inl (by decide)))⟩
      have eG23 : Ex G G23 := eG18.trans (e20.trans (e21.trans (e22.trans e23)))
      walk_at "go"
      refine g_ixL (SqL.of (S24.ex _ _ hp23)) hv ?_
      walk_at "go"
      refine n_lam2 S24.rot.rot (tg.mono eG23) (tr.mono eG23) (hL _ _ _) fun G25 H25 ps25 rs25 e25 S25 tg25 tr25 => ?_
      have o25 := (ov.noT).mono e25
      intro E1 Q1 hE1 _
      walk_at "go"
      refine .inl ⟨v, tv1, rfl, o25.mono S25.ex, bv, fun dd H26 e26 hd => hE1 _ _ _ ⟨dd, v, rfl, rfl, hd, n_retG (S25.grow e26) fun p27 G27 H27 _ e27 _ hp27 S27 => ?_⟩⟩
      walk_at "go"
      refine n_tup S27 (by show 2 ≤ 10000000; decide) fun p28 G28 H28 _ e28 _ hp28 S28 => ?_
      refine n_sm (SqT.of (S28.ex _ _ (e28 _ _ hp27))) (SqT.of (S28.ex _ _ hp28)) (hsm v ov.sm _) ?_
      walk_at "go"
      have x28 : Ex (NX.noT G) G28 := ((NX.Ex.noT eG23).trans e25).trans (e27.trans e28)
      have tg28 := (tg25.mono e27).mono e28
      have tr28 := (tr25.mono e27).mono e28
      refine n_lstG S28.rot (by show 1 ≤ 10000000; decide) fun pl G30 H30 _ e30 _ hpl S30 => ?_
      walk_at "go"
      refine n_tup S30 (by show 1 ≤ 10000000; decide) fun pt G31 H31 _ e31 _ hpt S31 => ?_
      walk_at "go"
      refine n_dnewG S31 fun pd G32 H32 e32 hpd S32 => ?_
      walk_at "go"
      refine g_I ⟨by decide, by decide, by decide⟩ ?_
      walk_at "go"
      refine n_lstG S32 (by show 10 ≤ 10000000; decide) fun p33 G33 H33 _ e33 _ hp33 S33 => ?_
      walk_at "go"
      refine n_draw S33 ⟨by decide, by decide⟩ fun r34 a34 b34 d34 H34 g34 l34 S34 => ?_
      obtain ⟨u, hu, tu1, ou, bu⟩ : ∃ v : V, atI [V.non, V.int 0, V.int (-1), V.int 7, V.bl true, V.str (Str.ofString "1"), V.ref pl, V.ref pt, V.ref pd, V.int (10 ^ (20 : Int).toNat)] r34 = some v ∧ BadC false G33 v := by
        have : r34 = 0 ∨ r34 = 1 ∨ r34 = 2 ∨ r34 = 3 ∨ r34 = 4 ∨ r34 = 5 ∨ r34 = 6 ∨ r34 = 7 ∨ r34 = 8 ∨ r34 = 9 := by omega
        rcases this with rfl | rfl | rfl | rfl | rfl | rfl | rfl | rfl | rfl | rfl
        · exact ⟨_, rfl, badc_of .non (by decide)⟩
        · exact ⟨_, rfl, badc_int (.inl (by decide))⟩
        · exact ⟨_, rfl, badc_int (.inl (by decide))⟩
        · exact ⟨_, rfl, badc_int (.inr (.inr ⟨6, rfl, by decide +kernel⟩))⟩
        · exact ⟨_, rfl, badc_of (.bl true) (by decide)⟩
        · exact ⟨_, rfl, badc_of (.str _) (by decide)⟩
        · exact ⟨_, rfl, badc_of (.lst (e33 _ _ (e32 _ _ (e31 _ _ hpl)))) (by decide)⟩
        · exact ⟨_, rfl, badc_of (.tup (e33 _ _ (e32 _ _ hpt))) (by decide)⟩
        · exact ⟨_, rfl, badc_of (.dct (e33 _ _ hpd)) (by decide)⟩
        · exact ⟨_, rfl, badc_int (.inr (.inl (by decide)))⟩
      have e2833 : Ex G28 G33 := e30.trans (e31.trans (e32.trans e33))
      walk_at "go"
      refine g_ixL (SqL.of (S34.ex _ _ hp33)) hu ?_
      walk_at "go"
      refine n_lam2 S34.rot.rot (tg28.mono e2833) (tr28.mono e2833) (hL _ _ _) fun G35 H35 ps35 rs35 e35 S35 tg35 tr35 => ?_
      have o35 := (ou.noT).mono e35
      intro E2 Q2 hE2 _
      walk_at "go"
      refine .inl ⟨u, tu1, rfl, o35.mono S35.ex, bu, fun dd H36 e36 hd => hE2 _ _ _ ⟨dd, u, rfl, rfl, hd, n_retG (S35.grow e36) fun p37 G37 H37 _ e37 _ hp37 S37 => ?_⟩⟩
      walk_at "go"
      refine n_tup S37 (by show 2 ≤ 10000000; decide) fun p38 G38 H38 _ e38 _ hp38 S38 => ?_
      refine n_sm (SqT.of (S38.ex _ _ (e38 _ _ hp37))) (SqT.of (S38.ex _ _ hp38)) (hsm u ou.sm _) ?_
      walk_at "go"
      refine g_I ⟨by decide, by decide, by decide⟩ ?_
      walk_at "go"
      refine g_I ⟨by decide, by decide, by decide⟩ ?_
      walk_at "go"
      refine n_lstG S38.rot (by show 5 ≤ 10000000; decide) fun p39 G39 H39 _ e39 _ hp39 S39 => ?_
      walk_at "go"
      refine n_draw S39 ⟨by decide, by decide⟩ fun r40 a40 b40 d40 H40 g40 l40 S40 => ?_
      obtain ⟨mo, hmo⟩ : ∃ mo : Nat, atI [V.int 71, V.int 100, V.int 400, V.int (10 ^ (12 : Int).toNat), V.int (10 ^ (30 : Int).toNat)] r40 = some (.int ((mo : Int) + 1)) := by
        have : r40 = 0 ∨ r40 = 1 ∨ r40 = 2 ∨ r40 = 3 ∨ r40 = 4 := by omega
        rcases this with rfl | rfl | rfl | rfl | rfl
        · exact ⟨70, rfl⟩
        · exact ⟨99, rfl⟩
        · exact ⟨399, rfl⟩
        · exact ⟨10 ^ 12 - 1, by decide +kernel⟩
        · exact ⟨10 ^ 30 - 1, by decide +kernel⟩
      walk_at "go"
      refine g_ixL (SqL.of (S40.ex _ _ hp39)) hmo ?_
      walk_at "go"
      refine n_draw S40 ⟨by decide, by decide⟩ fun r41 a41 b41 d41 H41 g41 l41 S41 => ?_
      obtain ⟨fi, hfi⟩ : ∃ fi : Nat, 1 + r41 = (fi : Int) + 1 := ⟨r41.toNat, by omega⟩
      walk_at "go"
      obtain ⟨S42, e42, _⟩ := S41.freeze
      have x38 : Ex (NX.noT G) G38 := ((NX.Ex.noT' (x28.trans e2833)).trans e35).trans (e37.trans e38)
      have e3942 := e39.trans e42
      refine n_ask fi hfi S42 (((tg35.mono e37).mono e38).mono e3942) (((tr35.mono e37).mono e38).mono e3942) fun H43 G43 ps43 rs43 e43 S43 tg43 tr43 => ?_
      walk_at "go"
      refine n_ask mo rfl S43 tg43 tr43 fun H44 G44 ps44 rs44 e44 S44 tg44 tr44 => ?_
      exact k H44 G44 ps44 rs44 (NX.Ex.noT' ((NX.Ex.noT' (x38.trans e3942)).trans e43) |>.trans e44) S44 tg44 tr44
theorem sq_cut {H : Hp} {a P : Addr} {xs : List V} {ps : Array Value} (hP : H P = some (.tbl ps)) (h : SqL K H a xs) : SqL K (cut H [(P, .tbl ps)]) a xs := by
  have ne : ∀ o, H a = some o → (∀ qs, o ≠ .tbl qs) → cut H [(P, .tbl ps)] a = some o := fun o e n => by
    rw [cut_out]
    · exact e
    · intro m
      have : a = P := by simpa using m
      rw [this, hP] at e
      exact n ps (Option.some.inj e).symm
  rcases h with (h | ⟨o, h⟩) | h
  · exact .inl (.inl (ne _ h fun qs z => by cases z))
  · exact .inl (.inr ⟨o, ne _ h fun qs z => by cases z⟩)
  · exact .inr h
theorem ok_law {f : Addr} {fd : FuncData} {q1 q2 : Str} (F : Fun K "law" "law" s_law f fd) (T : Txt mg) (NC : NetC K C) (M_len : Mth P w K mg base 1 C "__len__" ["self"] (spLen C)) (c__law_right : Cal P w K mg base 15 "_law_right" ["_law_well", "_law_k"] [] (spRight P1 P2 q1 q2))
    (c_fibonacci_tree : Cal P w K mg base 11 "fibonacci_tree" ["channel"] [] (spTree1 C true)) (c_doubling_tree : Cal P w K mg base 11 "doubling_tree" ["channel"] [] (spTree1 C false)) : FnOk P w K mg base CX0 16 f fd ["_law_script"] (spLaw P1 P2 K) := by
  refine F.ok sc_law (fun vs H Q E h => ?_) (fun cdv A outer s H vs Q E hr h => ?_)
  · obtain ⟨a, ns, rfl, _⟩ := h
    rfl
  · obtain ⟨a, ns, rfl, hS, hn, hne, hP, hR, k⟩ := h
    have S00 := Own.give (o := .tbl #[]) hR
    have hS00 := sq_cut hR hS
    have hP0 : cut H [(P2, HO.tbl #[])] P1 = some (.tbl #[]) := by rw [cut_out (by simpa using hne)]; exact hP
    generalize cut H [(P2, HO.tbl #[])] = G00 at S00 hS00 hP0
    obtain ⟨S0, kk⟩ := S00.thaw hP0
    have hS0 : SqL K (cut G00 [(P1, HO.tbl #[])]) a (ns.map V.int) := sq_cut hP0 hS00
    generalize cut G00 [(P1, HO.tbl #[])] = G0 at S0 hS0
    refine ⟨_, (pss_cons (ps_for PassesOwn.never rfl (pi_enum (by rfl) T.n_enumerate (pa_cons (pe_slice sl_list (pe_op op_catL (pv 0) (pe_lst (pa_cons pe_int pa_nil))) po_none (po_some pe_int)) pa_nil)) (pg_tup (n := 2) rfl (pgs_cons (pg_name (i := 1) sc_law.nd rfl (Or.inl rfl)) (pgs_cons (pg_name (i := 2) sc_law.nd rfl (Or.inl rfl)) pgs_nil))) (pss_one (ps_if (pt_not (pt_val (pe_cal c__law_right (hr.mono (by first | decide | omega)) passN (pa_cons (pe_lst (pa_cons (pe_op op_mul (pv 2) (pe_callTy call_intN (by rfl) T.n_int (by decide +kernel) (pa_cons (pe_cmpR op_ge (pv 2) (pe_op op_pow pe_int pe_int) (nomark _)) pa_nil))) (pa_cons (pe_op op_add (pe_op op_mod (pv 2) pe_int) (pe_op op_mul pe_int (pv 1))) (pa_cons pe_int pa_nil)))) (pa_cons (pv 1) pa_nil))))) (pss_one (ps_ret pe_bl)) pss_nil)))
      (pss_one (ps_ret (pe_and (pe_cmpR op_eq (pe_callB (call_lenNet NC M_len (hr.mono (by first | decide | omega))) (by rfl) T.n_len (by decide +kernel) (pa_cons (pe_cal c_fibonacci_tree (hr.mono (by first | decide | omega)) passN (pa_cons pe_int pa_nil)) pa_nil)) pe_int (nomark _)) (pe_one (pe_cmpR op_eq (pe_callB (call_lenNet NC M_len (hr.mono (by first | decide | omega))) (by rfl) T.n_len (by decide +kernel) (pa_cons (pe_cal c_doubling_tree (hr.mono (by first | decide | omega)) passN (pa_cons pe_int pa_nil)) pa_nil)) pe_int (nomark _))))))), ?_⟩
    walk_at "go"
    refine n_lstG S0 (by show 1 ≤ 10000000; decide) fun p G1 H1 _ e1 _ hp S1 => ?_
    walk_at "go"
    refine n_catG S1 (S1.sl (ex_l e1 hS0)) (SqL.of (S1.ex _ _ hp)) (by rw [List.length_map]; simp; omega) fun q2' G2 H2 _ e2 _ hq S2 => ?_
    walk_at "go"
    refine n_sl S2 (SqL.of (S2.ex _ _ hq)) fun t G3 H3 _ e3 _ ht S3 => ?_
    have hc : cutV (ns.map V.int ++ [.int 0]) none (some ((4 : Nat) : Int)) = ((ns ++ [0]).take 4).map V.int := by
      rw [cutV_to, List.map_take, List.map_append] <;> rfl
    have ht : G3 t = some (.lst (((ns ++ [0]).take 4).map V.int)) := ht.trans (by rw [← hc] <;> rfl)
    walk_at "go"
    refine w_enum (fun i σ' H' => (∃ x y, σ' = [some (.ref a), x, y]) ∧ ∃ G' ps rs, Own G' [(P1, .tbl ps), (P2, .tbl rs)] H' ∧ TabG G' ps q1 ∧ TabG G' rs q2 ∧ G' t = some (.lst (((ns ++ [0]).take 4).map V.int))) (SqL.of (S3.ex _ _ ht)) ⟨⟨_, _, rfl⟩, G3, _, _, S3, .nil _ _, .nil _ _, ht⟩ (fun i σ' H' ⟨_, G', ps, rs, S, _, _, ht'⟩ => SqL.of (S.ex _ _ ht')) ?_ ?_
    · rintro i x T' σ' H' hx ⟨⟨x0, y0, rfl⟩, G', ps, rs, S, tg, tr, ht'⟩ hT
      obtain ⟨z, _, rfl⟩ := get_map hx
      have S4 := S.grow (Ex.new (o := .tup [.int (i : Int), .int z]) hT)
      refine s_gtup (SqT.of upd_same) rfl ?_
      walk_at "go"
      refine g_I ⟨by decide, by decide, by decide⟩ ?_
      walk_at "go"
      refine g_I (.inr (by split <;> decide)) ?_
      walk_at "go"
      refine g_I (by decide) ?_
      walk_at "go"
      refine g_I (.inl ⟨by decide, by decide⟩) ?_
      walk_at "go"
      refine n_lst S4 (by show 3 ≤ 10000000; decide) fun W H5 hW S5 => ?_
      walk_at "go"
      refine ⟨W, _, _, _, _, G', ps, rs, rfl, S5, tg, tr, fun H6 G6 ps6 rs6 e6 S6 tg6 tr6 => ?_⟩
      walk_at "go"
      exact ⟨⟨_, _, rfl⟩, G6, ps6, rs6, S6, tg6, tr6, e6 _ _ (noT_of ht' fun qs z => by cases z)⟩
    · rintro σ' H' ⟨⟨x, y, rfl⟩, G', ps, rs, S, tg, tr, ht'⟩
      walk_at "go"
      refine n_tree1 (off := true) 3 S rfl (by decide +kernel) fun x5 G5 H5 _ e5 S5 N5 => ?_
      walk_at "go"
      refine n_lenNet (N5.mono S5.ex) ?_
      walk_at "go"
      refine if_tt (dtrue (by decide +kernel)) ?_
      walk_at "go"
      refine n_tree1 (off := false) 3 S5 rfl (by decide +kernel) fun x6 G6 H6 _ e6 S6 N6 => ?_
      walk_at "go"
      refine n_lenNet (N6.mono S6.ex) ?_
      walk_at "go"
      rw [dtrue (by decide +kernel)]
      exact k _
end
end NX

namespace NX
open PySem PySem.Spec PyProof.Rows L2
section
variable {P : Program} {w : World} {K : PySem.W.Frag} {mg : Str → Option Value} {base : Heap}
theorem mkCal {x : Str} {f : Addr} {fd : FuncData} {k : Nat} {ps : List Str} {sp : Sp} (F : FnOk P w K mg base (L2.CX P w) k f fd ps sp) (g : mg x = some (.ref f)) (kp : PySem.W.keepIn K (.ref f) = true) (b : Binds K fd ps []) : Cal P w K mg base k x ps [] sp := ⟨f, fd, [], F, g, kp, b, .nil⟩
/-- how a plain def binds keywords -/
theorem fun_kbn {x qual : Str} {st : Stmt} {f : Addr} {fd : FuncData} {ps ks : List Str} {n : Nat} {g : List Value → List Value → List Value} {gV : List V → List V → List V} (F : Fun K x qual st f fd)
    (hrel : ∀ {vs : List V} {us : List Value} {zs : List V} {ws : List Value}, Vals vs us → Vals zs ws → Vals (gV vs zs) (g us ws))
    (h : ∀ (kV doc pm : Value) (an : Option Addr) (cdv ct : Value) (us ws : List Value), us.length = n → ws.length = ks.length → bindArgs (PySem.W.fnOf x qual (defArgs st) (defBody st) (defScope st) .none kV doc pm an cdv ct) ⟨us, ks.zip ws⟩ = pure (ps.zip (g us ws))) : KBn K fd ps n ks g gV := by
  obtain ⟨oc, od, kV, doc, pm, an, cdv, ct, osl, rfl, lk, hcd⟩ := F.ex
  exact ⟨fun s us ws _ h1 h2 => .of_eq (h kV doc pm an cdv ct us ws h1 h2), hrel⟩
theorem mkCalK {x : Str} {f : Addr} {fd : FuncData} {k n : Nat} {ps ks : List Str} {g : List Value → List Value → List Value} {gV : List V → List V → List V} {sp : Sp} (F : FnOk P w K mg base (L2.CX P w) k f fd ps sp) (hm : mg x = some (.ref f)) (kp : PySem.W.keepIn K (.ref f) = true) (b : KBn K fd ps n ks g gV) :
    CalK P w K mg base k x ps n ks gV sp := ⟨f, fd, g, F, hm, kp, b⟩
theorem walk {l : PySem.W.OpenLaw} {q : Program} {loose : List Str} {XP : (Str → Option Value) → Heap → Prop} {YP : World → Heap → Prop} {d : DefRec} {K : Params → PySem.W.Frag} {k : Nat} (hn : l.most = some 63) (hdf : d.params.defaults = []) (hr : Room k callerA)
    (hY : ∀ (w : World) (h : Heap), YP w h → (K w.params).In h) {sp : PySem.W.Frag → Sp}
    (F : ∀ (w : World) (mg : Str → Option Value) (fa : Addr) (h : Heap), (K w.params).In h → h.Ns mainGlobals mg → mg d.name = some (.ref fa) →
      ∃ fd : FuncData, (∀ (s : Shared) (u : Value), BindsTo s fd ⟨[u], []⟩ [("_law_script", u)]) ∧ ∀ base : Heap, (K w.params).In base → base.Ns mainGlobals mg → FnOk l.prog w (K w.params) mg base CX0 k fa fd ["_law_script"] (sp (K w.params)))
    (hsp : ∀ (K : PySem.W.Frag) (H : Hp) (a : Addr) (ns : List Int), ns.length ≤ 63 → SqL K H a (ns.map V.int) → sp K [.ref a] H (fun v _ => v = .bl true) fun _ _ _ => False) :
    PySem.W.WalkO q loose XP YP l.row.toRowW d [] (fun f vs => PySem.call f vs) :=
  L2.walk_of (n := 63) (k := k) (x := "_law_script") (CX := fun _ => CX0) (sp := fun w => sp (K w.params)) hn (by decide) hdf hr hY F (fun w _ a ns hl _ hS => hsp (K w.params) _ a ns hl hS) fun _ _ _ _ _ z => z
end
end NX


namespace NX
open PySem PySem.Spec PyProof.Rows L2
theorem all_mk {l : PySem.W.OpenLaw} {w : World} {K : PySem.W.Frag} {h : Heap} {mg : Str → Option Value} {fa f_is_int f_is_link f_grown f_tree f_fibonacci_tree f_doubling_tree f__law_draw f__law_near f__law_chain f__law_table f__law_branch f__law_fewest f__law_said f__law_is_whole f__law_asked_right f__law_right f_law f_fewest_stations D_fewest_stations C f_M_init f_M_len f_M_eq f_M_links C0 C_NoChannel f_I_NoChannel C_NoNetwork C_HasRing C_NoStation cA__law_asked_right Pt__law_asked_right cA__law_right Pt__law_right : Addr} (X : K.In h) (G : h.Ns mainGlobals mg) (hfa : mg "law" = some (.ref fa))
    {od_is_int an_is_int od_is_link an_is_link od_grown an_grown od_tree an_tree od_fibonacci_tree an_fibonacci_tree od_doubling_tree an_doubling_tree od__law_draw an__law_draw od__law_near an__law_near od__law_chain an__law_chain od__law_table an__law_table od__law_branch an__law_branch od__law_fewest an__law_fewest od__law_said an__law_said od__law_is_whole an__law_is_whole od__law_asked_right an__law_asked_right od__law_right an__law_right od_law an_law od_fewest_stations an_fewest_stations od_M_init an_M_init od_M_len an_M_len od_M_eq an_M_eq od_M_links an_M_links od_I_NoChannel an_I_NoChannel : Option Addr} {sl_is_int sl_is_link sl_grown sl_tree sl_fibonacci_tree sl_doubling_tree sl__law_draw sl__law_near sl__law_chain sl__law_table sl__law_branch sl__law_fewest sl__law_said sl__law_is_whole sl__law_asked_right sl__law_right sl_law sl_fewest_stations sl_M_init sl_M_len sl_M_eq sl_M_links sl_I_NoChannel : Array (Option Value)} {oc_is_int dc_is_int pm_is_int cd_is_int ct_is_int kV_is_int oc_is_link dc_is_link pm_is_link cd_is_link ct_is_link kV_is_link oc_grown dc_grown pm_grown cd_grown ct_grown kV_grown oc_tree dc_tree pm_tree cd_tree ct_tree kV_tree oc_fibonacci_tree dc_fibonacci_tree pm_fibonacci_tree cd_fibonacci_tree ct_fibonacci_tree kV_fibonacci_tree oc_doubling_tree dc_doubling_tree pm_doubling_tree cd_doubling_tree ct_doubling_tree kV_doubling_tree oc__law_draw dc__law_draw pm__law_draw cd__law_draw ct__law_draw kV__law_draw oc__law_near dc__law_near pm__law_near cd__law_near ct__law_near kV__law_near oc__law_chain dc__law_chain pm__law_chain cd__law_chain ct__law_chain kV__law_chain oc__law_table dc__law_table pm__law_table cd__law_table ct__law_table kV__law_table oc__law_branch dc__law_branch pm__law_branch cd__law_branch ct__law_branch kV__law_branch oc__law_fewest dc__law_fewest pm__law_fewest cd__law_fewest ct__law_fewest kV__law_fewest oc__law_said dc__law_said pm__law_said cd__law_said ct__law_said kV__law_said oc__law_is_whole dc__law_is_whole pm__law_is_whole cd__law_is_whole ct__law_is_whole kV__law_is_whole oc__law_asked_right dc__law_asked_right pm__law_asked_right cd__law_asked_right ct__law_asked_right kV__law_asked_right oc__law_right dc__law_right pm__law_right cd__law_right ct__law_right kV__law_right oc_law dc_law pm_law cd_law ct_law kV_law oc_fewest_stations dc_fewest_stations pm_fewest_stations cd_fewest_stations ct_fewest_stations oc_M_init dc_M_init pm_M_init cd_M_init ct_M_init kV_M_init oc_M_len dc_M_len pm_M_len cd_M_len ct_M_len kV_M_len oc_M_eq dc_M_eq pm_M_eq cd_M_eq ct_M_eq kV_M_eq oc_M_links dc_M_links pm_M_links cd_M_links ct_M_links kV_M_links oc_I_NoChannel dc_I_NoChannel pm_I_NoChannel cd_I_NoChannel ct_I_NoChannel kV_I_NoChannel : Value} {t_MAX_CHANNEL t_MAX_STATIONS : Tok} {nm_NoChannel q_NoChannel : Str} {N_NoChannel : Addr} {bs_NoChannel sub_NoChannel : List Value} {sn_NoChannel : List Str} {ab_NoChannel : Bool} {col_NoChannel : Option Bool} {dd_NoChannel : Option Addr} {m0_NoChannel m1_NoChannel m2_NoChannel m3_NoChannel m5_NoChannel : Option Value}
    (z_all : PySem.W.nsIn K mainGlobals "all" = some none)
    (z_bool : PySem.W.nsIn K mainGlobals "bool" = some none)
    (z_enumerate : PySem.W.nsIn K mainGlobals "enumerate" = some none)
    (z_int : PySem.W.nsIn K mainGlobals "int" = some none)
    (z_isinstance : PySem.W.nsIn K mainGlobals "isinstance" = some none)
    (z_len : PySem.W.nsIn K mainGlobals "len" = some none)
    (z_list : PySem.W.nsIn K mainGlobals "list" = some none)
    (z_max : PySem.W.nsIn K mainGlobals "max" = some none)
    (z_range : PySem.W.nsIn K mainGlobals "range" = some none)
    (z_sorted : PySem.W.nsIn K mainGlobals "sorted" = some none)
    (z_sum : PySem.W.nsIn K mainGlobals "sum" = some none)
    (z_tuple : PySem.W.nsIn K mainGlobals "tuple" = some none)
    (v_MAX_CHANNEL : PySem.W.nsIn K mainGlobals "MAX_CHANNEL" = some (some (.int 60 t_MAX_CHANNEL)))
    (v_MAX_STATIONS : PySem.W.nsIn K mainGlobals "MAX_STATIONS" = some (some (.int 60 t_MAX_STATIONS)))
    (a_is_int : PySem.W.nsIn K mainGlobals "is_int" = some (some (.ref f_is_int)))
    (l_is_int : K.lookup f_is_int = some ⟨oc_is_int, od_is_int, .func (PySem.W.fnOf "is_int" "is_int" (defArgs s_is_int) (defBody s_is_int) (defScope s_is_int) .none kV_is_int dc_is_int pm_is_int an_is_int cd_is_int ct_is_int), sl_is_int⟩)
    (c_is_int : PySem.W.codeIn K cd_is_int "is_int" = true)
    (k_is_int : PySem.W.keepIn K (.ref f_is_int) = true)
    (a_is_link : PySem.W.nsIn K mainGlobals "is_link" = some (some (.ref f_is_link)))
    (l_is_link : K.lookup f_is_link = some ⟨oc_is_link, od_is_link, .func (PySem.W.fnOf "is_link" "is_link" (defArgs s_is_link) (defBody s_is_link) (defScope s_is_link) .none kV_is_link dc_is_link pm_is_link an_is_link cd_is_link ct_is_link), sl_is_link⟩)
    (c_is_link : PySem.W.codeIn K cd_is_link "is_link" = true)
    (k_is_link : PySem.W.keepIn K (.ref f_is_link) = true)
    (a_grown : PySem.W.nsIn K mainGlobals "grown" = some (some (.ref f_grown)))
    (l_grown : K.lookup f_grown = some ⟨oc_grown, od_grown, .func (PySem.W.fnOf "grown" "grown" (defArgs s_grown) (defBody s_grown) (defScope s_grown) .none kV_grown dc_grown pm_grown an_grown cd_grown ct_grown), sl_grown⟩)
    (c_grown : PySem.W.codeIn K cd_grown "grown" = true)
    (k_grown : PySem.W.keepIn K (.ref f_grown) = true)
    (a_tree : PySem.W.nsIn K mainGlobals "tree" = some (some (.ref f_tree)))
    (l_tree : K.lookup f_tree = some ⟨oc_tree, od_tree, .func (PySem.W.fnOf "tree" "tree" (defArgs s_tree) (defBody s_tree) (defScope s_tree) .none kV_tree dc_tree pm_tree an_tree cd_tree ct_tree), sl_tree⟩)
    (c_tree : PySem.W.codeIn K cd_tree "tree" = true)
    (k_tree : PySem.W.keepIn K (.ref f_tree) = true)
    (a_fibonacci_tree : PySem.W.nsIn K mainGlobals "fibonacci_tree" = some (some (.ref f_fibonacci_tree)))
    (l_fibonacci_tree : K.lookup f_fibonacci_tree = some ⟨oc_fibonacci_tree, od_fibonacci_tree, .func (PySem.W.fnOf "fibonacci_tree" "fibonacci_tree" (defArgs s_fibonacci_tree) (defBody s_fibonacci_tree) (defScope s_fibonacci_tree) .none kV_fibonacci_tree dc_fibonacci_tree pm_fibonacci_tree an_fibonacci_tree cd_fibonacci_tree ct_fibonacci_tree), sl_fibonacci_tree⟩)
    (c_fibonacci_tree : PySem.W.codeIn K cd_fibonacci_tree "fibonacci_tree" = true)
    (k_fibonacci_tree : PySem.W.keepIn K (.ref f_fibonacci_tree) = true)
    (a_doubling_tree : PySem.W.nsIn K mainGlobals "doubling_tree" = some (some (.ref f_doubling_tree)))
    (l_doubling_tree : K.lookup f_doubling_tree = some ⟨oc_doubling_tree, od_doubling_tree, .func (PySem.W.fnOf "doubling_tree" "doubling_tree" (defArgs s_doubling_tree) (defBody s_doubling_tree) (defScope s_doubling_tree) .none kV_doubling_tree dc_doubling_tree pm_doubling_tree an_doubling_tree cd_doubling_tree ct_doubling_tree), sl_doubling_tree⟩)
    (c_doubling_tree : PySem.W.codeIn K cd_doubling_tree "doubling_tree" = true)
    (k_doubling_tree : PySem.W.keepIn K (.ref f_doubling_tree) = true)
    (a__law_draw : PySem.W.nsIn K mainGlobals "_law_draw" = some (some (.ref f__law_draw)))
    (l__law_draw : K.lookup f__law_draw = some ⟨oc__law_draw, od__law_draw, .func (PySem.W.fnOf "_law_draw" "_law_draw" (defArgs s__law_draw) (defBody s__law_draw) (defScope s__law_draw) .none kV__law_draw dc__law_draw pm__law_draw an__law_draw cd__law_draw ct__law_draw), sl__law_draw⟩)
    (c__law_draw : PySem.W.codeIn K cd__law_draw "_law_draw" = true)
    (k__law_draw : PySem.W.keepIn K (.ref f__law_draw) = true)
    (a__law_near : PySem.W.nsIn K mainGlobals "_law_near" = some (some (.ref f__law_near)))
    (l__law_near : K.lookup f__law_near = some ⟨oc__law_near, od__law_near, .func (PySem.W.fnOf "_law_near" "_law_near" (defArgs s__law_near) (defBody s__law_near) (defScope s__law_near) .none kV__law_near dc__law_near pm__law_near an__law_near cd__law_near ct__law_near), sl__law_near⟩)
    (c__law_near : PySem.W.codeIn K cd__law_near "_law_near" = true)
    (k__law_near : PySem.W.keepIn K (.ref f__law_near) = true)
    (a__law_chain : PySem.W.nsIn K mainGlobals "_law_chain" = some (some (.ref f__law_chain)))
    (l__law_chain : K.lookup f__law_chain = some ⟨oc__law_chain, od__law_chain, .func (PySem.W.fnOf "_law_chain" "_law_chain" (defArgs s__law_chain) (defBody s__law_chain) (defScope s__law_chain) .none kV__law_chain dc__law_chain pm__law_chain an__law_chain cd__law_chain ct__law_chain), sl__law_chain⟩)
    (c__law_chain : PySem.W.codeIn K cd__law_chain "_law_chain" = true)
    (k__law_chain : PySem.W.keepIn K (.ref f__law_chain) = true)
    (a__law_table : PySem.W.nsIn K mainGlobals "_law_table" = some (some (.ref f__law_table)))
    (l__law_table : K.lookup f__law_table = some ⟨oc__law_table, od__law_table, .func (PySem.W.fnOf "_law_table" "_law_table" (defArgs s__law_table) (defBody s__law_table) (defScope s__law_table) .none kV__law_table dc__law_table pm__law_table an__law_table cd__law_table ct__law_table), sl__law_table⟩)
    (c__law_table : PySem.W.codeIn K cd__law_table "_law_table" = true)
    (k__law_table : PySem.W.keepIn K (.ref f__law_table) = true)
    (a__law_branch : PySem.W.nsIn K mainGlobals "_law_branch" = some (some (.ref f__law_branch)))
    (l__law_branch : K.lookup f__law_branch = some ⟨oc__law_branch, od__law_branch, .func (PySem.W.fnOf "_law_branch" "_law_branch" (defArgs s__law_branch) (defBody s__law_branch) (defScope s__law_branch) .none kV__law_branch dc__law_branch pm__law_branch an__law_branch cd__law_branch ct__law_branch), sl__law_branch⟩)
    (c__law_branch : PySem.W.codeIn K cd__law_branch "_law_branch" = true)
    (k__law_branch : PySem.W.keepIn K (.ref f__law_branch) = true)
    (a__law_fewest : PySem.W.nsIn K mainGlobals "_law_fewest" = some (some (.ref f__law_fewest)))
    (l__law_fewest : K.lookup f__law_fewest = some ⟨oc__law_fewest, od__law_fewest, .func (PySem.W.fnOf "_law_fewest" "_law_fewest" (defArgs s__law_fewest) (defBody s__law_fewest) (defScope s__law_fewest) .none kV__law_fewest dc__law_fewest pm__law_fewest an__law_fewest cd__law_fewest ct__law_fewest), sl__law_fewest⟩)
    (c__law_fewest : PySem.W.codeIn K cd__law_fewest "_law_fewest" = true)
    (k__law_fewest : PySem.W.keepIn K (.ref f__law_fewest) = true)
    (a__law_said : PySem.W.nsIn K mainGlobals "_law_said" = some (some (.ref f__law_said)))
    (l__law_said : K.lookup f__law_said = some ⟨oc__law_said, od__law_said, .func (PySem.W.fnOf "_law_said" "_law_said" (defArgs s__law_said) (defBody s__law_said) (defScope s__law_said) .none kV__law_said dc__law_said pm__law_said an__law_said cd__law_said ct__law_said), sl__law_said⟩)
    (c__law_said : PySem.W.codeIn K cd__law_said "_law_said" = true)
    (k__law_said : PySem.W.keepIn K (.ref f__law_said) = true)
    (a__law_is_whole : PySem.W.nsIn K mainGlobals "_law_is_whole" = some (some (.ref f__law_is_whole)))
    (l__law_is_whole : K.lookup f__law_is_whole = some ⟨oc__law_is_whole, od__law_is_whole, .func (PySem.W.fnOf "_law_is_whole" "_law_is_whole" (defArgs s__law_is_whole) (defBody s__law_is_whole) (defScope s__law_is_whole) .none kV__law_is_whole dc__law_is_whole pm__law_is_whole an__law_is_whole cd__law_is_whole ct__law_is_whole), sl__law_is_whole⟩)
    (c__law_is_whole : PySem.W.codeIn K cd__law_is_whole "_law_is_whole" = true)
    (k__law_is_whole : PySem.W.keepIn K (.ref f__law_is_whole) = true)
    (a__law_asked_right : PySem.W.nsIn K mainGlobals "_law_asked_right" = some (some (.ref f__law_asked_right)))
    (l__law_asked_right : K.lookup f__law_asked_right = some ⟨oc__law_asked_right, od__law_asked_right, .func (PySem.W.fnOf "_law_asked_right" "_law_asked_right" (defArgs s__law_asked_right) (defBody s__law_asked_right) (defScope s__law_asked_right) .none kV__law_asked_right dc__law_asked_right pm__law_asked_right an__law_asked_right cd__law_asked_right ct__law_asked_right), sl__law_asked_right⟩)
    (c__law_asked_right : PySem.W.codeIn K cd__law_asked_right "_law_asked_right" = true)
    (k__law_asked_right : PySem.W.keepIn K (.ref f__law_asked_right) = true)
    (a__law_right : PySem.W.nsIn K mainGlobals "_law_right" = some (some (.ref f__law_right)))
    (l__law_right : K.lookup f__law_right = some ⟨oc__law_right, od__law_right, .func (PySem.W.fnOf "_law_right" "_law_right" (defArgs s__law_right) (defBody s__law_right) (defScope s__law_right) .none kV__law_right dc__law_right pm__law_right an__law_right cd__law_right ct__law_right), sl__law_right⟩)
    (c__law_right : PySem.W.codeIn K cd__law_right "_law_right" = true)
    (k__law_right : PySem.W.keepIn K (.ref f__law_right) = true)
    (a_law : PySem.W.nsIn K mainGlobals "law" = some (some (.ref f_law)))
    (l_law : K.lookup f_law = some ⟨oc_law, od_law, .func (PySem.W.fnOf "law" "law" (defArgs s_law) (defBody s_law) (defScope s_law) .none kV_law dc_law pm_law an_law cd_law ct_law), sl_law⟩)
    (c_law : PySem.W.codeIn K cd_law "law" = true)
    (k_law : PySem.W.keepIn K (.ref f_law) = true)
    (a_fewest_stations : PySem.W.nsIn K mainGlobals "fewest_stations" = some (some (.ref f_fewest_stations)))
    (l_fewest_stations : K.lookup f_fewest_stations = some ⟨oc_fewest_stations, od_fewest_stations, .func (PySem.W.fnOf "fewest_stations" "fewest_stations" (defArgs s_fewest_stations) (defBody s_fewest_stations) (defScope s_fewest_stations) .none (.ref D_fewest_stations) dc_fewest_stations pm_fewest_stations an_fewest_stations cd_fewest_stations ct_fewest_stations), sl_fewest_stations⟩)
    (c_fewest_stations : PySem.W.codeIn K cd_fewest_stations "fewest_stations" = true)
    (k_fewest_stations : PySem.W.keepIn K (.ref f_fewest_stations) = true)
    (d_fewest_stations_off : PySem.W.nsIn K D_fewest_stations "off" = some (some (.bool true)))
    (aC : PySem.W.nsIn K mainGlobals "Network" = some (some (.ref C)))
    (a_M_init : PySem.W.findIn K (.ref C) "__init__" = some (some (.ref f_M_init)))
    (i_M_init : PySem.W.isFn K (.ref f_M_init) = true)
    (l_M_init : K.lookup f_M_init = some ⟨oc_M_init, od_M_init, .func (PySem.W.fnOf "__init__" "Network.__init__" (defArgs s_Network___init__) (defBody s_Network___init__) (defScope s_Network___init__) .none kV_M_init dc_M_init pm_M_init an_M_init cd_M_init ct_M_init), sl_M_init⟩)
    (c_M_init : PySem.W.codeIn K cd_M_init "Network.__init__" = true)
    (k_M_init : PySem.W.keepIn K (.ref f_M_init) = true)
    (a_M_len : PySem.W.findIn K (.ref C) "__len__" = some (some (.ref f_M_len)))
    (i_M_len : PySem.W.isFn K (.ref f_M_len) = true)
    (l_M_len : K.lookup f_M_len = some ⟨oc_M_len, od_M_len, .func (PySem.W.fnOf "__len__" "Network.__len__" (defArgs s_Network___len__) (defBody s_Network___len__) (defScope s_Network___len__) .none kV_M_len dc_M_len pm_M_len an_M_len cd_M_len ct_M_len), sl_M_len⟩)
    (c_M_len : PySem.W.codeIn K cd_M_len "Network.__len__" = true)
    (k_M_len : PySem.W.keepIn K (.ref f_M_len) = true)
    (a_M_eq : PySem.W.findIn K (.ref C) "__eq__" = some (some (.ref f_M_eq)))
    (i_M_eq : PySem.W.isFn K (.ref f_M_eq) = true)
    (l_M_eq : K.lookup f_M_eq = some ⟨oc_M_eq, od_M_eq, .func (PySem.W.fnOf "__eq__" "Network.__eq__" (defArgs s_Network___eq__) (defBody s_Network___eq__) (defScope s_Network___eq__) .none kV_M_eq dc_M_eq pm_M_eq an_M_eq cd_M_eq ct_M_eq), sl_M_eq⟩)
    (c_M_eq : PySem.W.codeIn K cd_M_eq "Network.__eq__" = true)
    (k_M_eq : PySem.W.keepIn K (.ref f_M_eq) = true)
    (a_M_links : PySem.W.findIn K (.ref C) "links" = some (some (.ref f_M_links)))
    (i_M_links : PySem.W.isFn K (.ref f_M_links) = true)
    (l_M_links : K.lookup f_M_links = some ⟨oc_M_links, od_M_links, .func (PySem.W.fnOf "links" "Network.links" (defArgs s_Network_links) (defBody s_Network_links) (defScope s_Network_links) .none kV_M_links dc_M_links pm_M_links an_M_links cd_M_links ct_M_links), sl_M_links⟩)
    (c_M_links : PySem.W.codeIn K cd_M_links "Network.links" = true)
    (k_M_links : PySem.W.keepIn K (.ref f_M_links) = true)
    (pg : PySem.W.plainGet K C Str.empty = true)
    (hd : PySem.W.hasDictIn K C = true)
    (po : PySem.W.plainOver K C = true)
    (sa : PySem.W.findIn K (.ref C) "__setattr__" = some (some (.builtin "object.__setattr__")))
    (mk : PySem.W.makesIn K C = true)
    (kc : PySem.W.keepIn K (.ref C) = true)
    (nK : PySem.W.findIn K (.ref C) "kept" = some none)
    (nN : PySem.W.findIn K (.ref C) "near" = some none)
    (ha : PySem.W.findIn K (.ref C) "__class__" = some (some (.builtin "object.__class__")))
    (hn : PySem.W.specialIn K (.builtin "object.__class__") "__get__" = some (some (.builtin "getset_descriptor.__get__")))
    (ht : PySem.W.takesIn K (.builtin "object.__class__") = some true)
    (hm : PySem.W.mroIn K C (.type "object") = some true)
    (ne : PySem.W.findIn K (.ref C) "__ne__" = some (some (.builtin "object.__ne__")))
    (aB : PySem.W.nsIn K mainGlobals "ChannelError" = some (some (.ref C0)))
    (rdB : PySem.W.readsIn K C0 (.type "type") = true)
    (gaB : PySem.W.specialIn K (.ref C0) "__getattribute__" = some (some (.builtin "type.__getattribute__")))
    (vVB : PySem.W.findCls K (.ref C0) (.type "type") "__init__" = some (.val (.builtin "ValueError.__init__")))
    (aX_NoChannel : PySem.W.nsIn K mainGlobals "NoChannel" = some (some (.ref C_NoChannel)))
    (xL_NoChannel : K.lookup C_NoChannel = some (excClassObj nm_NoChannel q_NoChannel C_NoChannel N_NoChannel bs_NoChannel [.ref C0, .type "ValueError", .type "Exception", .type "BaseException", .type "object"] true sn_NoChannel sub_NoChannel ab_NoChannel col_NoChannel dd_NoChannel m0_NoChannel m1_NoChannel m2_NoChannel m3_NoChannel m5_NoChannel "ValueError.__new__"))
    (sa_NoChannel : PySem.W.findIn K (.ref C_NoChannel) "__setattr__" = some (some (.builtin "object.__setattr__")))
    (ga_NoChannel : PySem.W.findIn K (.ref C_NoChannel) "__getattribute__" = some (some (.builtin "BaseException.__getattribute__")))
    (gg_NoChannel : PySem.W.findIn K (.ref C_NoChannel) "__getattr__" = some none)
    (nf_NoChannel : PySem.W.findIn K (.ref C_NoChannel) "channel" = some none)
    (aI_NoChannel : PySem.W.findIn K (.ref C_NoChannel) "__init__" = some (some (.ref f_I_NoChannel)))
    (tI_NoChannel : PySem.W.typeIn K (.ref f_I_NoChannel) = some (.type "function"))
    (l_I_NoChannel : K.lookup f_I_NoChannel = some ⟨oc_I_NoChannel, od_I_NoChannel, .func (PySem.W.fnOf "__init__" "NoChannel.__init__" (defArgs s_NoChannel___init__) (defBody s_NoChannel___init__) (defScope s_NoChannel___init__) .none kV_I_NoChannel dc_I_NoChannel pm_I_NoChannel an_I_NoChannel cd_I_NoChannel ct_I_NoChannel), sl_I_NoChannel⟩)
    (c_I_NoChannel : PySem.W.codeIn K cd_I_NoChannel "NoChannel.__init__" = true)
    (k_I_NoChannel : PySem.W.keepIn K (.ref f_I_NoChannel) = true)
    (kC_NoChannel : PySem.W.keepIn K (.ref C_NoChannel) = true)
    (eC_NoChannel : PySem.W.subIn K (.ref C_NoChannel) (.type "BaseException") = some true)
    (tC_NoChannel : PySem.W.typeIn K (.ref C_NoChannel) = some (.type "type"))
    (hC_NoChannel : PySem.W.hasDictIn K C_NoChannel = true)
    (sC_NoChannel : PySem.W.subIn K (.ref C_NoChannel) (.ref C_NoChannel) = some true)
    (aX_NoNetwork : PySem.W.nsIn K mainGlobals "NoNetwork" = some (some (.ref C_NoNetwork)))
    (aX_HasRing : PySem.W.nsIn K mainGlobals "HasRing" = some (some (.ref C_HasRing)))
    (aX_NoStation : PySem.W.nsIn K mainGlobals "NoStation" = some (some (.ref C_NoStation)))
    (spn : PySem.W.specialIn K (.builtin "object.__class__") "__get__" = some (some (.builtin "getset_descriptor.__get__")))
    (tkn : PySem.W.takesIn K (.builtin "object.__class__") = some true)
    (e0B : PySem.W.subIn K (.ref C0) (.type "BaseException") = some true)
    (h0B : PySem.W.hasDictIn K C0 = true)
    (t0B : PySem.W.typeIn K (.ref C0) = some (.type "type"))
    (cl_NoChannel : (PySem.W.clsIn K C_NoChannel).isSome = true)
    (hc_NoChannel : PySem.W.findIn K (.ref C_NoChannel) "__class__" = some (some (.builtin "object.__class__")))
    (mo_NoChannel : PySem.W.mroIn K C_NoChannel (.type "object") = some true)
    (s0_NoChannel : PySem.W.subIn K (.ref C_NoChannel) (.ref C0) = some true)
    (kd_NoChannel_NoChannel : PySem.W.kitOne K (.ref C_NoChannel) (.ref C_NoChannel) = some true)
    (kd_NoChannel_NoNetwork : PySem.W.kitOne K (.ref C_NoChannel) (.ref C_NoNetwork) = some false)
    (kd_NoChannel_HasRing : PySem.W.kitOne K (.ref C_NoChannel) (.ref C_HasRing) = some false)
    (kd_NoChannel_NoStation : PySem.W.kitOne K (.ref C_NoChannel) (.ref C_NoStation) = some false)
    (tb__law_asked_right : PySem.W.tabIn K "_law_asked_right" = some (cA__law_asked_right, Pt__law_asked_right))
    (ch__law_asked_right : PySem.W.codeHdIn K cA__law_asked_right Pt__law_asked_right = true)
    (nP__law_asked_right : K.lookup Pt__law_asked_right = none)
    (ec__law_asked_right : cd__law_asked_right = Value.ref cA__law_asked_right)
    (gP__law_asked_right : h.get? Pt__law_asked_right = some { cls := .none, data := .fields #[] })
    (tb__law_right : PySem.W.tabIn K "_law_right" = some (cA__law_right, Pt__law_right))
    (ch__law_right : PySem.W.codeHdIn K cA__law_right Pt__law_right = true)
    (nP__law_right : K.lookup Pt__law_right = none)
    (ec__law_right : cd__law_right = Value.ref cA__law_right)
    (gP__law_right : h.get? Pt__law_right = some { cls := .none, data := .fields #[] })
    (nePt : Pt__law_asked_right ≠ Pt__law_right) : LamX.LawAtS l w K CX0 16 63 "_law_script" mg fa h := by
  have e := hfa.symm.trans (PySem.W.mg_of X G a_law)
  cases e
  have T : Txt mg := ⟨PySem.W.mg_none_of X G z_all, PySem.W.mg_none_of X G z_bool, PySem.W.mg_none_of X G z_enumerate, PySem.W.mg_none_of X G z_int, PySem.W.mg_none_of X G z_isinstance, PySem.W.mg_none_of X G z_len, PySem.W.mg_none_of X G z_list, PySem.W.mg_none_of X G z_max, PySem.W.mg_none_of X G z_range, PySem.W.mg_none_of X G z_sorted, PySem.W.mg_none_of X G z_sum, PySem.W.mg_none_of X G z_tuple, ⟨_, PySem.W.mg_of X G v_MAX_CHANNEL⟩, ⟨_, PySem.W.mg_of X G v_MAX_STATIONS⟩⟩
  subst ec__law_asked_right
  subst ec__law_right
  have F_is_int := fun_mk (st := s_is_int) l_is_int c_is_int k_is_int
  have g_is_int := PySem.W.mg_of X G a_is_int
  have b_is_int := F_is_int.binds (ps := ["value"]) fun _ _ _ _ _ _ us hl => match us, hl with | [_], _ => rfl
  have F_is_link := fun_mk (st := s_is_link) l_is_link c_is_link k_is_link
  have g_is_link := PySem.W.mg_of X G a_is_link
  have b_is_link := F_is_link.binds (ps := ["value", "stations"]) fun _ _ _ _ _ _ us hl => match us, hl with | [_, _], _ => rfl
  have F_grown := fun_mk (st := s_grown) l_grown c_grown k_grown
  have g_grown := PySem.W.mg_of X G a_grown
  have b_grown := F_grown.binds (ps := ["links", "top", "kinds", "off"]) fun _ _ _ _ _ _ us hl => match us, hl with | [_, _, _, _], _ => rfl
  have F_tree := fun_mk (st := s_tree) l_tree c_tree k_tree
  have g_tree := PySem.W.mg_of X G a_tree
  have b_tree := F_tree.binds (ps := ["channel", "off"]) fun _ _ _ _ _ _ us hl => match us, hl with | [_, _], _ => rfl
  have F_fibonacci_tree := fun_mk (st := s_fibonacci_tree) l_fibonacci_tree c_fibonacci_tree k_fibonacci_tree
  have g_fibonacci_tree := PySem.W.mg_of X G a_fibonacci_tree
  have b_fibonacci_tree := F_fibonacci_tree.binds (ps := ["channel"]) fun _ _ _ _ _ _ us hl => match us, hl with | [_], _ => rfl
  have F_doubling_tree := fun_mk (st := s_doubling_tree) l_doubling_tree c_doubling_tree k_doubling_tree
  have g_doubling_tree := PySem.W.mg_of X G a_doubling_tree
  have b_doubling_tree := F_doubling_tree.binds (ps := ["channel"]) fun _ _ _ _ _ _ us hl => match us, hl with | [_], _ => rfl
  have F__law_draw := fun_mk (st := s__law_draw) l__law_draw c__law_draw k__law_draw
  have g__law_draw := PySem.W.mg_of X G a__law_draw
  have b__law_draw := F__law_draw.binds (ps := ["_law_well", "_law_limit"]) fun _ _ _ _ _ _ us hl => match us, hl with | [_, _], _ => rfl
  have F__law_near := fun_mk (st := s__law_near) l__law_near c__law_near k__law_near
  have g__law_near := PySem.W.mg_of X G a__law_near
  have b__law_near := F__law_near.binds (ps := ["_law_size", "_law_links"]) fun _ _ _ _ _ _ us hl => match us, hl with | [_, _], _ => rfl
  have F__law_chain := fun_mk (st := s__law_chain) l__law_chain c__law_chain k__law_chain
  have g__law_chain := PySem.W.mg_of X G a__law_chain
  have b__law_chain := F__law_chain.binds (ps := ["_law_numbers"]) fun _ _ _ _ _ _ us hl => match us, hl with | [_], _ => rfl
  have F__law_table := fun_mk (st := s__law_table) l__law_table c__law_table k__law_table
  have g__law_table := PySem.W.mg_of X G a__law_table
  have b__law_table := F__law_table.binds (ps := ["_law_near_here"]) fun _ _ _ _ _ _ us hl => match us, hl with | [_], _ => rfl
  have F__law_branch := fun_mk (st := s__law_branch) l__law_branch c__law_branch k__law_branch
  have g__law_branch := PySem.W.mg_of X G a__law_branch
  have b__law_branch := F__law_branch.binds (ps := ["_law_near_here", "_law_station", "_law_above"]) fun _ _ _ _ _ _ us hl => match us, hl with | [_, _, _], _ => rfl
  have F__law_fewest := fun_mk (st := s__law_fewest) l__law_fewest c__law_fewest k__law_fewest
  have g__law_fewest := PySem.W.mg_of X G a__law_fewest
  have b__law_fewest := F__law_fewest.binds (ps := ["_law_channel", "_law_is_off"]) fun _ _ _ _ _ _ us hl => match us, hl with | [_, _], _ => rfl
  have F__law_said := fun_mk (st := s__law_said) l__law_said c__law_said k__law_said
  have g__law_said := PySem.W.mg_of X G a__law_said
  have b__law_said := F__law_said.binds (ps := ["_law_call"]) fun _ _ _ _ _ _ us hl => match us, hl with | [_], _ => rfl
  have F__law_is_whole := fun_mk (st := s__law_is_whole) l__law_is_whole c__law_is_whole k__law_is_whole
  have g__law_is_whole := PySem.W.mg_of X G a__law_is_whole
  have b__law_is_whole := F__law_is_whole.binds (ps := ["_law_net"]) fun _ _ _ _ _ _ us hl => match us, hl with | [_], _ => rfl
  have F__law_asked_right := fun_mk (st := s__law_asked_right) l__law_asked_right c__law_asked_right k__law_asked_right
  have g__law_asked_right := PySem.W.mg_of X G a__law_asked_right
  have b__law_asked_right := F__law_asked_right.binds (ps := ["_law_channel"]) fun _ _ _ _ _ _ us hl => match us, hl with | [_], _ => rfl
  have F__law_right := fun_mk (st := s__law_right) l__law_right c__law_right k__law_right
  have g__law_right := PySem.W.mg_of X G a__law_right
  have b__law_right := F__law_right.binds (ps := ["_law_well", "_law_k"]) fun _ _ _ _ _ _ us hl => match us, hl with | [_, _], _ => rfl
  have F_law := fun_mk (st := s_law) l_law c_law k_law
  have g_law := PySem.W.mg_of X G a_law
  have g_fewest_stations := PySem.W.mg_of X G a_fewest_stations
  have F_fewest_stations : FunD K "fewest_stations" "fewest_stations" (defArgs s_fewest_stations) (defBody s_fewest_stations) (defScope s_fewest_stations) [] [(("off" : Str), V.bl true)] f_fewest_stations _ := ⟨⟨_, _, _, _, _, _, _, _, _, _, rfl, l_fewest_stations, c_fewest_stations, .inl ⟨rfl, rfl⟩, .inr ⟨D_fewest_stations, rfl, fun q hq => by
    obtain rfl : q = (("off" : Str), V.bl true) := by simpa using hq
    exact ⟨_, d_fewest_stations_off, rfl⟩⟩⟩, k_fewest_stations⟩
  have hC := PySem.W.mg_of X G aC
  have NC : NetC K C := ⟨⟨pg, hd, po, sa⟩, nK, nN, ha, hn, ht, hm, if_pos (beq_self_eq_true _), ne⟩
  have F_M_init := fun_mk (st := s_Network___init__) l_M_init c_M_init k_M_init
  have b_M_init := F_M_init.binds (ps := ["self", "stations", "links"]) fun _ _ _ _ _ _ us hl => match us, hl with | [_, _, _], _ => rfl
  have F_M_len := fun_mk (st := s_Network___len__) l_M_len c_M_len k_M_len
  have b_M_len := F_M_len.binds (ps := ["self"]) fun _ _ _ _ _ _ us hl => match us, hl with | [_], _ => rfl
  have F_M_eq := fun_mk (st := s_Network___eq__) l_M_eq c_M_eq k_M_eq
  have b_M_eq := F_M_eq.binds (ps := ["self", "other"]) fun _ _ _ _ _ _ us hl => match us, hl with | [_, _], _ => rfl
  have F_M_links := fun_mk (st := s_Network_links) l_M_links c_M_links k_M_links
  have b_M_links := F_M_links.binds (ps := ["self"]) fun _ _ _ _ _ _ us hl => match us, hl with | [_], _ => rfl
  have BC : BaseC K C0 := ⟨rdB, gaB, vVB⟩
  have m_ChannelError := PySem.W.mg_of X G aB
  have m_NoChannel := PySem.W.mg_of X G aX_NoChannel
  have OX_NoChannel : OexC K C_NoChannel := ⟨⟨_, _, _, _, _, _, _, _, _, _, _, _, _, _, _, xL_NoChannel, rfl⟩, sa_NoChannel, eC_NoChannel, tC_NoChannel, kC_NoChannel⟩
  have F_I_NoChannel := fun_mk (st := s_NoChannel___init__) l_I_NoChannel c_I_NoChannel k_I_NoChannel
  have b_I_NoChannel := F_I_NoChannel.binds (ps := ["self", "channel"]) fun _ _ _ _ _ _ us hl => match us, hl with | [_, _], _ => rfl
  have XF_NoChannel : XfC K C_NoChannel := ⟨ga_NoChannel, gg_NoChannel, eC_NoChannel, hC_NoChannel⟩
  have te_NoChannel : PySem.W.exmOne K (.ref C_NoChannel) (.ref C_NoChannel) = some true := PySem.W.exm_ref eC_NoChannel hC_NoChannel tC_NoChannel sC_NoChannel
  have m_NoNetwork := PySem.W.mg_of X G aX_NoNetwork
  have m_HasRing := PySem.W.mg_of X G aX_HasRing
  have m_NoStation := PySem.W.mg_of X G aX_NoStation
  have ED_NoChannel : ExcD K C_NoChannel := ⟨cl_NoChannel, ga_NoChannel, gg_NoChannel, eC_NoChannel, hc_NoChannel, spn, tkn, mo_NoChannel⟩
  have tB_NoChannel : PySem.W.exmOne K (.ref C_NoChannel) (.ref C0) = some true := PySem.W.exm_ref e0B h0B t0B s0_NoChannel
  have FC__law_asked_right : FunC K "_law_asked_right" "_law_asked_right" s__law_asked_right f__law_asked_right _ cA__law_asked_right := ⟨⟨_, _, _, _, _, _, _, _, rfl, l__law_asked_right, c__law_asked_right⟩⟩
  have FC__law_right : FunC K "_law_right" "_law_right" s__law_right f__law_right _ cA__law_right := ⟨⟨_, _, _, _, _, _, _, _, rfl, l__law_right, c__law_right⟩⟩
  refine ⟨PySem.W.fnOf "law" "law" (defArgs s_law) (defBody s_law) (defScope s_law) .none kV_law dc_law pm_law an_law cd_law ct_law, [(cA__law_asked_right, Pt__law_asked_right), (cA__law_right, Pt__law_right)], spLaw Pt__law_asked_right Pt__law_right K, ?_, ?_, ?_, fun s v => .of_eq rfl, fun H a ns hl _ hT hS => ⟨a, ns, rfl, hS, hl, nePt, hT (cA__law_asked_right, Pt__law_asked_right) (.head _), hT (cA__law_right, Pt__law_right) (.tail _ (.head _)), fun _ => rfl⟩, fun base _ _ hTB => ?_⟩
  · intro p hp
    rcases List.mem_cons.mp hp with rfl | hp
    · exact gP__law_asked_right
    rw [List.mem_singleton.mp hp]
    exact gP__law_right
  · intro p hp
    rcases List.mem_cons.mp hp with rfl | hp
    · exact nP__law_asked_right
    rw [List.mem_singleton.mp hp]
    exact nP__law_right
  · intro p hp
    rcases List.mem_cons.mp hp with rfl | hp
    · exact PySem.W.codeHd_of_K X ch__law_asked_right
    rw [List.mem_singleton.mp hp]
    exact PySem.W.codeHd_of_K X ch__law_right
  have TBa := hTB (cA__law_asked_right, Pt__law_asked_right) (.head _)
  have TBr := hTB (cA__law_right, Pt__law_right) (.tail _ (.head _))
  have X_NoChannel : Exn l.prog w K mg base "NoChannel" C_NoChannel "channel" := ⟨_, _, m_NoChannel, OX_NoChannel, aI_NoChannel, tI_NoChannel, fn_up (ok_ini_NoChannel F_I_NoChannel m_ChannelError BC nf_NoChannel), b_I_NoChannel⟩
  have O_is_int : FnOk l.prog w K mg base (L2.CX l.prog w) 1 _ _ _ _ := fn_up (ok_is_int F_is_int T)
  have c_is_int := mkCal O_is_int g_is_int F_is_int.kp b_is_int
  have O_is_link : FnOk l.prog w K mg base (L2.CX l.prog w) 2 _ _ _ _ := fn_up (ok_is_link F_is_link T c_is_int)
  have c_is_link := mkCal O_is_link g_is_link F_is_link.kp b_is_link
  have O_few : FnOk l.prog w K mg base (L2.CX l.prog w) 2 _ _ _ _ := ok_fewest F_fewest_stations T c_is_int
  have k_few : CalK l.prog w K mg base 2 "fewest_stations" ["channel", "off"] 1 ["off"] (fun vs zs => vs ++ zs) spFewest := by
    obtain ⟨mv, q⟩ := F_fewest_stations.kbinds0 (ps := ["channel", "off"]) 1 ["off"] [] (fun us mv ws => us ++ ws) (by simp) (by simp) (fun r1 _ r2 => r1.append r2) (fun D doc pm an cdv ct us mv ws h1 h2 h3 => by
      match us, h1, mv, h2, ws, h3 with
      | [_], _, [], _, [_], _ => rfl)
    exact mkCalK O_few g_fewest_stations F_fewest_stations.kp q
  have c_grown : ∀ d, d ≤ 8 → Cal l.prog w K mg base 9 "grown" ["links", "top", "kinds", "off"] [] (spGrown K d) := fun d hd => mkCal ((ok_grown F_grown T g_grown b_grown d).mono (by omega)) g_grown F_grown.kp b_grown
  have O_init : FnOk l.prog w K mg base (L2.CX l.prog w) 3 _ _ _ _ := fn_up (ok_init F_M_init T NC c_is_int c_is_link)
  have c_Network : Cnw l.prog w K mg base 3 "Network" C ["self", "stations", "links"] (spInit C) := ⟨_, _, ⟨mk, a_M_init, i_M_init, kc⟩, O_init, hC, b_M_init⟩
  have M_len : Mth l.prog w K mg base 1 C "__len__" ["self"] (spLen C) := ⟨_, _, ⟨a_M_len, i_M_len, F_M_len.kp⟩, fn_up (ok_len F_M_len T NC), b_M_len⟩
  have M_eq : Mth l.prog w K mg base 3 C "__eq__" ["self", "other"] (spEqN C) := ⟨_, _, ⟨a_M_eq, i_M_eq, F_M_eq.kp⟩, fn_up (ok_eq F_M_eq T NC hC M_len), b_M_eq⟩
  have M_links : Mth l.prog w K mg base 1 C "links" ["self"] (spLinks C) := ⟨_, _, ⟨a_M_links, i_M_links, F_M_links.kp⟩, fn_up (ok_links F_M_links T NC), b_M_links⟩
  have O_tree : FnOk l.prog w K mg base (L2.CX l.prog w) 10 _ _ _ _ := ok_treeX F_tree T c_is_int k_few c_grown c_Network X_NoChannel
  have c_tree := mkCal O_tree g_tree F_tree.kp b_tree
  have O_fib : FnOk l.prog w K mg base (L2.CX l.prog w) 11 _ _ _ _ := ok_fibX F_fibonacci_tree c_tree
  have c_fibx := mkCal O_fib g_fibonacci_tree F_fibonacci_tree.kp b_fibonacci_tree
  have c_fib := mkCal (fn_imp (sp' := spTree1 C true) O_fib fun _ _ _ _ => Or.inr) g_fibonacci_tree F_fibonacci_tree.kp b_fibonacci_tree
  have O_dbl : FnOk l.prog w K mg base (L2.CX l.prog w) 11 _ _ _ _ := ok_dblX F_doubling_tree c_tree
  have c_dblx := mkCal O_dbl g_doubling_tree F_doubling_tree.kp b_doubling_tree
  have c_dbl := mkCal (fn_imp (sp' := spTree1 C false) O_dbl fun _ _ _ _ => Or.inr) g_doubling_tree F_doubling_tree.kp b_doubling_tree
  have O_draw : FnOk l.prog w K mg base (L2.CX l.prog w) 1 _ _ _ _ := fn_up (ok_draw F__law_draw)
  have c_draw := mkCal O_draw g__law_draw F__law_draw.kp b__law_draw
  have O_near : FnOk l.prog w K mg base (L2.CX l.prog w) 1 _ _ _ _ := fn_up (ok_near F__law_near T)
  have c_near := mkCal O_near g__law_near F__law_near.kp b__law_near
  have O_lch : FnOk l.prog w K mg base (L2.CX l.prog w) 1 _ _ _ _ := fn_up (ok_lch F__law_chain T)
  have c_lch := mkCal O_lch g__law_chain F__law_chain.kp b__law_chain
  have O_lfew : FnOk l.prog w K mg base (L2.CX l.prog w) 1 _ _ _ _ := fn_up (ok_lfew F__law_fewest T)
  have c_lfew := mkCal O_lfew g__law_fewest F__law_fewest.kp b__law_fewest
  have O_table : FnOk l.prog w K mg base (L2.CX l.prog w) 2 _ _ _ _ := fn_up (ok_tableL F__law_table T c_lch)
  have c_table := mkCal O_table g__law_table F__law_table.kp b__law_table
  have O_branch : FnOk l.prog w K mg base (L2.CX l.prog w) 10 _ _ _ _ := ok_br F__law_branch T c_lch g__law_branch b__law_branch 8
  have c_branch := mkCal O_branch g__law_branch F__law_branch.kp b__law_branch
  have O_whole : FnOk l.prog w K mg base (L2.CX l.prog w) 3 _ _ _ _ := fn_up (ok_whole F__law_is_whole T NC M_len M_links)
  have c_whole := mkCal O_whole g__law_is_whole F__law_is_whole.kp b__law_is_whole
  have L_said : LamDef l.prog w K mg base "_law_said" "_law_call" (SaidT1 C_NoChannel) := by
    refine ⟨_, _, _, _, _, _, _, _, _, _, _, _, g__law_said, k__law_said, l__law_said, c__law_said, b__law_said, sc__law_said, rfl, by first | exact Or.inl rfl | exact Or.inr (Or.inl rfl), ?_⟩
    intro X' q _ _ hKe hme _
    subst hKe hme
    exact said_gives T m_ChannelError m_NoChannel m_NoNetwork m_HasRing m_NoStation XF_NoChannel nf_NoChannel ED_NoChannel tB_NoChannel kd_NoChannel_NoChannel kd_NoChannel_HasRing kd_NoChannel_NoNetwork kd_NoChannel_NoStation
  have O_asked : FnOk l.prog w K mg base (L2.CX l.prog w) 14 _ _ _ _ := fn_up (ok_asked (q2 := qR cA__law_right) FC__law_asked_right T TBa nePt c_lfew L_said c_fibx c_dblx)
  have c_asked := mkCal O_asked g__law_asked_right F__law_asked_right.kp b__law_asked_right
  have O_right : FnOk l.prog w K mg base (L2.CX l.prog w) 15 _ _ _ _ := fn_up (ok_right FC__law_right T NC hC TBr nePt M_len M_links M_eq c_draw c_lfew c_whole c_near c_table c_branch c_fib c_dbl c_fibx c_dblx L_said c_asked)
  have c_right := mkCal O_right g__law_right F__law_right.kp b__law_right
  exact ok_law F_law T NC M_len c_right c_fib c_dbl
end NX
open PySem PySem.W PyProof.Rows in
set_option maxRecDepth 100000 in
set_option maxHeartbeats 0 in
theorem PySem.Challenge.cw_nextchannel_k31_smallest_networks_holds : PySem.Challenge.rw_nextchannel_k31_smallest_networks.Holds := by
  w_on; o_law; k_head; (case hw => w_witness2)
  k_fill
  refine LamX.walk_ofTs (l := PySem.Challenge.rw_nextchannel_k31_smallest_networks) (k := 16) (n := 63) (x := "_law_script") (CX := fun _ => L2.CX0) rfl (by decide) rfl ⟨rfl, by decide, by decide⟩ (fun w h Y => PySem.W.km_in_of Y) ?F (fun _ _ _ _ _ z => z)
  case F =>
    intro w mg fa h Y KX G hmg
    have hT := PySem.W.km_tabs_of Y
    refine' NX.all_mk KX G hmg ?h_z_all ?h_z_bool ?h_z_enumerate ?h_z_int ?h_z_isinstance ?h_z_len ?h_z_list ?h_z_max ?h_z_range ?h_z_sorted ?h_z_sum ?h_z_tuple ?h_v_MAX_CHANNEL ?h_v_MAX_STATIONS ?h_a_is_int ?h_l_is_int ?h_c_is_int ?h_k_is_int ?h_a_is_link ?h_l_is_link ?h_c_is_link ?h_k_is_link ?h_a_grown ?h_l_grown ?h_c_grown ?h_k_grown ?h_a_tree ?h_l_tree ?h_c_tree ?h_k_tree ?h_a_fibonacci_tree ?h_l_fibonacci_tree ?h_c_fibonacci_tree ?h_k_fibonacci_tree ?h_a_doubling_tree ?h_l_doubling_tree ?h_c_doubling_tree ?h_k_doubling_tree ?h_a__law_draw ?h_l__law_draw ?h_c__law_draw ?h_k__law_draw ?h_a__law_near ?h_l__law_near ?h_c__law_near ?h_k__law_near ?h_a__law_chain ?h_l__law_chain ?h_c__law_chain ?h_k__law_chain ?h_a__law_table ?h_l__law_table ?h_c__law_table ?h_k__law_table ?h_a__law_branch ?h_l__law_branch ?h_c__law_branch ?h_k__law_branch ?h_a__law_fewest ?h_l__law_fewest ?h_c__law_fewest ?h_k__law_fewest ?h_a__law_said ?h_l__law_said ?h_c__law_said ?h_k__law_said ?h_a__law_is_whole ?h_l__law_is_whole ?h_c__law_is_whole ?h_k__law_is_whole ?h_a__law_asked_right ?h_l__law_asked_right ?h_c__law_asked_right ?h_k__law_asked_right ?h_a__law_right ?h_l__law_right ?h_c__law_right ?h_k__law_right ?h_a_law ?h_l_law ?h_c_law ?h_k_law ?h_a_fewest_stations ?h_l_fewest_stations ?h_c_fewest_stations ?h_k_fewest_stations ?h_d_fewest_stations_off ?h_aC ?h_a_M_init ?h_i_M_init ?h_l_M_init ?h_c_M_init ?h_k_M_init ?h_a_M_len ?h_i_M_len ?h_l_M_len ?h_c_M_len ?h_k_M_len ?h_a_M_eq ?h_i_M_eq ?h_l_M_eq ?h_c_M_eq ?h_k_M_eq ?h_a_M_links ?h_i_M_links ?h_l_M_links ?h_c_M_links ?h_k_M_links ?h_pg ?h_hd ?h_po ?h_sa ?h_mk ?h_kc ?h_nK ?h_nN ?h_ha ?h_hn ?h_ht ?h_hm ?h_ne ?h_aB ?h_rdB ?h_gaB ?h_vVB ?h_aX_NoChannel ?h_xL_NoChannel ?h_sa_NoChannel ?h_ga_NoChannel ?h_gg_NoChannel ?h_nf_NoChannel ?h_aI_NoChannel ?h_tI_NoChannel ?h_l_I_NoChannel ?h_c_I_NoChannel ?h_k_I_NoChannel ?h_kC_NoChannel ?h_eC_NoChannel ?h_tC_NoChannel ?h_hC_NoChannel ?h_sC_NoChannel ?h_aX_NoNetwork ?h_aX_HasRing ?h_aX_NoStation ?h_spn ?h_tkn ?h_e0B ?h_h0B ?h_t0B ?h_cl_NoChannel ?h_hc_NoChannel ?h_mo_NoChannel ?h_s0_NoChannel ?h_kd_NoChannel_NoChannel ?h_kd_NoChannel_NoNetwork ?h_kd_NoChannel_HasRing ?h_kd_NoChannel_NoStation ?h_tb__law_asked_right ?h_ch__law_asked_right ?h_nP__law_asked_right ?h_ec__law_asked_right ?h_gP__law_asked_right ?h_tb__law_right ?h_ch__law_right ?h_nP__law_right ?h_ec__law_right ?h_gP__law_right ?h_nePt
    (case h_z_all => first | k_is | rfl | exact if_pos (beq_self_eq_true _) | exact hT _ (by decide) | decide)
    (case h_z_bool => first | k_is | rfl | exact if_pos (beq_self_eq_true _) | exact hT _ (by decide) | decide)
    (case h_z_enumerate => first | k_is | rfl | exact if_pos (beq_self_eq_true _) | exact hT _ (by decide) | decide)
    (case h_z_int => first | k_is | rfl | exact if_pos (beq_self_eq_true _) | exact hT _ (by decide) | decide)
    (case h_z_isinstance => first | k_is | rfl | exact if_pos (beq_self_eq_true _) | exact hT _ (by decide) | decide)
    (case h_z_len => first | k_is | rfl | exact if_pos (beq_self_eq_true _) | exact hT _ (by decide) | decide)
    (case h_z_list => first | k_is | rfl | exact if_pos (beq_self_eq_true _) | exact hT _ (by decide) | decide)
    (case h_z_max => first | k_is | rfl | exact if_pos (beq_self_eq_true _) | exact hT _ (by decide) | decide)
    (case h_z_range => first | k_is | rfl | exact if_pos (beq_self_eq_true _) | exact hT _ (by decide) | decide)
    (case h_z_sorted => first | k_is | rfl | exact if_pos (beq_self_eq_true _) | exact hT _ (by decide) | decide)
    (case h_z_sum => first | k_is | rfl | exact if_pos (beq_self_eq_true _) | exact hT _ (by decide) | decide)
    (case h_z_tuple => first | k_is | rfl | exact if_pos (beq_self_eq_true _) | exact hT _ (by decide) | decide)
    (case h_v_MAX_CHANNEL => first | k_is | rfl | exact if_pos (beq_self_eq_true _) | exact hT _ (by decide) | decide)
    (case h_v_MAX_STATIONS => first | k_is | rfl | exact if_pos (beq_self_eq_true _) | exact hT _ (by decide) | decide)
    (case h_a_is_int => first | k_is | rfl | exact if_pos (beq_self_eq_true _) | exact hT _ (by decide) | decide)
    (case h_l_is_int => first | k_is | rfl | exact if_pos (beq_self_eq_true _) | exact hT _ (by decide) | decide)
    (case h_c_is_int => first | k_is | rfl | exact if_pos (beq_self_eq_true _) | exact hT _ (by decide) | decide)
    (case h_k_is_int => first | k_is | rfl | exact if_pos (beq_self_eq_true _) | exact hT _ (by decide) | decide)
    (case h_a_is_link => first | k_is | rfl | exact if_pos (beq_self_eq_true _) | exact hT _ (by decide) | decide)
    (case h_l_is_link => first | k_is | rfl | exact if_pos (beq_self_eq_true _) | exact hT _ (by decide) | decide)
    (case h_c_is_link => first | k_is | rfl | exact if_pos (beq_self_eq_true _) | exact hT _ (by decide) | decide)
    (case h_k_is_link => first | k_is | rfl | exact if_pos (beq_self_eq_true _) | exact hT _ (by decide) | decide)
    (case h_a_grown => first | k_is | rfl | exact if_pos (beq_self_eq_true _) | exact hT _ (by decide) | decide)
    (case h_l_grown => first | k_is | rfl | exact if_pos (beq_self_eq_true _) | exact hT _ (by decide) | decide)
    (case h_c_grown => first | k_is | rfl | exact if_pos (beq_self_eq_true _) | exact hT _ (by decide) | decide)
    (case h_k_grown => first | k_is | rfl | exact if_pos (beq_self_eq_true _) | exact hT _ (by decide) | decide)
    (case h_a_tree => first | k_is | rfl | exact if_pos (beq_self_eq_true _) | exact hT _ (by decide) | decide)
    (case h_l_tree => first | k_is | rfl | exact if_pos (beq_self_eq_true _) | exact hT _ (by decide) | decide)
    (case h_c_tree => first | k_is | rfl | exact if_pos (beq_self_eq_true _) | exact hT _ (by decide) | decide)
    (case h_k_tree => first | k_is | rfl | exact if_pos (beq_self_eq_true _) | exact hT _ (by decide) | decide)
    (case h_a_fibonacci_tree => first | k_is | rfl | exact if_pos (beq_self_eq_true _) | exact hT _ (by decide) | decide)
    (case h_l_fibonacci_tree => first | k_is | rfl | exact if_pos (beq_self_eq_true _) | exact hT _ (by decide) | decide)
    (case h_c_fibonacci_tree => first | k_is | rfl | exact if_pos (beq_self_eq_true _) | exact hT _ (by decide) | decide)
    (case h_k_fibonacci_tree => first | k_is | rfl | exact if_pos (beq_self_eq_true _) | exact hT _ (by decide) | decide)
    (case h_a_doubling_tree => first | k_is | rfl | exact if_pos (beq_self_eq_true _) | exact hT _ (by decide) | decide)
    (case h_l_doubling_tree => first | k_is | rfl | exact if_pos (beq_self_eq_true _) | exact hT _ (by decide) | decide)
    (case h_c_doubling_tree => first | k_is | rfl | exact if_pos (beq_self_eq_true _) | exact hT _ (by decide) | decide)
    (case h_k_doubling_tree => first | k_is | rfl | exact if_pos (beq_self_eq_true _) | exact hT _ (by decide) | decide)
    (case h_a__law_draw => first | k_is | rfl | exact if_pos (beq_self_eq_true _) | exact hT _ (by decide) | decide)
    (case h_l__law_draw => first | k_is | rfl | exact if_pos (beq_self_eq_true _) | exact hT _ (by decide) | decide)
    (case h_c__law_draw => first | k_is | rfl | exact if_pos (beq_self_eq_true _) | exact hT _ (by decide) | decide)
    (case h_k__law_draw => first | k_is | rfl | exact if_pos (beq_self_eq_true _) | exact hT _ (by decide) | decide)
    (case h_a__law_near => first | k_is | rfl | exact if_pos (beq_self_eq_true _) | exact hT _ (by decide) | decide)
    (case h_l__law_near => first | k_is | rfl | exact if_pos (beq_self_eq_true _) | exact hT _ (by decide) | decide)
    (case h_c__law_near => first | k_is | rfl | exact if_pos (beq_self_eq_true _) | exact hT _ (by decide) | decide)
    (case h_k__law_near => first | k_is | rfl | exact if_pos (beq_self_eq_true _) | exact hT _ (by decide) | decide)
    (case h_a__law_chain => first | k_is | rfl | exact if_pos (beq_self_eq_true _) | exact hT _ (by decide) | decide)
    (case h_l__law_chain => first | k_is | rfl | exact if_pos (beq_self_eq_true _) | exact hT _ (by decide) | decide)
    (case h_c__law_chain => first | k_is | rfl | exact if_pos (beq_self_eq_true _) | exact hT _ (by decide) | decide)
    (case h_k__law_chain => first | k_is | rfl | exact if_pos (beq_self_eq_true _) | exact hT _ (by decide) | decide)
    (case h_a__law_table => first | k_is | rfl | exact if_pos (beq_self_eq_true _) | exact hT _ (by decide) | decide)
    (case h_l__law_table => first | k_is | rfl | exact if_pos (beq_self_eq_true _) | exact hT _ (by decide) | decide)
    (case h_c__law_table => first | k_is | rfl | exact if_pos (beq_self_eq_true _) | exact hT _ (by decide) | decide)
    (case h_k__law_table => first | k_is | rfl | exact if_pos (beq_self_eq_true _) | exact hT _ (by decide) | decide)
    (case h_a__law_branch => first | k_is | rfl | exact if_pos (beq_self_eq_true _) | exact hT _ (by decide) | decide)
    (case h_l__law_branch => first | k_is | rfl | exact if_pos (beq_self_eq_true _) | exact hT _ (by decide) | decide)
    (case h_c__law_branch => first | k_is | rfl | exact if_pos (beq_self_eq_true _) | exact hT _ (by decide) | decide)
    (case h_k__law_branch => first | k_is | rfl | exact if_pos (beq_self_eq_true _) | exact hT _ (by decide) | decide)
    (case h_a__law_fewest => first | k_is | rfl | exact if_pos (beq_self_eq_true _) | exact hT _ (by decide) | decide)
    (case h_l__law_fewest => first | k_is | rfl | exact if_pos (beq_self_eq_true _) | exact hT _ (by decide) | decide)
    (case h_c__law_fewest => first | k_is | rfl | exact if_pos (beq_self_eq_true _) | exact hT _ (by decide) | decide)
    (case h_k__law_fewest => first | k_is | rfl | exact if_pos (beq_self_eq_true _) | exact hT _ (by decide) | decide)
    (case h_a__law_said => first | k_is | rfl | exact if_pos (beq_self_eq_true _) | exact hT _ (by decide) | decide)
    (case h_l__law_said => first | k_is | rfl | exact if_pos (beq_self_eq_true _) | exact hT _ (by decide) | decide)
    (case h_c__law_said => first | k_is | rfl | exact if_pos (beq_self_eq_true _) | exact hT _ (by decide) | decide)
    (case h_k__law_said => first | k_is | rfl | exact if_pos (beq_self_eq_true _) | exact hT _ (by decide) | decide)
    (case h_a__law_is_whole => first | k_is | rfl | exact if_pos (beq_self_eq_true _) | exact hT _ (by decide) | decide)
    (case h_l__law_is_whole => first | k_is | rfl | exact if_pos (beq_self_eq_true _) | exact hT _ (by decide) | decide)
    (case h_c__law_is_whole => first | k_is | rfl | exact if_pos (beq_self_eq_true _) | exact hT _ (by decide) | decide)
    (case h_k__law_is_whole => first | k_is | rfl | exact if_pos (beq_self_eq_true _) | exact hT _ (by decide) | decide)
    (case h_a__law_asked_right => first | k_is | rfl | exact if_pos (beq_self_eq_true _) | exact hT _ (by decide) | decide)
    (case h_l__law_asked_right => first | k_is | rfl | exact if_pos (beq_self_eq_true _) | exact hT _ (by decide) | decide)
    (case h_c__law_asked_right => first | k_is | rfl | exact if_pos (beq_self_eq_true _) | exact hT _ (by decide) | decide)
    (case h_k__law_asked_right => first | k_is | rfl | exact if_pos (beq_self_eq_true _) | exact hT _ (by decide) | decide)
    (case h_a__law_right => first | k_is | rfl | exact if_pos (beq_self_eq_true _) | exact hT _ (by decide) | decide)
    (case h_l__law_right => first | k_is | rfl | exact if_pos (beq_self_eq_true _) | exact hT _ (by decide) | decide)
    (case h_c__law_right => first | k_is | rfl | exact if_pos (beq_self_eq_true _) | exact hT _ (by decide) | decide)
    (case h_k__law_right => first | k_is | rfl | exact if_pos (beq_self_eq_true _) | exact hT _ (by decide) | decide)
    (case h_a_law => first | k_is | rfl | exact if_pos (beq_self_eq_true _) | exact hT _ (by decide) | decide)
    (case h_l_law => first | k_is | rfl | exact if_pos (beq_self_eq_true _) | exact hT _ (by decide) | decide)
    (case h_c_law => first | k_is | rfl | exact if_pos (beq_self_eq_true _) | exact hT _ (by decide) | decide)
    (case h_k_law => first | k_is | rfl | exact if_pos (beq_self_eq_true _) | exact hT _ (by decide) | decide)
    (case h_a_fewest_stations => first | k_is | rfl | exact if_pos (beq_self_eq_true _) | exact hT _ (by decide) | decide)
    (case h_l_fewest_stations => first | k_is | rfl | exact if_pos (beq_self_eq_true _) | exact hT _ (by decide) | decide)
    (case h_c_fewest_stations => first | k_is | rfl | exact if_pos (beq_self_eq_true _) | exact hT _ (by decide) | decide)
    (case h_k_fewest_stations => first | k_is | rfl | exact if_pos (beq_self_eq_true _) | exact hT _ (by decide) | decide)
    (case h_d_fewest_stations_off => first | k_is | rfl | exact if_pos (beq_self_eq_true _) | exact hT _ (by decide) | decide)
    (case h_aC => first | k_is | rfl | exact if_pos (beq_self_eq_true _) | exact hT _ (by decide) | decide)
    (case h_a_M_init => first | k_is | rfl | exact if_pos (beq_self_eq_true _) | exact hT _ (by decide) | decide)
    (case h_i_M_init => first | k_is | rfl | exact if_pos (beq_self_eq_true _) | exact hT _ (by decide) | decide)
    (case h_l_M_init => first | k_is | rfl | exact if_pos (beq_self_eq_true _) | exact hT _ (by decide) | decide)
    (case h_c_M_init => first | k_is | rfl | exact if_pos (beq_self_eq_true _) | exact hT _ (by decide) | decide)
    (case h_k_M_init => first | k_is | rfl | exact if_pos (beq_self_eq_true _) | exact hT _ (by decide) | decide)
    (case h_a_M_len => first | k_is | rfl | exact if_pos (beq_self_eq_true _) | exact hT _ (by decide) | decide)
    (case h_i_M_len => first | k_is | rfl | exact if_pos (beq_self_eq_true _) | exact hT _ (by decide) | decide)
    (case h_l_M_len => first | k_is | rfl | exact if_pos (beq_self_eq_true _) | exact hT _ (by decide) | decide)
    (case h_c_M_len => first | k_is | rfl | exact if_pos (beq_self_eq_true _) | exact hT _ (by decide) | decide)
    (case h_k_M_len => first | k_is | rfl | exact if_pos (beq_self_eq_true _) | exact hT _ (by decide) | decide)
    (case h_a_M_eq => first | k_is | rfl | exact if_pos (beq_self_eq_true _) | exact hT _ (by decide) | decide)
    (case h_i_M_eq => first | k_is | rfl | exact if_pos (beq_self_eq_true _) | exact hT _ (by decide) | decide)
    (case h_l_M_eq => first | k_is | rfl | exact if_pos (beq_self_eq_true _) | exact hT _ (by decide) | decide)
    (case h_c_M_eq => first | k_is | rfl | exact if_pos (beq_self_eq_true _) | exact hT _ (by decide) | decide)
    (case h_k_M_eq => first | k_is | rfl | exact if_pos (beq_self_eq_true _) | exact hT _ (by decide) | decide)
    (case h_a_M_links => first | k_is | rfl | exact if_pos (beq_self_eq_true _) | exact hT _ (by decide) | decide)
    (case h_i_M_links => first | k_is | rfl | exact if_pos (beq_self_eq_true _) | exact hT _ (by decide) | decide)
    (case h_l_M_links => first | k_is | rfl | exact if_pos (beq_self_eq_true _) | exact hT _ (by decide) | decide)
    (case h_c_M_links => first | k_is | rfl | exact if_pos (beq_self_eq_true _) | exact hT _ (by decide) | decide)
    (case h_k_M_links => first | k_is | rfl | exact if_pos (beq_self_eq_true _) | exact hT _ (by decide) | decide)
    (case h_pg => first | k_is | rfl | exact if_pos (beq_self_eq_true _) | exact hT _ (by decide) | decide)
    (case h_hd => first | k_is | rfl | exact if_pos (beq_self_eq_true _) | exact hT _ (by decide) | decide)
    (case h_po => first | k_is | rfl | exact if_pos (beq_self_eq_true _) | exact hT _ (by decide) | decide)
    (case h_sa => first | k_is | rfl | exact if_pos (beq_self_eq_true _) | exact hT _ (by decide) | decide)
    (case h_mk => first | k_is | rfl | exact if_pos (beq_self_eq_true _) | exact hT _ (by decide) | decide)
    (case h_kc => first | k_is | rfl | exact if_pos (beq_self_eq_true _) | exact hT _ (by decide) | decide)
    (case h_nK => first | k_is | rfl | exact if_pos (beq_self_eq_true _) | exact hT _ (by decide) | decide)
    (case h_nN => first | k_is | rfl | exact if_pos (beq_self_eq_true _) | exact hT _ (by decide) | decide)
    (case h_ha => first | k_is | rfl | exact if_pos (beq_self_eq_true _) | exact hT _ (by decide) | decide)
    (case h_hn => first | k_is | rfl | exact if_pos (beq_self_eq_true _) | exact hT _ (by decide) | decide)
    (case h_ht => first | k_is | rfl | exact if_pos (beq_self_eq_true _) | exact hT _ (by decide) | decide)
    (case h_hm => first | k_is | rfl | exact if_pos (beq_self_eq_true _) | exact hT _ (by decide) | decide)
    (case h_ne => first | k_is | rfl | exact if_pos (beq_self_eq_true _) | exact hT _ (by decide) | decide)
    (case h_aB => first | k_is | rfl | exact if_pos (beq_self_eq_true _) | exact hT _ (by decide) | decide)
    (case h_rdB => first | k_is | rfl | exact if_pos (beq_self_eq_true _) | exact hT _ (by decide) | decide)
    (case h_gaB => first | k_is | rfl | exact if_pos (beq_self_eq_true _) | exact hT _ (by decide) | decide)
    (case h_vVB => first | k_is | rfl | exact if_pos (beq_self_eq_true _) | exact hT _ (by decide) | decide)
    (case h_aX_NoChannel => first | k_is | rfl | exact if_pos (beq_self_eq_true _) | exact hT _ (by decide) | decide)
    (case h_xL_NoChannel => first | k_is | rfl | exact if_pos (beq_self_eq_true _) | exact hT _ (by decide) | decide)
    (case h_sa_NoChannel => first | k_is | rfl | exact if_pos (beq_self_eq_true _) | exact hT _ (by decide) | decide)
    (case h_ga_NoChannel => first | k_is | rfl | exact if_pos (beq_self_eq_true _) | exact hT _ (by decide) | decide)
    (case h_gg_NoChannel => first | k_is | rfl | exact if_pos (beq_self_eq_true _) | exact hT _ (by decide) | decide)
    (case h_nf_NoChannel => first | k_is | rfl | exact if_pos (beq_self_eq_true _) | exact hT _ (by decide) | decide)
    (case h_aI_NoChannel => first | k_is | rfl | exact if_pos (beq_self_eq_true _) | exact hT _ (by decide) | decide)
    (case h_tI_NoChannel => first | k_is | rfl | exact if_pos (beq_self_eq_true _) | exact hT _ (by decide) | decide)
    (case h_l_I_NoChannel => first | k_is | rfl | exact if_pos (beq_self_eq_true _) | exact hT _ (by decide) | decide)
    (case h_c_I_NoChannel => first | k_is | rfl | exact if_pos (beq_self_eq_true _) | exact hT _ (by decide) | decide)
    (case h_k_I_NoChannel => first | k_is | rfl | exact if_pos (beq_self_eq_true _) | exact hT _ (by decide) | decide)
    (case h_kC_NoChannel => first | k_is | rfl | exact if_pos (beq_self_eq_true _) | exact hT _ (by decide) | decide)
    (case h_eC_NoChannel => first | k_is | rfl | exact if_pos (beq_self_eq_true _) | exact hT _ (by decide) | decide)
    (case h_tC_NoChannel => first | k_is | rfl | exact if_pos (beq_self_eq_true _) | exact hT _ (by decide) | decide)
    (case h_hC_NoChannel => first | k_is | rfl | exact if_pos (beq_self_eq_true _) | exact hT _ (by decide) | decide)
    (case h_sC_NoChannel => first | k_is | rfl | exact if_pos (beq_self_eq_true _) | exact hT _ (by decide) | decide)
    (case h_aX_NoNetwork => first | k_is | rfl | exact if_pos (beq_self_eq_true _) | exact hT _ (by decide) | decide)
    (case h_aX_HasRing => first | k_is | rfl | exact if_pos (beq_self_eq_true _) | exact hT _ (by decide) | decide)
    (case h_aX_NoStation => first | k_is | rfl | exact if_pos (beq_self_eq_true _) | exact hT _ (by decide) | decide)
    (case h_spn => first | k_is | rfl | exact if_pos (beq_self_eq_true _) | exact hT _ (by decide) | decide)
    (case h_tkn => first | k_is | rfl | exact if_pos (beq_self_eq_true _) | exact hT _ (by decide) | decide)
    (case h_e0B => first | k_is | rfl | exact if_pos (beq_self_eq_true _) | exact hT _ (by decide) | decide)
    (case h_h0B => first | k_is | rfl | exact if_pos (beq_self_eq_true _) | exact hT _ (by decide) | decide)
    (case h_t0B => first | k_is | rfl | exact if_pos (beq_self_eq_true _) | exact hT _ (by decide) | decide)
    (case h_cl_NoChannel => first | k_is | rfl | exact if_pos (beq_self_eq_true _) | exact hT _ (by decide) | decide)
    (case h_hc_NoChannel => first | k_is | rfl | exact if_pos (beq_self_eq_true _) | exact hT _ (by decide) | decide)
    (case h_mo_NoChannel => first | k_is | rfl | exact if_pos (beq_self_eq_true _) | exact hT _ (by decide) | decide)
    (case h_s0_NoChannel => first | k_is | rfl | exact if_pos (beq_self_eq_true _) | exact hT _ (by decide) | decide)
    (case h_kd_NoChannel_NoChannel => first | k_is | rfl | exact if_pos (beq_self_eq_true _) | exact hT _ (by decide) | decide)
    (case h_kd_NoChannel_NoNetwork => first | k_is | rfl | exact if_pos (beq_self_eq_true _) | exact hT _ (by decide) | decide)
    (case h_kd_NoChannel_HasRing => first | k_is | rfl | exact if_pos (beq_self_eq_true _) | exact hT _ (by decide) | decide)
    (case h_kd_NoChannel_NoStation => first | k_is | rfl | exact if_pos (beq_self_eq_true _) | exact hT _ (by decide) | decide)
    (case h_tb__law_asked_right => first | k_is | rfl | exact if_pos (beq_self_eq_true _) | exact hT _ (by decide) | decide)
    (case h_ch__law_asked_right => first | k_is | rfl | exact if_pos (beq_self_eq_true _) | exact hT _ (by decide) | decide)
    (case h_nP__law_asked_right => first | k_is | rfl | exact if_pos (beq_self_eq_true _) | exact hT _ (by decide) | decide)
    (case h_ec__law_asked_right => first | k_is | rfl | exact if_pos (beq_self_eq_true _) | exact hT _ (by decide) | decide)
    (case h_gP__law_asked_right => first | k_is | rfl | exact if_pos (beq_self_eq_true _) | exact hT _ (by decide) | decide)
    (case h_tb__law_right => first | k_is | rfl | exact if_pos (beq_self_eq_true _) | exact hT _ (by decide) | decide)
    (case h_ch__law_right => first | k_is | rfl | exact if_pos (beq_self_eq_true _) | exact hT _ (by decide) | decide)
    (case h_nP__law_right => first | k_is | rfl | exact if_pos (beq_self_eq_true _) | exact hT _ (by decide) | decide)
    (case h_ec__law_right => first | k_is | rfl | exact if_pos (beq_self_eq_true _) | exact hT _ (by decide) | decide)
    (case h_gP__law_right => first | k_is | rfl | exact if_pos (beq_self_eq_true _) | exact hT _ (by decide) | decide)
    (case h_nePt => first | k_is | rfl | exact if_pos (beq_self_eq_true _) | exact hT _ (by decide) | decide)
#print axioms PySem.Challenge.cw_nextchannel_k31_smallest_networks_holds

