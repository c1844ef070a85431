import PyProof.Rows.All
import Wide.All
import OpenK.AllK
import Wide.FinOn
import HandS.ForMost
import HandS.ForExc
import HandS.Evl
import HandS.IsInst
import HandS.Defaults
import HandS.Conv
import HandS.Deep
import HandS.SortInts
import HandS.SortRule
import HandS.TupAny
import HandS.TupMul
import HandS.OwnEq
import HandS.Strs
import HandS.SetFor
import HandS.ExcInit
import HandS.ExcIs
import HandS.ExcField
import HandS.ClsMeth
import HandS.Zip
import HandS.MakeKwOnly
import HandS.Lambda
import HandS.EndTab
import KE.KExcIs
import HandS.TupLen
import PySem.Challenge.RW_nextchannel_k54_invalid_changes
set_option Elab.async false
set_option linter.all false
set_option maxRecDepth 100000
set_option maxHeartbeats 4000000
/-! Own layer over HandS: owned local objects (Own), readings step by step (g_..). -/
namespace NX
open PySem PySem.Spec PyProof.Rows L2
open Evl (Ex ex_l ex_t fresh_back)

/-! ### heaps -/
/-- H without the addresses of L -/
def cut (H : Hp) (L : List (Addr × HO)) : Hp := fun a => if a ∈ L.map Prod.fst then none else H a
theorem cut_in {H : Hp} {L : List (Addr × HO)} {a : Addr} (h : a ∈ L.map Prod.fst) : cut H L a = none := by unfold cut; rw [if_pos h]
theorem cut_out {H : Hp} {L : List (Addr × HO)} {a : Addr} (h : a ∉ L.map Prod.fst) : cut H L a = H a := by unfold cut; rw [if_neg h]
def noTup : HO → Bool
  | .tup _ => false
  | .frz _ _ => false
  | _ => true
/-- G: what stands still; L: what the body may change, as it is now -/
structure Own (G : Hp) (L : List (Addr × HO)) (H : Hp) : Prop where
  ex : Ex G H
  at_ : ∀ p ∈ L, G p.1 = none ∧ H p.1 = some p.2
  nd : (L.map Prod.fst).Nodup
  nt : ∀ p ∈ L, noTup p.2 = true
section
variable {G H H' : Hp} {L : List (Addr × HO)} {p q r s : Addr} {o o' o1 o2 o3 o4 : HO}
theorem Own.start (H : Hp) : Own H [] H := ⟨Ex.refl H, fun _ h => (nomatch h), by simp, fun _ h => (nomatch h)⟩
theorem Own.grow (S : Own G L H) (e : Ex H H') : Own G L H' := ⟨S.ex.trans e, fun p h => ⟨(S.at_ p h).1, e _ _ (S.at_ p h).2⟩, S.nd, S.nt⟩
theorem Own.fresh (S : Own G L H) (h : H p = none) : p ∉ L.map Prod.fst := fun m => by
  obtain ⟨x, hx, e⟩ := List.mem_map.mp m
  have z := (S.at_ x hx).2
  rw [e, h] at z
  cases z
theorem Own.new (S : Own G L H) (e : Ex H H') (hp : H p = none) (h : H' p = some o) (ht : noTup o = true := by rfl) : Own G ((p, o) :: L) H' :=
  ⟨S.ex.trans e, fun x hx => by
    rcases List.mem_cons.mp hx with rfl | hx
    · exact ⟨fresh_back S.ex hp, h⟩
    · exact ⟨(S.at_ x hx).1, e _ _ (S.at_ x hx).2⟩, by
    rw [List.map_cons, List.nodup_cons]
    exact ⟨S.fresh hp, S.nd⟩, fun x hx => by
    rcases List.mem_cons.mp hx with rfl | hx
    · exact ht
    · exact S.nt x hx⟩
theorem ex_upd (hp : H p = none) : Ex H (upd H p o) := Ex.new hp
theorem Own.lay (S : Own G L H) (hp : H p = none) (ht : noTup o = true := by rfl) : Own G ((p, o) :: L) (upd H p o) := S.new (Ex.new hp) hp upd_same ht
theorem Own.forget (S : Own G ((p, o) :: L) H) : Own G L H := ⟨S.ex, fun x hx => S.at_ x (List.mem_cons_of_mem _ hx), by
  have z := S.nd
  rw [List.map_cons, List.nodup_cons] at z
  exact z.2, fun x hx => S.nt x (List.mem_cons_of_mem _ hx)⟩
theorem Own.get0 (S : Own G ((p, o) :: L) H) : H p = some o := (S.at_ _ List.mem_cons_self).2
theorem Own.get1 (S : Own G ((q, o1) :: (p, o) :: L) H) : H p = some o := S.forget.get0
theorem Own.get2 (S : Own G ((r, o2) :: (q, o1) :: (p, o) :: L) H) : H p = some o := S.forget.get1
theorem Own.get3 (S : Own G ((s, o3) :: (r, o2) :: (q, o1) :: (p, o) :: L) H) : H p = some o := S.forget.get2
theorem Own.no0 (S : Own G ((p, o) :: L) H) : G p = none := (S.at_ _ List.mem_cons_self).1
theorem Own.nin (S : Own G ((p, o) :: L) H) : p ∉ L.map Prod.fst := by
  have z := S.nd
  rw [List.map_cons, List.nodup_cons] at z
  exact z.1
theorem ex_mut (e : Ex G H) (h : G p = none) : Ex G (upd H p o) := fun a u ha => by
  rw [upd_ne (ne_of_none ha h)]
  exact e a u ha
theorem Own.put0 (S : Own G ((p, o) :: L) H) (ht : noTup o' = true := by rfl) : Own G ((p, o') :: L) (upd H p o') :=
  ⟨ex_mut S.ex S.no0, fun x hx => by
    rcases List.mem_cons.mp hx with rfl | hx
    · exact ⟨S.no0, upd_same⟩
    · have ne : x.1 ≠ p := fun e => S.nin (e ▸ List.mem_map_of_mem hx)
      rw [upd_ne ne]
      exact S.at_ x (List.mem_cons_of_mem _ hx), S.nd, fun x hx => by
    rcases List.mem_cons.mp hx with rfl | hx
    · exact ht
    · exact S.nt x (List.mem_cons_of_mem _ hx)⟩
theorem Own.perm {L' : List (Addr × HO)} (S : Own G L H) (h : L'.Perm L) : Own G L' H :=
  ⟨S.ex, fun x hx => S.at_ x (h.mem_iff.mp hx), (h.map Prod.fst).nodup_iff.mpr S.nd, fun x hx => S.nt x (h.mem_iff.mp hx)⟩
theorem Own.getM (S : Own G L H) (h : (p, o) ∈ L) : H p = some o := (S.at_ _ h).2
theorem nd_ne {L : List (Addr × HO)} (nd : (L.map Prod.fst).Nodup) {i j : Nat} {a b : Addr × HO} (hi : L[i]? = some a) (hj : L[j]? = some b) (ne : i ≠ j) : a.1 ≠ b.1 := fun e => by
  have h1 : (L.map Prod.fst)[i]? = some a.1 := by rw [List.getElem?_map, hi] <;> rfl
  have h2 : (L.map Prod.fst)[j]? = some a.1 := by rw [List.getElem?_map, hj, e] <;> rfl
  obtain ⟨l1, e1⟩ := List.getElem?_eq_some_iff.mp h1
  obtain ⟨l2, e2⟩ := List.getElem?_eq_some_iff.mp h2
  exact ne ((List.getElem_inj nd).mp (e1.trans e2.symm))
theorem Own.putM {j : Nat} (S : Own G L H) (h : L[j]? = some (p, o)) (ht : noTup o' = true := by rfl) : Own G (L.set j (p, o')) (upd H p o') := by
  have hm : (p, o) ∈ L := List.mem_of_getElem? h
  have hj : j < L.length := (List.getElem?_eq_some_iff.mp h).1
  have np : G p = none := (S.at_ _ hm).1
  have em : (L.set j (p, o')).map Prod.fst = L.map Prod.fst := by
    rw [List.map_set]
    refine List.ext_getElem? fun i => ?_
    by_cases c : j = i
    · subst c
      rw [List.getElem?_set_self (by rw [List.length_map]; exact hj), List.getElem?_map, h] <;> rfl
    · rw [List.getElem?_set_ne c]
  have cases_ : ∀ x ∈ L.set j (p, o'), x = (p, o') ∨ (x ∈ L ∧ x.1 ≠ p) := fun x hx => by
    obtain ⟨i, hi, e⟩ := List.mem_iff_getElem.mp hx
    have e' : (L.set j (p, o'))[i]? = some x := by rw [List.getElem?_eq_getElem hi, e]
    by_cases c : j = i
    · subst c
      rw [List.getElem?_set_self hj] at e'
      exact .inl (Option.some.inj e').symm
    · rw [List.getElem?_set_ne c] at e'
      exact .inr ⟨List.mem_of_getElem? e', nd_ne S.nd e' h (Ne.symm c)⟩
  refine ⟨ex_mut S.ex np, fun x hx => ?_, by rw [em]; exact S.nd, fun x hx => ?_⟩
  · rcases cases_ x hx with rfl | ⟨m, ne⟩
    · exact ⟨np, upd_same⟩
    · rw [upd_ne ne]
      exact S.at_ x m
  · rcases cases_ x hx with rfl | ⟨m, ne⟩
    · exact ht
    · exact S.nt x m
theorem Own.swap (S : Own G ((p, o) :: (q, o1) :: L) H) : Own G ((q, o1) :: (p, o) :: L) H := S.perm (List.Perm.swap _ _ _)
theorem Own.put1 (S : Own G ((q, o1) :: (p, o) :: L) H) (ht : noTup o' = true := by rfl) : Own G ((q, o1) :: (p, o') :: L) (upd H p o') := (S.swap.put0 ht).swap
theorem rot_perm {α : Type} (a b c : α) (l : List α) : (c :: a :: b :: l).Perm (a :: b :: c :: l) := (List.Perm.swap a c _).trans ((List.Perm.swap b c _).cons _)
theorem Own.rot (S : Own G ((r, o2) :: (q, o1) :: (p, o) :: L) H) : Own G ((p, o) :: (r, o2) :: (q, o1) :: L) H := S.perm (rot_perm _ _ _ _)
theorem Own.unrot (S : Own G ((p, o) :: (r, o2) :: (q, o1) :: L) H) : Own G ((r, o2) :: (q, o1) :: (p, o) :: L) H := S.perm (rot_perm _ _ _ _).symm
theorem Own.put2 (S : Own G ((r, o2) :: (q, o1) :: (p, o) :: L) H) (ht : noTup o' = true := by rfl) : Own G ((r, o2) :: (q, o1) :: (p, o') :: L) (upd H p o') := (S.rot.put0 ht).unrot
/-- what is new in H' (and the tuples of H) -/
def nw (H H' : Hp) : Hp := fun a => match H a with
  | none => H' a
  | some o => if noTup o then none else H' a
theorem nw_new {a : Addr} (h : H a = none) : nw H H' a = H' a := by unfold nw; rw [h]
theorem nw_tup {a : Addr} {o : HO} (h : H a = some o) (ht : noTup o = false) : nw H H' a = H' a := by
  unfold nw; rw [h]
  show (if noTup o = true then none else H' a) = H' a
  rw [ht] <;> rfl
theorem nw_mono {G H H' : Hp} (e : Ex G H) : Ex (nw H H') (nw G H') := fun a u h => by
  cases q : H a with
  | none =>
    rw [nw_new q] at h
    rw [nw_new (fresh_back e q)]
    exact h
  | some o =>
    cases t : noTup o with
    | true => unfold nw at h; rw [q] at h; simp [t] at h
    | false =>
      rw [nw_tup q t] at h
      cases z : G a with
      | none => rw [nw_new z]; exact h
      | some o' =>
        have y := e _ _ z
        rw [q] at y
        cases y
        rw [nw_tup z t]
        exact h
/-- what is new stands still from now on -/
theorem Own.absorb (S : Own G L H) (e : Ex H H') : Own (cut H' L) L H' ∧ Ex G (cut H' L) ∧ Ex (nw H H') (cut H' L) :=
  ⟨⟨fun a u h => by
      by_cases m : a ∈ L.map Prod.fst
      · rw [cut_in m] at h; cases h
      · rw [cut_out m] at h; exact h, fun x hx => ⟨cut_in (List.mem_map_of_mem hx), e _ _ (S.at_ x hx).2⟩, S.nd, S.nt⟩,
    fun a u h => by
      have m : a ∉ L.map Prod.fst := fun m => by
        obtain ⟨x, hx, z⟩ := List.mem_map.mp m
        have y := (S.at_ x hx).1
        rw [z, h] at y
        cases y
      rw [cut_out m]
      exact e _ _ (S.ex _ _ h),
    fun a o h => by
      cases q : H a with
      | none => rw [cut_out (S.fresh q), ← nw_new (H' := H') q]; exact h
      | some u =>
        cases t : noTup u with
        | true => unfold nw at h; rw [q] at h; simp [t] at h
        | false =>
          have m : a ∉ L.map Prod.fst := fun m => by
            obtain ⟨x, hx, z⟩ := List.mem_map.mp m
            have y := (S.at_ x hx).2
            rw [z, q] at y
            have n := S.nt x hx
            rw [← Option.some.inj y, t] at n
            cases n
          rw [cut_out m, ← nw_tup (H' := H') q t]
          exact h⟩
/-- the head of L stands still from now on -/
theorem Own.freeze (S : Own G ((p, o) :: L) H) : Own (upd G p o) L H ∧ Ex G (upd G p o) ∧ upd G p o p = some o :=
  ⟨⟨fun a u h => by
      by_cases e : a = p
      · subst e
        rw [upd_same] at h
        cases h
        exact S.get0
      · rw [upd_ne e] at h
        exact S.ex _ _ h, fun x hx => ⟨by
      have ne : x.1 ≠ p := fun e => S.nin (e ▸ List.mem_map_of_mem hx)
      rw [upd_ne ne]
      exact (S.at_ x (List.mem_cons_of_mem _ hx)).1, (S.at_ x (List.mem_cons_of_mem _ hx)).2⟩, S.forget.nd, S.forget.nt⟩, Ex.new S.no0, upd_same⟩
/-- from all that is known: a call that may change the object at p -/
theorem Own.give (h : H p = some o) (ht : noTup o = true := by rfl) : Own (cut H [(p, o)]) [(p, o)] H :=
  ⟨fun a u e => by
      by_cases m : a ∈ ([(p, o)] : List (Addr × HO)).map Prod.fst
      · rw [cut_in m] at e; cases e
      · rw [cut_out m] at e; exact e, fun x hx => by
      have z : x = (p, o) := by simpa using hx
      subst z
      exact ⟨cut_in (by simp), h⟩, by simp, fun x hx => by
      have z : x = (p, o) := by simpa using hx
      subst z
      exact ht⟩
/-- behind such a call -/
theorem Own.back {L' : List (Addr × HO)} (S : Own G ((p, o) :: L) H) (T : Own (cut H [(p, o)]) ((p, o') :: L') H') : Own G ((p, o') :: L' ++ L) H' := by
  have k : ∀ a u, a ≠ p → H a = some u → H' a = some u := fun a u ne e => T.ex _ _ (by rw [cut_out (by simpa using ne)]; exact e)
  refine ⟨fun a u e => k a u (ne_of_none e S.no0) (S.ex _ _ e), fun x hx => ?_, ?_, fun x hx => (List.mem_append.mp hx).elim (T.nt x) (S.forget.nt x)⟩
  · rcases List.mem_append.mp hx with hx | hx
    · refine ⟨?_, (T.at_ x hx).2⟩
      have z := (T.at_ x hx).1
      by_cases e : x.1 = p
      · rw [e]; exact S.no0
      · rw [cut_out (by simpa using e)] at z
        exact fresh_back S.ex z
    · have ne : x.1 ≠ p := fun e => S.nin (e ▸ List.mem_map_of_mem hx)
      exact ⟨(S.at_ x (List.mem_cons_of_mem _ hx)).1, k _ _ ne (S.at_ x (List.mem_cons_of_mem _ hx)).2⟩
  · rw [List.map_append, List.nodup_append]
    refine ⟨T.nd, S.forget.nd, fun a ha b hb e => ?_⟩
    subst e
    obtain ⟨x, hx, ex⟩ := List.mem_map.mp ha
    obtain ⟨y, hy, ey⟩ := List.mem_map.mp hb
    have ne : y.1 ≠ p := fun e => S.nin (e ▸ List.mem_map_of_mem hy)
    have z := (T.at_ x hx).1
    rw [ex, ← ey, cut_out (by simpa using ne), (S.at_ y (List.mem_cons_of_mem _ hy)).2] at z
    cases z
/-- what stood still, without the object that a call may change -/
theorem Own.keep (S : Own G ((p, o) :: L) H) : Ex G (cut H [(p, o)]) := fun a u e => by
  rw [cut_out (by simpa using ne_of_none e S.no0)]
  exact S.ex _ _ e
end

/-! ### readings, one step back at a time -/
/-- a new list, a new tuple is laid -/
def NewL (xs : List V) (H : Hp) (Q : VK) : Prop := xs.length ≤ sizeLine ∧ ∀ p, H p = none → Q (.ref p) (upd H p (.lst xs))
def NewT (xs : List V) (H : Hp) (Q : VK) : Prop := xs.length ≤ sizeLine ∧ ∀ p, H p = none → Q (.ref p) (upd H p (.tup xs))
def NewR (a b : Int) (H : Hp) (Q : VK) : Prop := RgOk a b ∧ ∀ q, H q = none → Q (.ref q) (upd H q (.lst (rgV a b)))
def rTupS (K : PySem.W.Frag) : List V → Hp → VK → Prop := fun xs H Q => ∃ p ys, xs = [.ref p] ∧ ((SqL K H p ys ∧ ∀ l, H l = none → Q (.ref l) (upd H l (.tup ys))) ∨ (SqT K H p ys ∧ Q (.ref p) H))
def rInt1 : List V → Hp → VK → Prop := fun xs H Q => (∃ i, xs = [.int i] ∧ Q (.int i) H) ∨ ∃ k, xs = [.bl k] ∧ Q (.int (if k then 1 else 0)) H
def rMin2 : List V → Hp → VK → Prop := fun xs H Q => ∃ i j, xs = [.int i, .int j] ∧ Q (.int (if j < i then j else i)) H
def rMax2 : List V → Hp → VK → Prop := fun xs H Q => ∃ i j, xs = [.int i, .int j] ∧ Q (.int (if j > i then j else i)) H
def rIsN : R2 := fun x y H Q => y = .non ∧ Q (.bl (decide (x = .non))) H
def rNotN : R2 := fun x y H Q => y = .non ∧ Q (.bl (!decide (x = .non))) H
section
variable {X : Cx}
theorem call_lenN : CallR X (.builtin "len") (Evl.rLenS X.K) := call_len_seq
theorem call_listN : CallR X (.type "list") (Evl.rListS X.K) := call_list_of
theorem call_tupN : CallR X (.type "tuple") (rTupS X.K) := call_tuple_of
theorem call_intN : CallR X (.type "int") rInt1 := call_int1
theorem call_minN (hc : X.calm = true) : CallR X (.builtin "min") rMin2 := call_min2 hc
theorem call_maxN (hc : X.calm = true) : CallR X (.builtin "max") rMax2 := call_max2 hc
theorem op_isNone : OpR X (compareOp .Is) rIsN := op_isN
theorem op_notNone : OpR X (compareOp .IsNot) rNotN := op_notN
end
section
variable {K : PySem.W.Frag} {σ : L2.St} {H : Hp} {ta tb tc te : TE} {t u : TT} {tr : TA} {Q : VK} {v x y : V} {r : R2}
theorem g_var {i : Nat} (h : σ[i]? = some (some v)) (k : Q v H) : tVar i σ H Q := ⟨v, h, k⟩
theorem g_c (k : Q v H) : tC v σ H Q := k
theorem g_op (k : ta σ H fun x H1 => tb σ H1 fun y H2 => r x y H2 Q) : tOp r ta tb σ H Q := k
theorem g_un {r : V → Hp → VK → Prop} (k : ta σ H fun x H1 => r x H1 Q) : tUn r ta σ H Q := k
theorem g_I0 {g : Int → Int → V} {i j : Int} (k : Q (g i j) H) : rI0 g (.int i) (.int j) H Q := ⟨i, j, rfl, rfl, k⟩
theorem g_I {C : Int → Int → Prop} {g : Int → Int → V} {i j : Int} (c : C i j) (k : Q (g i j) H) : rI C g (.int i) (.int j) H Q := ⟨i, j, rfl, rfl, c, k⟩
theorem g_U {g : Int → V} {i : Int} (k : Q (g i) H) : rU g (.int i) H Q := ⟨i, rfl, k⟩
theorem g_eqI {i j : Int} (k : Q (.bl (decide (i = j))) H) : rEq (.int i) (.int j) H Q := ⟨rfl, by
  have e : decide (V.int i = V.int j) = decide (i = j) := by
    by_cases z : i = j
    · rw [decide_eq_true z, decide_eq_true (by rw [z])]
    · rw [decide_eq_false z, decide_eq_false (fun q => z (V.int.inj q))]
  rw [e]; exact k⟩
theorem g_neI {i j : Int} (k : Q (.bl (!decide (i = j))) H) : rNe (.int i) (.int j) H Q := ⟨rfl, by
  have e : decide (V.int i = V.int j) = decide (i = j) := by
    by_cases z : i = j
    · rw [decide_eq_true z, decide_eq_true (by rw [z])]
    · rw [decide_eq_false z, decide_eq_false (fun q => z (V.int.inj q))]
  rw [e]; exact k⟩
theorem g_neB {i j : Bool} (k : Q (.bl (!decide (i = j))) H) : rNe (.bl i) (.bl j) H Q := ⟨rfl, by
  have e : decide (V.bl i = V.bl j) = decide (i = j) := by
    by_cases z : i = j
    · rw [decide_eq_true z, decide_eq_true (by rw [z])]
    · rw [decide_eq_false z, decide_eq_false (fun q => z (V.bl.inj q))]
  rw [e]; exact k⟩
theorem g_eqB {i j : Bool} (k : Q (.bl (decide (i = j))) H) : rEq (.bl i) (.bl j) H Q := ⟨rfl, by
  have e : decide (V.bl i = V.bl j) = decide (i = j) := by
    by_cases z : i = j
    · rw [decide_eq_true z, decide_eq_true (by rw [z])]
    · rw [decide_eq_false z, decide_eq_false (fun q => z (V.bl.inj q))]
  rw [e]; exact k⟩
theorem g_cb {r : List V → Hp → VK → Prop} (k : tr σ H fun vs H1 => r vs H1 Q) : tCB r tr σ H Q := k
theorem g_call {sp : Sp} {dvs : List V} {E : XK} (k : tr σ H fun vs H1 => sp (vs ++ dvs) H1 Q E) : tCall sp dvs E tr σ H Q := k
theorem g_nil {Q : List V → Hp → Prop} (k : Q [] H) : tNil σ H Q := k
theorem g_cons {Q : List V → Hp → Prop} (k : ta σ H fun x H1 => tr σ H1 fun xs H2 => Q (x :: xs) H2) : tCons ta tr σ H Q := k
theorem g_test {Q : Bool → Hp → Prop} (k : te σ H fun x H1 => ∃ b, x = .bl b ∧ Q b H1) : tTest te σ H Q := k
theorem g_B {Q : Bool → Hp → Prop} (k : te σ H fun x H1 => ∃ b, x = .bl b ∧ Q b H1) : tB te σ H Q := k
theorem g_bl {b : Bool} {Q : Bool → Hp → Prop} (k : Q b H) : ∃ c, V.bl b = .bl c ∧ Q c H := ⟨b, rfl, k⟩
theorem g_and {Q : Bool → Hp → Prop} (k : t σ H fun c H1 => if c = true then u σ H1 Q else Q false H1) : tAnd t u σ H Q := k
theorem g_or {Q : Bool → Hp → Prop} (k : t σ H fun c H1 => if c = true then Q true H1 else u σ H1 Q) : tOr t u σ H Q := k
theorem g_not {Q : Bool → Hp → Prop} (k : t σ H fun c H1 => Q (!c) H1) : tNot t σ H Q := k
theorem g_andV (k : ta σ H fun x H1 => ∃ c, x = .bl c ∧ if c = true then tb σ H1 Q else Q (.bl false) H1) : tAndV ta tb σ H Q := k
theorem g_orV (k : ta σ H fun x H1 => ∃ c, x = .bl c ∧ if c = true then Q (.bl true) H1 else tb σ H1 Q) : tOrV ta tb σ H Q := k
theorem g_notV (k : ta σ H fun x H1 => ∃ c, x = .bl c ∧ Q (.bl (!c)) H1) : tNotV ta σ H Q := k
theorem g_exV {b : Bool} {P : Bool → Prop} (k : P b) : ∃ c, V.bl b = .bl c ∧ P c := ⟨b, rfl, k⟩
theorem g_if (k : t σ H fun c H1 => if c = true then ta σ H1 Q else tb σ H1 Q) : tIf t ta tb σ H Q := k
theorem g_chain {r' : R2} (k : ta σ H fun x H1 => tb σ H1 fun y H2 => r x y H2 fun z H3 => ∃ k, z = .bl k ∧ (if k = true then tc σ H3 fun w' H4 => r' y w' H4 Q else Q (.bl false) H3)) : tChain r r' ta tb tc σ H Q := k
theorem g_tup (k : tr σ H fun xs H1 => NewT xs H1 Q) : tTup tr σ H Q := k
theorem g_lst (k : tr σ H fun xs H1 => NewL xs H1 Q) : tLst tr σ H Q := k
theorem g_sl {rs : V → Option Int → Option Int → Hp → VK → Prop} {tl th : TO} (k : te σ H fun x H1 => tl σ H1 fun l H2 => th σ H2 fun u H3 => rs x l u H3 Q) : tSl rs te tl th σ H Q := k
theorem g_noPart {Q : Option Int → Hp → Prop} (k : Q none H) : tNoPart σ H Q := k
theorem g_part {Q : Option Int → Hp → Prop} (k : te σ H fun x H1 => ∃ i, x = .int i ∧ Q (some i) H1) : tPart te σ H Q := k
theorem g_exI {i : Int} {P : Int → Prop} (k : P i) : ∃ j, V.int i = .int j ∧ P j := ⟨i, rfl, k⟩
theorem g_bm {T : String} {rm : V → List V → Hp → VK → Prop} (k : te σ H fun x H1 => tyV K T x H1 ∧ tr σ H1 fun xs H2 => rm x xs H2 Q) : tBM K T rm te tr σ H Q := k
theorem g_bm0 {T : String} {rm : V → List V → Hp → VK → Prop} (k : te σ H fun x H1 => tyV K T x H1 ∧ rm x [] H1 Q) : tBM0 K T rm te σ H Q := k
end
section
variable {K : PySem.W.Frag} {σ : L2.St} {H : Hp} {te : TE} {tt : TT} {ts us : TS} {tr : TA} {v : V} {n b c : L2.St → Hp → Prop} {rt : VK} {g : TG}
theorem s_seq (k : ts ⟨us ⟨n, rt, b, c⟩, rt, b, c⟩ σ H) : tSeq ts us ⟨n, rt, b, c⟩ σ H := k
theorem s_next (k : n σ H) : tNext ⟨n, rt, b, c⟩ σ H := k
theorem s_brk (k : b σ H) : tBreak ⟨n, rt, b, c⟩ σ H := k
theorem s_cont (k : c σ H) : tCont ⟨n, rt, b, c⟩ σ H := k
theorem s_drop (k : te σ H fun _ H1 => n σ H1) : tDrop te ⟨n, rt, b, c⟩ σ H := k
theorem s_ret (k : te σ H rt) : tRet te ⟨n, rt, b, c⟩ σ H := k
theorem s_retN (k : rt .non H) : tRetN ⟨n, rt, b, c⟩ σ H := k
theorem s_if (k : tt σ H fun x H1 => if x = true then ts ⟨n, rt, b, c⟩ σ H1 else us ⟨n, rt, b, c⟩ σ H1) : tIfS tt ts us ⟨n, rt, b, c⟩ σ H := k
theorem s_asg (k : te σ H fun x H1 => g x σ H1 n) : tAsg te g ⟨n, rt, b, c⟩ σ H := k
theorem s_name {i : Nat} {Q : L2.St → Hp → Prop} (k : Q (σ.set i (some v)) H) : gName i v σ H Q := k
theorem s_par {i j : Nat} (k : tr σ H fun vs H1 => ∃ v w, vs = [v, w] ∧ n ((σ.set i (some v)).set j (some w)) H1) : tPar i j tr ⟨n, rt, b, c⟩ σ H := k
theorem s_two {v w : V} {P : V → V → Prop} (k : P v w) : ∃ v' w', [v, w] = [v', w'] ∧ P v' w' := ⟨v, w, rfl, k⟩
theorem s_aug {i : Nat} {ti : TIp} {x : V} (h : σ[i]? = some (some x)) (k : te σ H fun y H1 => ti x y H1 fun z H2 => n (σ.set i (some z)) H2) : tAug i te ti ⟨n, rt, b, c⟩ σ H := ⟨x, h, k⟩
theorem s_ipI {f : Int → Int → Int} {i j : Int} {Q : VK} (k : Q (.int (f i j)) H) : ipI f (.int i) (.int j) H Q := ⟨i, j, rfl, rfl, k⟩
theorem s_sub {to ti : TE} {t : TSet} {Q : L2.St → Hp → Prop} (k : to σ H fun o H1 => ti σ H1 fun i H2 => t o i v H2 fun H3 => Q σ H3) : gSub to ti t v σ H Q := k
theorem s_gtup {K : PySem.W.Frag} {m : Nat} {t : TGs} {a : Addr} {xs : List V} {Q : L2.St → Hp → Prop} (h : SqT K H a xs) (e : xs.length = m) (k : t xs σ H Q) : gTup K m t (.ref a) σ H Q := ⟨a, xs, rfl, h, e, k⟩
theorem s_gcons {t : TG} {u : TGs} {r : List V} {Q : L2.St → Hp → Prop} (k : t v σ H fun σ' H' => u r σ' H' Q) : gCons t u (v :: r) σ H Q := ⟨v, r, rfl, k⟩
theorem s_gnil {Q : L2.St → Hp → Prop} (k : Q σ H) : gNil [] σ H Q := ⟨rfl, k⟩
end
/-! ### what is read of the heap: G stands still -/
section
variable {K : PySem.W.Frag} {G H : Hp} {L : List (Addr × HO)} {p : Addr} {xs : List V} {v : V} {Q : VK}
theorem Own.sl (S : Own G L H) (h : SqL K G p xs) : SqL K H p xs := ex_l S.ex h
theorem Own.st (S : Own G L H) (h : SqT K G p xs) : SqT K H p xs := ex_t S.ex h
theorem g_ixL {i : Int} (h : SqL K H p xs) (a : atI xs i = some v) (k : Q v H) : rIxL K (.ref p) (.int i) H Q := ⟨p, xs, i, v, rfl, rfl, h, a, k⟩
theorem g_ixT {i : Int} (h : SqT K H p xs) (a : atI xs i = some v) (k : Q v H) : rIxT K (.ref p) (.int i) H Q := ⟨p, xs, i, v, rfl, rfl, h, a, k⟩
end
/-! ### calls of defs -/
/-- the def x: its promise, how its arguments come -/
def Cal (P : Program) (w : World) (K : PySem.W.Frag) (mg : Str → Option Value) (base : Heap) (k : Nat) (x : Str) (ps : List Str) (dvs : List V) (sp : Sp) : Prop :=
  ∃ (f : Addr) (fd : FuncData) (ds : List Value), FnOk P w K mg base (L2.CX P w) k f fd ps sp ∧ mg x = some (.ref f) ∧ PySem.W.keepIn K (.ref f) = true ∧ Binds K fd ps ds ∧ Vals dvs ds
/-- .. called with n positional arguments and the keywords ks -/
def CalK (P : Program) (w : World) (K : PySem.W.Frag) (mg : Str → Option Value) (base : Heap) (k : Nat) (x : Str) (ps : List Str) (n : Nat) (ks : List Str) (gV : List V → List V → List V) (sp : Sp) : Prop :=
  ∃ (f : Addr) (fd : FuncData) (g : List Value → List Value → List Value), FnOk P w K mg base (L2.CX P w) k f fd ps sp ∧ mg x = some (.ref f) ∧ PySem.W.keepIn K (.ref f) = true ∧ KBn K fd ps n ks g gV
theorem fn_up {P : Program} {w : World} {K : PySem.W.Frag} {mg : Str → Option Value} {base : Heap} {k : Nat} {f : Addr} {fd : FuncData} {ps : List Str} {sp : Sp} (F : FnOk P w K mg base CX0 k f fd ps sp) : FnOk P w K mg base (L2.CX P w) k f fd ps sp :=
  ⟨F.len, fun A outer s H args us vs Q E hr he hb hv hs => codeAny_mono (F.run A outer s H args us vs Q E hr he hb hv hs) fun r s' h => by
    cases r with
    | error e => exact (show False from h).elim
    | ok fl => cases fl <;> exact h⟩
section
variable {X : Cx} {k n : Nat} {ps ks : List Str} {sp : Sp} {dvs : List V} {E : XK} {x : Str} {p pos : Pos} {e : Expr} {es : List Expr} {kws : List Keyword} {t tk : TA} {gV : List V → List V → List V}
theorem passN : Passes (L2.CX X.prog X.w) X E0 := L2.passL
/-- f(e, ..): what is written, no defaults -/
def tCal (sp : Sp) (E : XK) (t : TA) : TE := fun σ H Q => t σ H fun vs H1 => sp vs H1 Q E
theorem pe_cal (C : Cal X.prog X.w X.K X.mg X.base k x ps [] sp) (hr : Room k X.A) (hx : Passes (L2.CX X.prog X.w) X E) (ha : PA X (e :: es) t) (hg : Gl X x := by rfl) (hdb : (x == ("__debug__" : Str)) = false := by decide)
    (he : starEach (e :: es) X.env = (false, eval e X.env) :: starEach es X.env := by rfl) (hpl : (backTo pos (starEach es X.env)).any (·.1) = false := by rfl) : PE X (.Call (.Name x p) (e :: es) [] pos) (tCal sp E t) := by
  obtain ⟨f, fd, ds, F, hm, hk, hb, hd⟩ := C
  have q : PE X (.Call (.Name x p) (e :: es) [] pos) (tCall sp [] E t) := pe_call F hr hg hm hk hb hd hx ha hdb he hpl
  refine ⟨fun pins s σ H Q I h => q.run pins s σ H Q I ?_⟩
  have e : (fun (vs : List V) (H1 : Hp) => sp (vs ++ []) H1 Q E) = (fun vs H1 => sp vs H1 Q E) := by
    funext vs H1
    rw [List.append_nil]
  show t σ H fun vs H1 => sp (vs ++ []) H1 Q E
  rw [e]
  exact h
theorem pe_calD (C : Cal X.prog X.w X.K X.mg X.base k x ps dvs sp) (hr : Room k X.A) (hx : Passes (L2.CX X.prog X.w) X E) (ha : PA X (e :: es) t) (hg : Gl X x := by rfl) (hdb : (x == ("__debug__" : Str)) = false := by decide)
    (he : starEach (e :: es) X.env = (false, eval e X.env) :: starEach es X.env := by rfl) (hpl : (backTo pos (starEach es X.env)).any (·.1) = false := by rfl) : PE X (.Call (.Name x p) (e :: es) [] pos) (tCall sp dvs E t) := by
  obtain ⟨f, fd, ds, F, hm, hk, hb, hd⟩ := C
  exact pe_call F hr hg hm hk hb hd hx ha hdb he hpl
theorem g_cal {sp : Sp} {E : XK} {tr : TA} {σ : L2.St} {H : Hp} {Q : VK} (k : tr σ H fun vs H1 => sp vs H1 Q E) : tCal sp E tr σ H Q := k
theorem g_calN {sp : Sp} {E : XK} {tr tk : TA} {n m : Nat} {gV : List V → List V → List V} {σ : L2.St} {H : Hp} {Q : VK} (k : tr σ H fun vs H1 => tk σ H1 fun zs H2 => vs.length = n ∧ zs.length = m ∧ sp (gV vs zs) H2 Q E) : tCallN n m sp gV E tr tk σ H Q := k
theorem pe_calK (C : CalK X.prog X.w X.K X.mg X.base k x ps n ks gV sp) (hr : Room k X.A) (hx : Passes (L2.CX X.prog X.w) X E) (ha : PA X (e :: es) t) (hkw : PK X kws tk) (hg : Gl X x := by rfl)
    (hall : (backToKw pos (keywordEach kws X.env)).all (·.1.isSome) = true := by rfl) (hks : (backToKw pos (keywordEach kws X.env)).filterMap (·.1) = ks := by rfl)
    (hdb : (x == ("__debug__" : Str)) = false := by decide) (he : starEach (e :: es) X.env = (false, eval e X.env) :: starEach es X.env := by rfl)
    (hpl : ((backTo pos (starEach (e :: es) X.env)).any (·.1) || (backToKw pos (keywordEach kws X.env)).any (·.1.isNone)) = false := by rfl) :
    PE X (.Call (.Name x p) (e :: es) kws pos) (tCallN n ks.length sp gV E t tk) := by
  obtain ⟨f, fd, g, F, hm, hk, hb⟩ := C
  exact pe_callN F hr hg hm hk hb hx ha hkw hall hks hdb he hpl
theorem pe_calK0 (C : CalK X.prog X.w X.K X.mg X.base k x ps 0 ks gV sp) (hr : Room k X.A) (hx : Passes (L2.CX X.prog X.w) X E) (hkw : PK X kws tk) (hg : Gl X x := by rfl)
    (hall : (backToKw pos (keywordEach kws X.env)).all (·.1.isSome) = true := by rfl) (hks : (backToKw pos (keywordEach kws X.env)).filterMap (·.1) = ks := by rfl)
    (hdb : (x == ("__debug__" : Str)) = false := by decide)
    (hpl : ((backTo pos (starEach [] X.env)).any (·.1) || (backToKw pos (keywordEach kws X.env)).any (·.1.isNone)) = false := by rfl) :
    PE X (.Call (.Name x p) [] kws pos) (tCallN 0 ks.length sp gV E tNil tk) := by
  obtain ⟨f, fd, g, F, hm, hk, hb⟩ := C
  refine ⟨fun pins s σ H Q I h => ?_⟩
  refine wpAny_Call_Name_kw (ld_glob I hg hm ?_ hdb)
  refine PySem.W.callWith_KW0 (h₀ := X.base) I.ok.mod.kin hk hall ?_ hpl
  refine thn (hkw.run pos pins s σ H _ I h) fun ws s2 ⟨zs, H2, I2, rz, l1, l2, q2⟩ => ⟨I2.kIn, ?_⟩
  rw [hks]
  exact run_fnN (us := []) (vs := []) F hr hb hx I2 .nil rz rfl l2 q2
/-- a module's whole number -/
theorem pe_cst {i : Int} (hg : Gl X x) (hm : ∃ t, X.mg x = some (.int i t)) (hd : (x == ("__debug__" : Str)) = false := by decide) : PE X (.Name x pos) (tC (.int i)) := by
  obtain ⟨t, hm⟩ := hm
  exact pe_glob hg hm ⟨t, rfl⟩ hd
/-- a op1 b op2 c op3 d -/
def tChain3 (r r' r'' : R2) (ta tb tc td : TE) : TE := fun σ H Q => ta σ H fun x H1 => tb σ H1 fun y H2 => r x y H2 fun z H3 => ∃ k, z = .bl k ∧
  (if k = true then tc σ H3 fun w H4 => r' y w H4 fun z' H5 => ∃ k', z' = .bl k' ∧ (if k' = true then td σ H5 fun w' H6 => r'' w w' H6 Q else Q (.bl false) H5) else Q (.bl false) H3)
theorem pe_chain3 {op op' op'' : CmpOp} {r r' r'' : R2} {a b c d : Expr} {ta tb tc td : TE} (ho : OpR X (compareOp op) r) (ho' : OpR X (compareOp op') r') (ho'' : OpR X (compareOp op'') r'') (ha : PE X a ta) (hb : PE X b tb) (hc : PE X c tc) (hd : PE X d td)
    (hm : lastMarks [op, op', op''] [b, c, d] = false := by with_unfolding_all rfl) : PE X (.Compare a [op, op', op''] [b, c, d] pos) (tChain3 r r' r'' ta tb tc td) := by
  refine ⟨fun pins s σ H Q I h => ?_⟩
  refine Compare_chain (thn (ha.run pins s σ H _ I h) fun v s1 ⟨x, H1, I1, r1, q1⟩ => chain_link (thn (hb.run pins s1 σ H1 _ I1 q1) fun u s2 ⟨y, H2, I2, r2, q2⟩ =>
    thn (ho pins s2 σ H2 x y v u _ I2 r1 r2 q2) fun w s3 ⟨z, H3, I3, r3, k, e, q3⟩ => ?_)) hm
  subst e
  cases r3
  refine wpAny_truthy_bool ?_
  cases k with
  | false => exact ite_ff ⟨.bl false, H3, I3, rfl, q3⟩
  | true =>
    refine ite_tt (chain_link (thn (hc.run pins s3 σ H3 _ I3 q3) fun w' s4 ⟨z', H4, I4, r4, q4⟩ => thn (ho' pins s4 σ H4 y z' u w' _ I4 r2 r4 q4) fun w5 s5 ⟨z5, H5, I5, r5, k5, e5, q5⟩ => ?_))
    subst e5
    cases r5
    refine wpAny_truthy_bool ?_
    cases k5 with
    | false => exact ite_ff ⟨.bl false, H5, I5, rfl, q5⟩
    | true => exact ite_tt (chain_last (thn (hd.run pins s5 σ H5 _ I5 q5) fun w6 s6 ⟨z6, H6, I6, r6, q6⟩ => ho'' pins s6 σ H6 z' z6 w' w6 Q I6 r4 r6 q6))
theorem g_chain3 {σ : L2.St} {H : Hp} {Q : VK} {r r' r'' : R2} {ta tb tc td : TE} (k : ta σ H fun x H1 => tb σ H1 fun y H2 => r x y H2 fun z H3 => ∃ k, z = .bl k ∧
  (if k = true then tc σ H3 fun w H4 => r' y w H4 fun z' H5 => ∃ k', z' = .bl k' ∧ (if k' = true then td σ H5 fun w' H6 => r'' w w' H6 Q else Q (.bl false) H5) else Q (.bl false) H3)) : tChain3 r r' r'' ta tb tc td σ H Q := k
end
/-! ### loops -/
/-- what a for asks of the iterator J -/
def FORJ (J : It) (g : TG) (tb : TS) (D : Ends) (σ : L2.St) (H1 : Hp) : Prop := ∃ W : Nat → Nat → L2.St → Hp → Prop, (∃ m, W 0 m σ H1) ∧ ∀ i m σ H, W i m σ H →
  (J.stop i H ∧ D.nx σ H) ∨ (J.go i H ∧ ∃ N : L2.St → Hp → Prop, (∀ σ' H', N σ' H' → ∃ m', m' < m ∧ W (i + 1) m' σ' H') ∧ ∀ x H', J.yld i H x H' → g x σ H' fun σ2 H2 => tb { D with nx := N, ct := N, bk := D.nx } σ2 H2)
/-- what a comprehension asks -/
def LCJ (J : It) (g : TG) (tt : TT) (te : TE) (vs : List Nat) (σ : L2.St) (H1 : Hp) (Q : VK) : Prop := ∀ D, H1 D = none → ∃ W : Nat → Nat → Hp → Prop, (∃ m, W 0 m (upd H1 D (.lst []))) ∧ ∀ i m H, W i m H →
  (J.stop i H ∧ Q (.ref D) H) ∨ (J.go i H ∧ ∃ Nx : Hp → Prop, (∀ H', Nx H' → ∃ m', m' < m ∧ W (i + 1) m' H') ∧ ∀ x H', J.yld i H x H' → g x (wipe σ vs) H' fun σ2 H2 => wipe σ2 vs = wipe σ vs ∧ tt σ2 H2 fun b H3 =>
    if b = true then te σ2 H3 fun y H4 => ∃ acc, H4 D = some (.lst acc) ∧ acc.length < sizeLine ∧ Nx (upd H4 D (.lst (acc ++ [y]))) else Nx H3)
section
variable {K : PySem.W.Frag} {σ : L2.St} {G H : Hp} {L : List (Addr × HO)} {te ta : TE} {tt tc : TT} {tb : TS} {tr : TA} {g : TG} {wi : TI} {vs : List Nat} {Q : VK} {n b c : L2.St → Hp → Prop} {rt : VK} {a : Addr} {xs : List V}
theorem s_for (k : wi σ H fun J H1 => FORJ J g tb ⟨n, rt, b, c⟩ σ H1) : tFor wi g tb ⟨n, rt, b, c⟩ σ H := k
theorem g_lc (k : wi σ H fun J H1 => LCJ J g tt te vs σ H1 Q) : tLc wi g tt te vs σ H Q := k
theorem g_iList {R : It → Hp → Prop} (k : te σ H fun x H1 => ∃ a, x = .ref a ∧ (∃ xs, SqL K H1 a xs) ∧ R (Itl K a) H1) : iList K te σ H R := k
theorem g_iTup {R : It → Hp → Prop} (k : te σ H fun x H1 => ∃ a, x = .ref a ∧ (∃ xs, SqT K H1 a xs) ∧ R (Itt K a) H1) : iTup K te σ H R := k
theorem g_iRng1 {R : It → Hp → Prop} (k : tr σ H fun vs H1 => ∃ j : Int, vs = [.int j] ∧ -(2 ^ 62) ≤ j ∧ j < 2 ^ 62 ∧ R (Itr 0 j.toNat) H1) : iRng1 tr σ H R := k
theorem g_iRng2 {R : It → Hp → Prop} (k : tr σ H fun vs H1 => ∃ i j : Int, vs = [.int i, .int j] ∧ (-(2 ^ 62) ≤ i ∧ i < 2 ^ 62 ∧ -(2 ^ 62) ≤ j ∧ j < 2 ^ 62) ∧ R (Itr i (j - i).toNat) H1) : iRng2 tr σ H R := k
theorem g_iEnum {R : It → Hp → Prop} (k : tr σ H fun vs H1 => ∃ a xs, vs = [.ref a] ∧ SqL K H1 a xs ∧ R (Ite K a) H1) : iEnum K tr σ H R := k
theorem s_while (W : Nat → L2.St → Hp → Prop) (m0 : Nat) (h0 : W m0 σ H)
    (hs : ∀ m σ' H', W m σ' H' → tc σ' H' fun x H1 => if x = true then ∃ N : L2.St → Hp → Prop, (∀ σ2 H2, N σ2 H2 → ∃ m', m' < m ∧ W m' σ2 H2) ∧ tb ⟨N, rt, n, N⟩ σ' H1 else n σ' H1) : tWhile tc tb ⟨n, rt, b, c⟩ σ H :=
  ⟨W, ⟨m0, h0⟩, hs⟩
theorem s_turn {m : Nat} {W : Nat → L2.St → Hp → Prop} (k : tb ⟨fun σ2 H2 => ∃ m', m' < m ∧ W m' σ2 H2, rt, n, fun σ2 H2 => ∃ m', m' < m ∧ W m' σ2 H2⟩ σ H) :
    ∃ N : L2.St → Hp → Prop, (∀ σ2 H2, N σ2 H2 → ∃ m', m' < m ∧ W m' σ2 H2) ∧ tb ⟨N, rt, n, N⟩ σ H := ⟨_, fun _ _ h => h, k⟩
theorem w_list (Pv : Nat → L2.St → Hp → Prop) (hx : SqL K H a xs) (h0 : Pv 0 σ H) (hl : ∀ i σ H, Pv i σ H → SqL K H a xs)
    (hs : ∀ i x σ H, xs[i]? = some x → Pv i σ H → g x σ H fun σ2 H2 => tb ⟨Pv (i + 1), rt, n, Pv (i + 1)⟩ σ2 H2) (hd : ∀ σ H, Pv xs.length σ H → n σ H) :
    ∃ p, V.ref a = .ref p ∧ (∃ xs, SqL K H p xs) ∧ FORJ (Itl K p) g tb ⟨n, rt, b, c⟩ σ H := ⟨a, rfl, ⟨xs, hx⟩, for_list Pv h0 (fun i σ H _ p => hl i σ H p) hs hd⟩
theorem w_tup (Pv : Nat → L2.St → Hp → Prop) (hx : SqT K H a xs) (h0 : Pv 0 σ H) (hl : ∀ i σ H, Pv i σ H → SqT K H a xs)
    (hs : ∀ i x σ H, xs[i]? = some x → Pv i σ H → g x σ H fun σ2 H2 => tb ⟨Pv (i + 1), rt, n, Pv (i + 1)⟩ σ2 H2) (hd : ∀ σ H, Pv xs.length σ H → n σ H) :
    ∃ p, V.ref a = .ref p ∧ (∃ xs, SqT K H p xs) ∧ FORJ (Itt K p) g tb ⟨n, rt, b, c⟩ σ H := ⟨a, rfl, ⟨xs, hx⟩, for_tup Pv h0 (fun i σ H _ p => hl i σ H p) hs hd⟩
theorem w_rng1 {j : Int} (Pv : Nat → L2.St → Hp → Prop) (hj : -(2 ^ 62) ≤ j ∧ j < 2 ^ 62) (h0 : Pv 0 σ H)
    (hs : ∀ (i : Nat) σ H, (i : Int) < j → Pv i σ H → g (.int (i : Int)) σ H fun σ2 H2 => tb ⟨Pv (i + 1), rt, n, Pv (i + 1)⟩ σ2 H2) (hd : ∀ σ H, Pv j.toNat σ H → n σ H) :
    ∃ j' : Int, [V.int j] = [.int j'] ∧ -(2 ^ 62) ≤ j' ∧ j' < 2 ^ 62 ∧ FORJ (Itr 0 j'.toNat) g tb ⟨n, rt, b, c⟩ σ H :=
  ⟨j, rfl, hj.1, hj.2, for_range (lo := 0) Pv h0 (fun i σ H hi p => by
    have e : (0 : Int) + (i : Int) = (i : Int) := Int.zero_add _
    rw [e]
    exact hs i σ H (by omega) p) hd⟩
theorem w_rng2 {lo j : Int} (Pv : Nat → L2.St → Hp → Prop) (hj : -(2 ^ 62) ≤ lo ∧ lo < 2 ^ 62 ∧ -(2 ^ 62) ≤ j ∧ j < 2 ^ 62) (h0 : Pv 0 σ H)
    (hs : ∀ (i : Nat) σ H, lo + (i : Int) < j → Pv i σ H → g (.int (lo + (i : Int))) σ H fun σ2 H2 => tb ⟨Pv (i + 1), rt, n, Pv (i + 1)⟩ σ2 H2) (hd : ∀ σ H, Pv (j - lo).toNat σ H → n σ H) :
    ∃ i' j' : Int, [V.int lo, V.int j] = [.int i', .int j'] ∧ (-(2 ^ 62) ≤ i' ∧ i' < 2 ^ 62 ∧ -(2 ^ 62) ≤ j' ∧ j' < 2 ^ 62) ∧ FORJ (Itr i' (j' - i').toNat) g tb ⟨n, rt, b, c⟩ σ H :=
  ⟨lo, j, rfl, hj, for_range (lo := lo) Pv h0 (fun i σ H hi p => hs i σ H (by omega) p) hd⟩
/-- over enumerate(a list): each turn's pair is a new tuple -/
theorem w_enum (Pv : Nat → L2.St → Hp → Prop) (hx : SqL K H a xs) (h0 : Pv 0 σ H) (hl : ∀ i σ H, Pv i σ H → SqL K H a xs)
    (hs : ∀ (i : Nat) x T σ H, xs[i]? = some x → Pv i σ H → H T = none → g (.ref T) σ (upd H T (.tup [.int (i : Int), x])) fun σ2 H2 => tb ⟨Pv (i + 1), rt, n, Pv (i + 1)⟩ σ2 H2) (hd : ∀ σ H, Pv xs.length σ H → n σ H) :
    ∃ p xs, [V.ref a] = [.ref p] ∧ SqL K H p xs ∧ FORJ (Ite K p) g tb ⟨n, rt, b, c⟩ σ H := by
  refine ⟨a, xs, rfl, hx, fun i m σ H => m = xs.length - i ∧ i ≤ xs.length ∧ Pv i σ H, ⟨xs.length, rfl, Nat.zero_le _, h0⟩, ?_⟩
  rintro i m σ H ⟨rfl, hi, p⟩
  have q := hl i σ H p
  by_cases hlt : i < xs.length
  · refine .inr ⟨⟨xs, xs[i], q, by simp [hlt]⟩, Pv (i + 1), fun σ' H' p' => ⟨xs.length - (i + 1), by omega, rfl, hlt, p'⟩, fun v H' y => ?_⟩
    obtain ⟨T, x, rfl, hT, rfl, hxx⟩ := y
    exact hs i x T σ H (hxx xs q) p hT
  · have e : i = xs.length := by omega
    subst e
    exact .inl ⟨⟨xs, q, Nat.le_refl _⟩, hd _ _ p⟩
/-! ### comprehensions: F says what holds behind i turns of what has been given (acc) and of what may be changed -/
def CP (G : Hp) (D : Addr) (F : Nat → List V → Hp → List (Addr × HO) → Prop) (i : Nat) (H : Hp) : Prop := ∃ acc G1 L1, Ex G G1 ∧ acc.length ≤ i ∧ F i acc G1 L1 ∧ Own G1 ((D, .lst acc) :: L1) H
def CE (G : Hp) (D : Addr) (F : Nat → List V → Hp → List (Addr × HO) → Prop) (i : Nat) (y : V) (H : Hp) : Prop := ∃ acc, H D = some (.lst acc) ∧ acc.length < sizeLine ∧ CP G D F (i + 1) (upd H D (.lst (acc ++ [y])))
theorem c_yes {F : Nat → List V → Hp → List (Addr × HO) → Prop} {D : Addr} {i : Nat} {acc : List V} {G1 : Hp} {L1 : List (Addr × HO)} {y : V} (S : Own G1 ((D, .lst acc) :: L1) H) (e : Ex G G1) (hl : acc.length ≤ i) (hi : i < 1000000) (f : F (i + 1) (acc ++ [y]) G1 L1) : CE G D F i y H :=
  ⟨acc, S.get0, Nat.lt_of_le_of_lt hl (Nat.lt_trans hi (by decide)), acc ++ [y], G1, L1, e, by rw [List.length_append]; exact Nat.succ_le_succ hl, f, S.put0⟩
theorem c_no {F : Nat → List V → Hp → List (Addr × HO) → Prop} {D : Addr} {i : Nat} {acc : List V} {G1 : Hp} {L1 : List (Addr × HO)} (S : Own G1 ((D, .lst acc) :: L1) H) (e : Ex G G1) (hl : acc.length ≤ i) (f : F (i + 1) acc G1 L1) : CP G D F (i + 1) H :=
  ⟨acc, G1, L1, e, Nat.le_succ_of_le hl, f, S⟩
theorem v_list (F : Nat → List V → Hp → List (Addr × HO) → Prop) (S : Own G L H) (hx : SqL K G a xs) (hz : xs.length ≤ 1000000) (h0 : F 0 [] G L)
    (hs : ∀ D i x acc G1 L1 H1, xs[i]? = some x → i < 1000000 → Ex G G1 → acc.length ≤ i → F i acc G1 L1 → Own G1 ((D, .lst acc) :: L1) H1 → g x (wipe σ vs) H1 fun σ2 H2 => wipe σ2 vs = wipe σ vs ∧ tt σ2 H2 fun b H3 =>
      if b = true then te σ2 H3 fun y H4 => CE G D F i y H4 else CP G D F (i + 1) H3)
    (hd : ∀ p acc G1 L1 H1, Ex G G1 → acc.length ≤ xs.length → F xs.length acc G1 L1 → Own G1 ((p, .lst acc) :: L1) H1 → Q (.ref p) H1) :
    ∃ p, V.ref a = .ref p ∧ (∃ xs, SqL K H p xs) ∧ LCJ (Itl K p) g tt te vs σ H Q :=
  ⟨a, rfl, ⟨xs, S.sl hx⟩, fun D hD => lc_list (K := K) (a := a) (xs := xs) (CP G D F) ⟨[], G, L, Ex.refl G, Nat.le_refl _, h0, S.lay hD⟩ (fun i H1 _ ⟨acc, G1, L1, e, _, _, S1⟩ => S1.sl (ex_l e hx))
    (fun i x H1 hi ⟨acc, G1, L1, e, hl, f, S1⟩ => hs D i x acc G1 L1 H1 hi (Nat.lt_of_lt_of_le (List.getElem?_eq_some_iff.mp hi).1 hz) e hl f S1) (fun H1 ⟨acc, G1, L1, e, hl, f, S1⟩ => hd D acc G1 L1 H1 e hl f S1)⟩
theorem v_tup (F : Nat → List V → Hp → List (Addr × HO) → Prop) (S : Own G L H) (hx : SqT K G a xs) (hz : xs.length ≤ 1000000) (h0 : F 0 [] G L)
    (hs : ∀ D i x acc G1 L1 H1, xs[i]? = some x → i < 1000000 → Ex G G1 → acc.length ≤ i → F i acc G1 L1 → Own G1 ((D, .lst acc) :: L1) H1 → g x (wipe σ vs) H1 fun σ2 H2 => wipe σ2 vs = wipe σ vs ∧ tt σ2 H2 fun b H3 =>
      if b = true then te σ2 H3 fun y H4 => CE G D F i y H4 else CP G D F (i + 1) H3)
    (hd : ∀ p acc G1 L1 H1, Ex G G1 → acc.length ≤ xs.length → F xs.length acc G1 L1 → Own G1 ((p, .lst acc) :: L1) H1 → Q (.ref p) H1) :
    ∃ p, V.ref a = .ref p ∧ (∃ xs, SqT K H p xs) ∧ LCJ (Itt K p) g tt te vs σ H Q :=
  ⟨a, rfl, ⟨xs, S.st hx⟩, fun D hD => lc_tup (K := K) (a := a) (xs := xs) (CP G D F) ⟨[], G, L, Ex.refl G, Nat.le_refl _, h0, S.lay hD⟩ (fun i H1 _ ⟨acc, G1, L1, e, _, _, S1⟩ => S1.st (ex_t e hx))
    (fun i x H1 hi ⟨acc, G1, L1, e, hl, f, S1⟩ => hs D i x acc G1 L1 H1 hi (Nat.lt_of_lt_of_le (List.getElem?_eq_some_iff.mp hi).1 hz) e hl f S1) (fun H1 ⟨acc, G1, L1, e, hl, f, S1⟩ => hd D acc G1 L1 H1 e hl f S1)⟩
theorem v_rng1 {j : Int} (F : Nat → List V → Hp → List (Addr × HO) → Prop) (S : Own G L H) (hj : 0 ≤ j ∧ j ≤ 1000000) (h0 : F 0 [] G L)
    (hs : ∀ D (i : Nat) acc G1 L1 H1, (i : Int) < j → i < 1000000 → Ex G G1 → acc.length ≤ i → F i acc G1 L1 → Own G1 ((D, .lst acc) :: L1) H1 → g (.int (i : Int)) (wipe σ vs) H1 fun σ2 H2 => wipe σ2 vs = wipe σ vs ∧ tt σ2 H2 fun b H3 =>
      if b = true then te σ2 H3 fun y H4 => CE G D F i y H4 else CP G D F (i + 1) H3)
    (hd : ∀ p acc G1 L1 H1, Ex G G1 → acc.length ≤ j.toNat → F j.toNat acc G1 L1 → Own G1 ((p, .lst acc) :: L1) H1 → Q (.ref p) H1) :
    ∃ j' : Int, [V.int j] = [.int j'] ∧ -(2 ^ 62) ≤ j' ∧ j' < 2 ^ 62 ∧ LCJ (Itr 0 j'.toNat) g tt te vs σ H Q :=
  ⟨j, rfl, by omega, by omega, fun D hD => lc_range (lo := 0) (n := j.toNat) (CP G D F) ⟨[], G, L, Ex.refl G, Nat.le_refl _, h0, S.lay hD⟩
    (fun i H1 hi ⟨acc, G1, L1, e, hl, f, S1⟩ => by
      have z : (0 : Int) + (i : Int) = (i : Int) := Int.zero_add _
      rw [z]
      exact hs D i acc G1 L1 H1 (by omega) (by omega) e hl f S1) (fun H1 ⟨acc, G1, L1, e, hl, f, S1⟩ => hd D acc G1 L1 H1 e hl f S1)⟩
theorem v_rng2 {lo j : Int} (F : Nat → List V → Hp → List (Addr × HO) → Prop) (S : Own G L H) (hj : -1000 ≤ lo ∧ lo ≤ 1000000 ∧ -1000 ≤ j ∧ j ≤ 900000) (h0 : F 0 [] G L)
    (hs : ∀ D (i : Nat) acc G1 L1 H1, lo + (i : Int) < j → i < 1000000 → Ex G G1 → acc.length ≤ i → F i acc G1 L1 → Own G1 ((D, .lst acc) :: L1) H1 → g (.int (lo + (i : Int))) (wipe σ vs) H1 fun σ2 H2 => wipe σ2 vs = wipe σ vs ∧ tt σ2 H2 fun b H3 =>
      if b = true then te σ2 H3 fun y H4 => CE G D F i y H4 else CP G D F (i + 1) H3)
    (hd : ∀ p acc G1 L1 H1, Ex G G1 → acc.length ≤ (j - lo).toNat → F (j - lo).toNat acc G1 L1 → Own G1 ((p, .lst acc) :: L1) H1 → Q (.ref p) H1) :
    ∃ i' j' : Int, [V.int lo, V.int j] = [.int i', .int j'] ∧ (-(2 ^ 62) ≤ i' ∧ i' < 2 ^ 62 ∧ -(2 ^ 62) ≤ j' ∧ j' < 2 ^ 62) ∧ LCJ (Itr i' (j' - i').toNat) g tt te vs σ H Q :=
  ⟨lo, j, rfl, ⟨by omega, by omega, by omega, by omega⟩, fun D hD => lc_range (lo := lo) (n := (j - lo).toNat) (CP G D F) ⟨[], G, L, Ex.refl G, Nat.le_refl _, h0, S.lay hD⟩
    (fun i H1 hi ⟨acc, G1, L1, e, hl, f, S1⟩ => hs D i acc G1 L1 H1 (by omega) (by omega) e hl f S1) (fun H1 ⟨acc, G1, L1, e, hl, f, S1⟩ => hd D acc G1 L1 H1 e hl f S1)⟩
theorem g_yes {Q : Bool → Hp → Prop} (k : Q true H) : tYes σ H Q := k
end
/-! ### tests -/
theorem if_tt {c : Bool} {A B : Prop} (e : c = true) (h : A) : if c = true then A else B := by rw [if_pos e]; exact h
theorem if_ff {c : Bool} {A B : Prop} (e : c = false) (h : B) : if c = true then A else B := by rw [if_neg (by rw [e]; exact Bool.false_ne_true)]; exact h
theorem if_2 {c : Bool} {A B : Prop} (h1 : c = true → A) (h2 : c = false → B) : if c = true then A else B := by
  cases c with
  | true => exact if_tt rfl (h1 rfl)
  | false => exact if_ff rfl (h2 rfl)
theorem dtrue' {p : Prop} [Decidable p] (h : p) : decide p = true := decide_eq_true h
theorem dfalse' {p : Prop} [Decidable p] (h : ¬p) : decide p = false := decide_eq_false h
theorem if_nt {A B : Prop} (h : B) : if (!true) = true then A else B := if_ff rfl h
theorem if_nf {A B : Prop} (h : A) : if (!false) = true then A else B := if_tt rfl h
theorem ntrue {p : Prop} [Decidable p] (h : p) : (!decide p) = false := by rw [dtrue' h]; rfl
theorem nfalse {p : Prop} [Decidable p] (h : ¬p) : (!decide p) = true := by rw [dfalse' h]; rfl
theorem dtrue {p : Prop} [Decidable p] (h : p) : decide p = true := decide_eq_true h
theorem dfalse {p : Prop} [Decidable p] (h : ¬p) : decide p = false := decide_eq_false h
theorem small {n : Nat} (h : n ≤ 10000000) : n ≤ sizeLine := Nat.le_trans h (by decide)
theorem smallL {n : Nat} (h : n ≤ 10000000) : n < sizeLine := Nat.lt_of_le_of_lt h (by decide)
section
variable {K : PySem.W.Frag} {G H : Hp} {L : List (Addr × HO)} {p : Addr} {xs : List V} {v : V} {Q : VK}
/-- a new list | a new tuple has been laid -/
theorem n_lst (S : Own G L H) (hz : xs.length ≤ 10000000) (k : ∀ p H1, H p = none → Own G ((p, .lst xs) :: L) H1 → Q (.ref p) H1) : NewL xs H Q :=
  ⟨small hz, fun p hp => k p _ hp (S.lay hp)⟩
/-- a new object stands still from now on -/
theorem Own.still {o : HO} (S : Own G L H) (hp : H p = none) : Own (upd G p o) L (upd H p o) ∧ Ex G (upd G p o) ∧ upd G p o p = some o :=
  ⟨⟨fun a u h => by
      by_cases e : a = p
      · subst e
        rw [upd_same] at h ⊢
        exact h
      · rw [upd_ne e] at h ⊢
        exact S.ex _ _ h, fun x hx => by
      have ne : x.1 ≠ p := fun e => S.fresh hp (e ▸ List.mem_map_of_mem hx)
      rw [upd_ne ne, upd_ne ne]
      exact S.at_ x hx, S.nd, S.nt⟩, Ex.new (fresh_back S.ex hp), upd_same⟩
theorem n_tup (S : Own G L H) (hz : xs.length ≤ 10000000) (k : ∀ p G1 H1, H p = none → Ex G G1 → Ex H H1 → G1 p = some (.tup xs) → Own G1 L H1 → Q (.ref p) H1) : NewT xs H Q :=
  ⟨small hz, fun p hp => k p _ _ hp (S.still hp).2.1 (Ex.new hp) (S.still hp).2.2 (S.still hp).1⟩
/-- a new list that is only read from now on -/
theorem n_lstG (S : Own G L H) (hz : xs.length ≤ 10000000) (k : ∀ p G1 H1, H p = none → Ex G G1 → Ex H H1 → G1 p = some (.lst xs) → Own G1 L H1 → Q (.ref p) H1) : NewL xs H Q :=
  ⟨small hz, fun p hp => k p _ _ hp (S.lay hp).freeze.2.1 (Ex.new hp) (S.lay hp).freeze.2.2 (S.lay hp).freeze.1⟩
/-- list(range(a, b)) -/
theorem n_rg {a b : Int} (S : Own G L H) (h : -1000 ≤ a ∧ a ≤ 1000000 ∧ -1000 ≤ b ∧ b ≤ 1000000) (k : ∀ p H1, H p = none → Own G ((p, .lst (rgV a b)) :: L) H1 → Q (.ref p) H1) : NewR a b H Q :=
  ⟨⟨by omega, by omega, by omega, by omega, by omega⟩, fun p hp => k p _ hp (S.lay hp)⟩
theorem n_rgG {a b : Int} (S : Own G L H) (h : -1000 ≤ a ∧ a ≤ 1000000 ∧ -1000 ≤ b ∧ b ≤ 1000000) (k : ∀ p G1 H1, H p = none → Ex G G1 → Ex H H1 → G1 p = some (.lst (rgV a b)) → Own G1 L H1 → Q (.ref p) H1) : NewR a b H Q :=
  ⟨⟨by omega, by omega, by omega, by omega, by omega⟩, fun p hp => k p _ _ hp (S.lay hp).freeze.2.1 (Ex.new hp) (S.lay hp).freeze.2.2 (S.lay hp).freeze.1⟩
theorem g_lrg {te : L2.St → Hp → (Int → Int → Hp → Prop) → Prop} {σ : L2.St} (k : te σ H fun a b H1 => NewR a b H1 Q) : tLstRg te σ H Q := k
theorem g_rg1 {ta : TE} {σ : L2.St} {R : Int → Int → Hp → Prop} (k : ta σ H fun x H1 => ∃ n, x = .int n ∧ R 0 n H1) : tRg1 ta σ H R := k
theorem g_rg2 {ta tb : TE} {σ : L2.St} {R : Int → Int → Hp → Prop} (k : ta σ H fun x H1 => tb σ H1 fun y H2 => ∃ i j, x = .int i ∧ y = .int j ∧ R i j H2) : tRg2 ta tb σ H R := k
theorem g_ex2I {i j : Int} {R : Int → Int → Prop} (k : R i j) : ∃ i' j', V.int i = .int i' ∧ V.int j = .int j' ∧ R i' j' := ⟨i, j, rfl, rfl, k⟩
/-- len(a list) -/
theorem n_len (h : SqL K H p xs) (k : Q (.int xs.length) H) : Evl.rLenS K [.ref p] H Q := ⟨p, xs, rfl, .inl h, k⟩
theorem n_lenT (h : SqT K H p xs) (k : Q (.int xs.length) H) : Evl.rLenS K [.ref p] H Q := ⟨p, xs, rfl, .inr h, k⟩
theorem n_int {i : Int} (k : Q (.int i) H) : rInt1 [.int i] H Q := .inl ⟨i, rfl, k⟩
theorem n_intB {b : Bool} (k : Q (.int (if b then 1 else 0)) H) : rInt1 [.bl b] H Q := .inr ⟨b, rfl, k⟩
theorem n_min {i j : Int} (k : Q (.int (min i j)) H) : rMin2 [.int i, .int j] H Q := ⟨i, j, rfl, by
  have e : (if j < i then j else i) = min i j := by split <;> omega
  rw [e]; exact k⟩
theorem n_max {i j : Int} (k : Q (.int (max i j)) H) : rMax2 [.int i, .int j] H Q := ⟨i, j, rfl, by
  have e : (if j > i then j else i) = max i j := by split <;> omega
  rw [e]; exact k⟩
/-- list(a list), tuple(a list) -/
theorem n_list (S : Own G L H) (h : SqL K H p xs) (k : ∀ p H1, H p = none → Own G ((p, .lst xs) :: L) H1 → Q (.ref p) H1) : Evl.rListS K [.ref p] H Q := ⟨p, xs, rfl, .inl h, fun p hp => k p _ hp (S.lay hp)⟩
theorem n_listT (S : Own G L H) (h : SqT K H p xs) (k : ∀ p H1, H p = none → Own G ((p, .lst xs) :: L) H1 → Q (.ref p) H1) : Evl.rListS K [.ref p] H Q := ⟨p, xs, rfl, .inr h, fun p hp => k p _ hp (S.lay hp)⟩
theorem n_tupL (S : Own G L H) (h : SqL K H p xs) (k : ∀ p G1 H1, H p = none → Ex G G1 → Ex H H1 → G1 p = some (.tup xs) → Own G1 L H1 → Q (.ref p) H1) : rTupS K [.ref p] H Q :=
  ⟨p, xs, rfl, .inl ⟨h, fun p hp => k p _ _ hp (S.still hp).2.1 (Ex.new hp) (S.still hp).2.2 (S.still hp).1⟩⟩
theorem n_isN (k : Q (.bl (decide (v = .non))) H) : rIsN v .non H Q := ⟨rfl, k⟩
theorem n_notN (k : Q (.bl (!decide (v = .non))) H) : rNotN v .non H Q := ⟨rfl, k⟩
/-- xs.append(v), the list at the head of what may be changed -/
theorem n_app (S : Own G ((p, .lst xs) :: L) H) (hz : xs.length ≤ 1000000) (k : ∀ H1, Own G ((p, .lst (xs ++ [v])) :: L) H1 → Q .non H1) : rAppend (.ref p) [v] H Q :=
  ⟨p, xs, v, rfl, rfl, S.get0, smallL (Nat.le_trans hz (by decide)), k _ S.put0⟩
theorem n_app1 {q : Addr} {o : HO} (S : Own G ((q, o) :: (p, .lst xs) :: L) H) (hz : xs.length ≤ 1000000) (k : ∀ H1, Own G ((q, o) :: (p, .lst (xs ++ [v])) :: L) H1 → Q .non H1) : rAppend (.ref p) [v] H Q :=
  ⟨p, xs, v, rfl, rfl, S.get1, smallL (Nat.le_trans hz (by decide)), k _ S.put1⟩
theorem n_app2 {q r : Addr} {o o2 : HO} (S : Own G ((r, o2) :: (q, o) :: (p, .lst xs) :: L) H) (hz : xs.length ≤ 1000000) (k : ∀ H1, Own G ((r, o2) :: (q, o) :: (p, .lst (xs ++ [v])) :: L) H1 → Q .non H1) : rAppend (.ref p) [v] H Q :=
  ⟨p, xs, v, rfl, rfl, S.get2, smallL (Nat.le_trans hz (by decide)), k _ S.put2⟩
/-- append to the j-th of what may be changed -/
theorem n_appM {j : Nat} (S : Own G L H) (h : L[j]? = some (p, .lst xs)) (hz : xs.length ≤ 1000000) (k : ∀ H1, Own G (L.set j (p, .lst (xs ++ [v]))) H1 → Q .non H1) : rAppend (.ref p) [v] H Q :=
  ⟨p, xs, v, rfl, rfl, S.getM (List.mem_of_getElem? h), smallL (Nat.le_trans hz (by decide)), k _ (S.putM h)⟩
theorem cutV_to (xs : List V) (i : Nat) : cutV xs none (some (i : Int)) = xs.take i := by
  unfold cutV
  rw [HT.sIx_none, HT.sIx_nat, List.drop_zero, Nat.sub_zero]
  by_cases h : i ≤ xs.length
  · rw [Nat.min_eq_left h]
  · rw [Nat.min_eq_right (by omega), List.take_length, List.take_of_length_le (by omega)]
theorem cutV_from (xs : List V) (i : Nat) : cutV xs (some (i : Int)) none = xs.drop i := by
  unfold cutV
  rw [HT.sIx_none, HT.sIx_nat]
  by_cases h : i ≤ xs.length
  · rw [Nat.min_eq_left h]
    exact List.take_of_length_le (by rw [List.length_drop]; omega)
  · rw [Nat.min_eq_right (by omega), List.drop_length, List.drop_of_length_le (by omega), List.take_nil]
theorem cutV_all (xs : List V) : cutV xs none none = xs := by
  unfold cutV
  rw [HT.sIx_none, HT.sIx_none, List.drop_zero, Nat.sub_zero, List.take_length]
/-- xs[lo:hi] of a list, read from now on -/
theorem n_sl {lo hi : Option Int} (S : Own G L H) (h : SqL K H p xs) (k : ∀ p G1 H1, H p = none → Ex G G1 → Ex H H1 → G1 p = some (.lst (cutV xs lo hi)) → Own G1 L H1 → Q (.ref p) H1) : rSlL K (.ref p) lo hi H Q :=
  ⟨p, xs, rfl, h, fun p hp => k p _ _ hp (S.still hp).2.1 (Ex.new hp) (S.still hp).2.2 (S.still hp).1⟩
theorem n_slL {lo hi : Option Int} (S : Own G L H) (h : SqL K H p xs) (k : ∀ p H1, H p = none → Own G ((p, .lst (cutV xs lo hi)) :: L) H1 → Q (.ref p) H1) : rSlL K (.ref p) lo hi H Q :=
  ⟨p, xs, rfl, h, fun p hp => k p _ hp (S.lay hp)⟩
theorem tyL (h : SqL K H p xs) : tyV K "list" (.ref p) H := .inl ⟨rfl, xs, h⟩
theorem Own.l0 (S : Own G ((p, .lst xs) :: L) H) : SqL K H p xs := SqL.of S.get0
theorem Own.l1 {q : Addr} {o : HO} (S : Own G ((q, o) :: (p, .lst xs) :: L) H) : SqL K H p xs := SqL.of S.get1
theorem Own.l2 {q r : Addr} {o o2 : HO} (S : Own G ((r, o2) :: (q, o) :: (p, .lst xs) :: L) H) : SqL K H p xs := SqL.of S.get2
end
/-! ### attributes -/
def GETF (K : PySem.W.Frag) (x : V) (f : Str) (H : Hp) (Q : VK) : Prop := ∃ a C dx fs v, x = .ref a ∧ H a = some (.ins C dx fs) ∧ Cls K C ∧ NoAttr K C f ∧ fs.lookup f = some v ∧ Q v H
def SETF (K : PySem.W.Frag) (x : V) (f : Str) (y : V) (H : Hp) (R : Hp → Prop) : Prop := ∃ a C dx fs, x = .ref a ∧ H a = some (.ins C dx fs) ∧ Cls K C ∧ NoAttr K C f ∧ fs.length < 1000 ∧ R (upd H a (.ins C dx (putF f y fs)))
section
variable {K : PySem.W.Frag} {σ : L2.St} {G H : Hp} {L : List (Addr × HO)} {ta tv : TE} {f : Str} {Q : VK} {n b c : L2.St → Hp → Prop} {rt : VK} {a C dx : Addr} {fs : List (Str × V)} {v y : V}
theorem g_fld (k : ta σ H fun x H1 => GETF K x f H1 Q) : tFld K ta f σ H Q := k
theorem s_fld (k : tv σ H fun y H1 => ta σ H1 fun x H2 => SETF K x f y H2 (n σ)) : sFld K ta tv f ⟨n, rt, b, c⟩ σ H := k
theorem n_fld (h : H a = some (.ins C dx fs)) (c : Cls K C) (n : NoAttr K C f) (l : fs.lookup f = some v) (k : Q v H) : GETF K (.ref a) f H Q := ⟨a, C, dx, fs, v, rfl, h, c, n, l, k⟩
theorem n_setF {R : Hp → Prop} (S : Own G ((a, .ins C dx fs) :: L) H) (c : Cls K C) (n : NoAttr K C f) (hl : fs.length < 1000) (k : ∀ H1, Own G ((a, .ins C dx (putF f y fs)) :: L) H1 → R H1) : SETF K (.ref a) f y H R := ⟨a, C, dx, fs, rfl, S.get0, c, n, hl, k _ S.put0⟩
end
/-! ### list + list, also of lists that are only known -/
def rCatL (K : PySem.W.Frag) : R2 := fun x y H Q => ∃ l b xs zs, x = .ref l ∧ y = .ref b ∧ SqL K H l xs ∧ SqL K H b zs ∧ xs.length + zs.length ≤ sizeLine ∧ ∀ p, H p = none → Q (.ref p) (upd H p (.lst (xs ++ zs)))
theorem op_catL {X : Cx} : OpR X (binaryOp .Add) (rCatL X.K) := by
  intro pins s σ H x y v u Q I rx ry h
  obtain ⟨l, b, xs, zs, rfl, rfl, hH, hB, hz, q⟩ := h
  cases rx
  cases ry
  obtain ⟨its, r, hl, h1⟩ := I.list hH
  obtain ⟨its2, r2, hb, h2⟩ := I.list hB
  obtain ⟨⟨cls, dd, data, sl⟩, ho, hc, n, hd⟩ := id hl.isList
  obtain ⟨⟨cls2, dd2, data2, sl2⟩, ho2, hc2, n2, hd2⟩ := id hb.isList
  simp only at hc hd hc2 hd2
  subst hc hd hc2 hd2
  have e : its.toArray ++ its2.toArray = (its ++ its2).toArray := by simp
  have hl1 := r.length
  have hl2 := r2.length
  refine concat_meets ⟨_, ho, rfl⟩ ⟨_, ho2, rfl⟩ noFill_list_add seq_list_add PySem.F.slot_list_add PySem.F.entry_list_add (PySem.F.args_list_add_2 _ _) (list_addW l b its.toArray its2.toArray n n2 dd dd2 sl sl2 (by simp; omega)) ⟨ho, ho2, ?_⟩
  rw [e]
  exact ⟨.ref _, _, I.lnew (t' := s.toks) (r.append r2) (by rw [List.length_append]; exact hz), rfl, q _ I.fresh⟩
theorem n_cat {K : PySem.W.Frag} {G H : Hp} {L : List (Addr × HO)} {l b : Addr} {xs zs : List V} {Q : VK} (S : Own G L H) (hx : SqL K H l xs) (hz : SqL K H b zs) (h : xs.length + zs.length ≤ 10000000) (k : ∀ p H1, H p = none → Own G ((p, .lst (xs ++ zs)) :: L) H1 → Q (.ref p) H1) : rCatL K (.ref l) (.ref b) H Q :=
  ⟨l, b, xs, zs, rfl, rfl, hx, hz, small h, fun p hp => k p _ hp (S.lay hp)⟩
theorem n_catG {K : PySem.W.Frag} {G H : Hp} {L : List (Addr × HO)} {l b : Addr} {xs zs : List V} {Q : VK} (S : Own G L H) (hx : SqL K H l xs) (hz : SqL K H b zs) (h : xs.length + zs.length ≤ 10000000) (k : ∀ p G1 H1, H p = none → Ex G G1 → Ex H H1 → G1 p = some (.lst (xs ++ zs)) → Own G1 L H1 → Q (.ref p) H1) : rCatL K (.ref l) (.ref b) H Q :=
  ⟨l, b, xs, zs, rfl, rfl, hx, hz, small h, fun p hp => k p _ _ hp (S.still hp).2.1 (Ex.new hp) (S.still hp).2.2 (S.still hp).1⟩
/-! ### methods, new instances -/
/-- the method m of the class at C -/
def Mth (P : Program) (w : World) (K : PySem.W.Frag) (mg : Str → Option Value) (base : Heap) (k : Nat) (C : Addr) (m : Str) (ps : List Str) (sp : Sp) : Prop :=
  ∃ (f : Addr) (fd : FuncData), Meth K C m f ∧ FnOk P w K mg base (L2.CX P w) k f fd ps sp ∧ Binds K fd ps []
/-- the class x at C, made by an __init__ that keeps sp -/
def Cnw (P : Program) (w : World) (K : PySem.W.Frag) (mg : Str → Option Value) (base : Heap) (k : Nat) (x : Str) (C : Addr) (ps : List Str) (sp : Sp) : Prop :=
  ∃ (f : Addr) (fd : FuncData), Mk K C f ∧ FnOk P w K mg base (L2.CX P w) k f fd ps sp ∧ mg x = some (.ref C) ∧ Binds K fd ps []
def INS (C : Addr) (m : Str) (x : V) (H : Hp) : Prop := ∃ a dx fs, x = .ref a ∧ H a = some (.ins C dx fs) ∧ fs.lookup m = none
def tMth (C : Addr) (m : Str) (sp : Sp) (E : XK) (ta : TE) (t : TA) : TE := fun σ H Q => ta σ H fun x H1 => INS C m x H1 ∧ t σ H1 fun vs H2 => sp (x :: vs) H2 Q E
def MAKE (C : Addr) (sp : Sp) (E : XK) (vs : List V) (H1 : Hp) (Q : VK) : Prop := ∀ x dx, H1 x = none → H1 dx = none → dx ≠ x → sp (.ref x :: vs) (upd (upd H1 dx (.own x)) x (.ins C dx [])) (fun v H2 => v = .non ∧ Q (.ref x) H2) E
def tNew (C : Addr) (sp : Sp) (E : XK) (t : TA) : TE := fun σ H Q => t σ H fun vs H1 => MAKE C sp E vs H1 Q
section
variable {X : Cx} {k : Nat} {C : Addr} {m x : Str} {ps : List Str} {sp : Sp} {E : XK} {o e : Expr} {es : List Expr} {ta : TE} {t : TA} {p apos pos : Pos}
theorem pe_mth {pl : Sem Bool} (he : PE X o ta) (M : Mth X.prog X.w X.K X.mg X.base k C m ps sp) (c : Cls X.K C) (hr : Room k X.A) (hx : Passes (L2.CX X.prog X.w) X E) (ha : PA X (e :: es) t)
    (ht : eval (.Call (.Attribute o m apos) (e :: es) [] pos) X.env = (do
      let ov ← eval o X.env
      standAt apos.atName
      let (f, first) ← holding [ov] (getMethod ov m pl)
      callWith pos f first (backTo pos (starEach (e :: es) X.env)) (backToKw pos (keywordEach [] X.env))) := by rfl)
    (hst : starEach (e :: es) X.env = (false, eval e X.env) :: starEach es X.env := by rfl) (hpl : (backTo pos (starEach es X.env)).any (·.1) = false := by rfl) :
    PE X (.Call (.Attribute o m apos) (e :: es) [] pos) (tMth C m sp E ta t) := by
  obtain ⟨f, fd, hm, F, hb⟩ := M
  have q : PE X (.Call (.Attribute o m apos) (e :: es) [] pos) (tMeth C m sp [] E ta t) := pe_meth (pl := pl) he c hm F hr hb .nil hx ha hst hpl ht
  refine ⟨fun pins s σ H Q I h => q.run pins s σ H Q I ?_⟩
  have e : ∀ x : V, (fun (vs : List V) (H1 : Hp) => sp (x :: (vs ++ [])) H1 Q E) = (fun vs H1 => sp (x :: vs) H1 Q E) := fun x => by
    funext vs H1
    rw [List.append_nil]
  have e2 : (fun (x : V) (H1 : Hp) => ∃ a dx fs, x = .ref a ∧ H1 a = some (.ins C dx fs) ∧ fs.lookup m = none ∧ t σ H1 fun vs H2 => sp (x :: (vs ++ [])) H2 Q E) = (fun x H1 => INS C m x H1 ∧ t σ H1 fun vs H2 => sp (x :: vs) H2 Q E) := by
    funext x H1
    rw [e x]
    exact propext ⟨fun ⟨a, dx, fs, h1, h2, h3, h4⟩ => ⟨⟨a, dx, fs, h1, h2, h3⟩, h4⟩, fun ⟨⟨a, dx, fs, h1, h2, h3⟩, h4⟩ => ⟨a, dx, fs, h1, h2, h3, h4⟩⟩
  show ta σ H fun x H1 => ∃ a dx fs, x = .ref a ∧ H1 a = some (.ins C dx fs) ∧ fs.lookup m = none ∧ t σ H1 fun vs H2 => sp (x :: (vs ++ [])) H2 Q E
  rw [e2]
  exact h
theorem pe_mth0 {pl : Sem Bool} (he : PE X o ta) (M : Mth X.prog X.w X.K X.mg X.base k C m ps sp) (c : Cls X.K C) (hr : Room k X.A) (hx : Passes (L2.CX X.prog X.w) X E)
    (ht : eval (.Call (.Attribute o m apos) [] [] pos) X.env = (do
      let ov ← eval o X.env
      standAt apos.atName
      let (f, first) ← holding [ov] (getMethod ov m pl)
      callWith pos f first (backTo pos (starEach [] X.env)) (backToKw pos (keywordEach [] X.env))) := by rfl) :
    PE X (.Call (.Attribute o m apos) [] [] pos) (tMth C m sp E ta tNil) := by
  obtain ⟨f, fd, hm, F, hb⟩ := M
  have q : PE X (.Call (.Attribute o m apos) [] [] pos) (tMeth C m sp [] E ta tNil) := pe_meth0 (pl := pl) he c hm F hr hb .nil hx ht
  refine ⟨fun pins s σ H Q I h => q.run pins s σ H Q I ?_⟩
  have e2 : (fun (x : V) (H1 : Hp) => ∃ a dx fs, x = .ref a ∧ H1 a = some (.ins C dx fs) ∧ fs.lookup m = none ∧ sp (x :: ([] ++ [])) H1 Q E) = (fun x H1 => INS C m x H1 ∧ sp (x :: []) H1 Q E) := by
    funext x H1
    exact propext ⟨fun ⟨a, dx, fs, h1, h2, h3, h4⟩ => ⟨⟨a, dx, fs, h1, h2, h3⟩, h4⟩, fun ⟨⟨a, dx, fs, h1, h2, h3⟩, h4⟩ => ⟨a, dx, fs, h1, h2, h3, h4⟩⟩
  show ta σ H fun x H1 => ∃ a dx fs, x = .ref a ∧ H1 a = some (.ins C dx fs) ∧ fs.lookup m = none ∧ sp (x :: ([] ++ [])) H1 Q E
  rw [e2]
  exact h
theorem pe_new (N : Cnw X.prog X.w X.K X.mg X.base k x C ps sp) (hr : Room (k + 1) X.A) (hx : Passes (L2.CX X.prog X.w) X E) (ha : PA X (e :: es) t) (hg : Gl X x := by rfl)
    (hdb : (x == ("__debug__" : Str)) = false := by decide) (he : starEach (e :: es) X.env = (false, eval e X.env) :: starEach es X.env := by rfl) (hpl : (backTo pos (starEach es X.env)).any (·.1) = false := by rfl) :
    PE X (.Call (.Name x p) (e :: es) [] pos) (tNew C sp E t) := by
  obtain ⟨f, fd, M, F, hm, hb⟩ := N
  have q : PE X (.Call (.Name x p) (e :: es) [] pos) (tMake C sp [] E t) := pe_make M F hr hg hm hb .nil hx ha hdb he hpl
  refine ⟨fun pins s σ H Q I h => q.run pins s σ H Q I ?_⟩
  have e2 : (fun (vs : List V) (H1 : Hp) => ∀ x dx, H1 x = none → H1 dx = none → dx ≠ x → sp (.ref x :: (vs ++ [])) (upd (upd H1 dx (.own x)) x (.ins C dx [])) (fun v H2 => v = .non ∧ Q (.ref x) H2) E) = (fun vs H1 => MAKE C sp E vs H1 Q) := by
    funext vs H1
    rw [List.append_nil] <;> rfl
  show t σ H fun vs H1 => ∀ x dx, H1 x = none → H1 dx = none → dx ≠ x → sp (.ref x :: (vs ++ [])) (upd (upd H1 dx (.own x)) x (.ins C dx [])) (fun v H2 => v = .non ∧ Q (.ref x) H2) E
  rw [e2]
  exact h
theorem g_mth {σ : L2.St} {H : Hp} {Q : VK} (k : ta σ H fun x H1 => INS C m x H1 ∧ t σ H1 fun vs H2 => sp (x :: vs) H2 Q E) : tMth C m sp E ta t σ H Q := k
theorem g_new {σ : L2.St} {H : Hp} {Q : VK} (k : t σ H fun vs H1 => MAKE C sp E vs H1 Q) : tNew C sp E t σ H Q := k
end
/-! ### len, == and != of instances -/
section
variable {prog : Program} {w : World} {A : Around} {E : Value → Shared → Prop} {s : Shared} {K : PySem.W.Frag} {x y C f L : Addr} {h₀ : Heap} {m : Str → Option Value} {ox : Obj} {od : Option Obj}
theorem ifBound_objNe {M : Model} {args : List Value} {Q : Option Value → Shared → Prop} (X : K.In s.heap) (I : PySem.W.InstAt s.heap x ox C od) (hs : PySem.W.findIn K (.ref C) "__ne__" = some (some (.builtin "object.__ne__")))
    (h : wpAny M A (call (.builtin "object.__ne__") (.ref x :: args)) (fun v => Q (some v)) E s) : wpAny M A (callSpecialIfBound? (.ref x) "__ne__" args) Q E s := by
  simp only [callSpecialIfBound?, bindSpecialIfBound?]
  refine wpAny_holding (wpAny_bind (wpAny_bind (wpAny_bind (I.type.here ((PySem.W.looks_findIn X hs).here ?_)))))
  refine wpAny_bind (wpAny_askSetting (wpAny_ite ?_))
  have fin : wpAny M A (call (.builtin "object.__ne__") ([.ref x] ++ args) >>= fun v => pure (some v)) Q E s := wpAny_bind (wpAny_mono h (fun v s' h' => wpAny_pure h') fun _ _ h' => h')
  split
  · exact wpAny_bind (wpAny_of_eq (PySem.F.cmp_object.ne.bind _) (wpAny_pure (by exact fin)))
  · exact wpAny_tryCatch (wpAny_bind (wpAny_of_eq (PySem.F.cmp_object.ne.bind _) (wpAny_pure (by exact fin))))
theorem entry_objNe (X : K.In s.heap) (I : PySem.W.InstAt s.heap x ox C od) (hs : PySem.W.findIn K (.ref C) "__eq__" = some (some (.ref f))) (hf : PySem.W.isFn K (.ref f) = true) (hu : A.units < cLine) {Q : Fin → Shared → Prop}
    (hcall : wpAny (model prog w) A (call (.ref f) [.ref x, .ref y]) (fun v s' => ∃ b, v = .bool b ∧ Q (.done (.ret (.bool (!b)))) s') E s) :
    wpAny (model prog w) A (Builtin.«object.__ne__» ⟨[.ref x, .ref y], []⟩) Q E s := by
  unfold Builtin.«object.__ne__»
  repeat (first
    | with_reducible refine wpAny_cRoomFor hu ?_
    | (refine wpAny_bind (m := callSpecialIfBound? (.ref x) (Str.ofString "__eq__") [.ref y])
        (PySem.W.ifBound_K X I hs hf (wpAny_mono hcall (fun r s' hr => by
          obtain ⟨b, rfl, hq⟩ := hr
          repeat (first | exact hq | exact wpAny_pure hq | exact wpAny_truthy_bool hq | (refine wpAny_bind (m := truthy (.bool _)) (wpAny_truthy_bool ?_)) | wp_step)) fun _ _ e => e)))
    | wp_step)
theorem ne_K {tb : Value} {Q : Value → Shared → Prop} (hu : A.units + 1 < cLine) (Fm : Fr h₀ L s.heap m) (X₀ : K.In h₀) (I : PySem.W.InstAt s.heap x ox C od) (hb : PySem.W.Looks (model prog w) s.heap (typeOf (.ref y)) tb) (hn : PySem.W.notFirst K C tb = true)
    (hne : PySem.W.findIn K (.ref C) "__ne__" = some (some (.builtin "object.__ne__"))) (hm : PySem.W.mroIn K C (.type "object") = some true)
    (hs : PySem.W.findIn K (.ref C) "__eq__" = some (some (.ref f))) (hf : PySem.W.isFn K (.ref f) = true)
    (h : wpAny (model prog w) A.in1 (call (.ref f) [.ref x, .ref y]) (fun v s' => ∃ b, v = .bool b ∧ Q (.bool (!b)) s') E s) : wpAny (model prog w) A (richCompare .NotEq (.ref x) (.ref y)) Q E s := by
  have X := X₀.keeps Fm.keep
  have one : wpAny (model prog w) A (tryCompare (.ref x) (cmpInfo .NotEq).2.1 (.ref y)) (fun r s' => ∃ v, r = some v ∧ Q v s') E s := by
    rw [cmpInfo_NotEq]
    unfold tryCompare
    refine wpAny_bind (ifBound_objNe X I hne (wpAny_call (codeAny_call_builtin PySem.F.cmp_object.ne.plain PySem.F.cmpEntry_ne (PySem.W.check_slot PySem.F.cmpKind_ne PySem.F.cmpSplit_ne (I.type.andThen (PySem.W.looks_mroIn X hm)) (PySem.F.cmpArgs_ne _ _)
      (entry_objNe (A := A.in1) X I hs hf (show A.in1.units < cLine from hu) (wpAny_mono h (fun v s' hv => ?_) fun _ _ e => e))))))
    obtain ⟨b, rfl, hq⟩ := hv
    first | exact ⟨b, rfl, wpAny_pure ⟨_, rfl, hq⟩⟩ | exact ⟨b, rfl, wpAny_pure (wpAny_pure ⟨_, rfl, hq⟩)⟩ | exact ⟨b, rfl, ⟨_, rfl, hq⟩⟩
  unfold richCompare
  simp only [oneThing_ref]
  refine wpAny_holding (wpAny_bind (wpAny_cRoomFor (Nat.lt_of_succ_lt hu) ?_))
  refine wpAny_bind (I.type.here (wpAny_bind (hb.here ?_)))
  split
  · rename_i q
    have e : PySem.W.subIn K tb (.ref C) = some false := by
      rcases Bool.or_eq_true_iff.mp hn with e | e
      · rw [beq_iff_eq.mp e] at q; simp at q
      · exact beq_iff_eq.mp e
    refine wpAny_bind ((PySem.W.looks_subIn X e).here ?_)
    simp only [Bool.false_eq_true, if_false]
    refine wpAny_bind (wpAny_mono one (fun r s' z => ?_) fun _ _ e => e)
    obtain ⟨v, rfl, hq⟩ := z
    exact wpAny_pure hq
  · refine wpAny_bind (wpAny_pure ?_)
    simp only [Bool.false_eq_true, if_false]
    refine wpAny_bind (wpAny_mono one (fun r s' z => ?_) fun _ _ e => e)
    obtain ⟨v, rfl, hq⟩ := z
    exact wpAny_pure hq
end
end NX

namespace NX
open PySem PySem.Spec PyProof.Rows L2
open Evl (Ex ex_l ex_t fresh_back)
open LamX (CodeO TabS Tabs ExtN TabB LamS lamEnv lamCx lam_make2 lam_start2 run_ofS tLam codeO_ne)
/-! ### tuples of the same values -/
def sameV : V → Bool
  | .non => true | .bl _ => true | .int _ => true | .str _ => true | .ref _ => true
  | _ => false
theorem eqAt_sm {A : Around} {s : Shared} {v : V} {u u' : Value} (r : RelV v u) (r' : RelV v u') (f : sameV v = true) : SeqAt.EqAt A s u u' true := by
  cases v with
  | ref a => cases (show u = Value.ref a from r); cases (show u' = Value.ref a from r'); exact SeqAt.EqAt.same _
  | non => cases (show u = Value.none from r); cases (show u' = Value.none from r'); exact SeqAt.EqAt.same _
  | bl b => cases (show u = Value.bool b from r); cases (show u' = Value.bool b from r'); exact SeqAt.EqAt.same _
  | int i =>
    obtain ⟨t, rfl⟩ := (show ∃ t, u = Value.int i t from r)
    obtain ⟨t', rfl⟩ := (show ∃ t, u' = Value.int i t from r')
    have q := SeqAt.EqAt.int_int (A := A) (s := s) i t i t'
    rw [beq_self_eq_true] at q; exact q
  | str i =>
    obtain ⟨t, rfl⟩ := (show ∃ t, u = Value.str i t from r)
    obtain ⟨t', rfl⟩ := (show ∃ t, u' = Value.str i t from r')
    have q := SeqAt.EqAt.str_str (A := A) (s := s) i t i t'
    rw [beq_self_eq_true] at q; exact q
  | _ => simp [sameV] at f
theorem vals_sm {A : Around} {s : Shared} : ∀ {xs : List V} {us ws : List Value}, Vals xs us → Vals xs ws → (∀ x ∈ xs, sameV x = true) → ∀ (j : Nat) (h1 : j < us.length) (h2 : j < ws.length), SeqAt.EqAt A s us[j] ws[j] true
  | _, _, _, .nil, .nil, _, j, h1, _ => absurd h1 (Nat.not_lt_zero j)
  | _, _, _, .cons a b, .cons a' b', f, 0, _, _ => eqAt_sm a a' (f _ List.mem_cons_self)
  | _, _, _, .cons a b, .cons a' b', f, j + 1, h1, h2 => vals_sm b b' (fun x hx => f x (List.mem_cons_of_mem _ hx)) j (Nat.lt_of_succ_lt_succ h1) (Nat.lt_of_succ_lt_succ h2)
def rSm (K : PySem.W.Frag) (r : Bool) : R2 := fun x y H Q => ∃ a b xs, x = .ref a ∧ y = .ref b ∧ SqT K H a xs ∧ SqT K H b xs ∧ (∀ v ∈ xs, sameV v = true) ∧ Q (.bl r) H
theorem op_eqSm {X : Cx} {K : PySem.W.Frag} (hu : X.A.units < cLine) (e : X.K = K := by rfl) : OpR X (compareOp .Eq) (rSm K true) := by
  subst e
  intro pins s σ H x y v u Q I rx ry h
  obtain ⟨a, b, xs, rfl, rfl, h1, h2, hf, q⟩ := h
  cases rx
  cases ry
  obtain ⟨us, r1, t1, _⟩ := I.tuple h1
  obtain ⟨ws, r2, t2, _⟩ := I.tuple h2
  have z := SeqAt.RcAt.tuples (e := fun _ => true) t1 t2 hu (fun j j1 j2 => by
    have := vals_sm (A := X.A.in1) (s := s) r1 r2 hf j (by simpa using j1) (by simpa using j2)
    simpa using this)
  have e : ((List.range (min us.toArray.size ws.toArray.size)).all (fun _ => true) && us.toArray.size == ws.toArray.size) = true := by
    have l1 := r1.length
    have l2 := r2.length
    simp
    omega
  rw [e] at z
  exact z X.prog X.w _ _ ⟨.bl true, H, I, rfl, q⟩
theorem op_neSm {X : Cx} {K : PySem.W.Frag} (hu : X.A.units < cLine) (e : X.K = K := by rfl) : OpR X (compareOp .NotEq) (rSm K false) := by
  subst e
  intro pins s σ H x y v u Q I rx ry h
  obtain ⟨a, b, xs, rfl, rfl, h1, h2, hf, q⟩ := h
  cases rx
  cases ry
  obtain ⟨us, r1, t1, _⟩ := I.tuple h1
  obtain ⟨ws, r2, t2, _⟩ := I.tuple h2
  have z := SeqAt.RcNeAt.tuples (e := fun _ => true) t1 t2 hu (fun j j1 j2 => by
    have := vals_sm (A := X.A.in1) (s := s) r1 r2 hf j (by simpa using j1) (by simpa using j2)
    simpa using this)
  have e : (!((List.range (min us.toArray.size ws.toArray.size)).all (fun _ => true) && us.toArray.size == ws.toArray.size)) = false := by
    have l1 := r1.length
    have l2 := r2.length
    simp
    omega
  rw [e] at z
  exact z X.prog X.w _ _ ⟨.bl false, H, I, rfl, q⟩
theorem n_sm {K : PySem.W.Frag} {r : Bool} {H : Hp} {a b : Addr} {xs : List V} {Q : VK} (h1 : SqT K H a xs) (h2 : SqT K H b xs) (hf : ∀ v ∈ xs, sameV v = true) (k : Q (.bl r) H) : rSm K r (.ref a) (.ref b) H Q := ⟨a, b, xs, rfl, rfl, h1, h2, hf, k⟩
/-! ### isinstance of a caught exception that has fields -/
/-- what isinstance asks of the class D -/
structure ExcD (K : PySem.W.Frag) (D : Addr) : Prop where
  cl : (PySem.W.clsIn K D).isSome = true
  hg : PySem.W.findIn K (.ref D) "__getattribute__" = some (some (.builtin "BaseException.__getattribute__"))
  hk : PySem.W.findIn K (.ref D) "__getattr__" = some none
  hs : PySem.W.subIn K (.ref D) (.type "BaseException") = some true
  ha : PySem.W.findIn K (.ref D) "__class__" = some (some (.builtin "object.__class__"))
  hn : PySem.W.specialIn K (.builtin "object.__class__") "__get__" = some (some (.builtin "getset_descriptor.__get__"))
  ht : PySem.W.takesIn K (.builtin "object.__class__") = some true
  hm : PySem.W.mroIn K D (.type "object") = some true
def rIsX (K : PySem.W.Frag) (a : Addr) (cls : Value) (d : Option Addr) : List V → Hp → VK → Prop := fun xs H Q => ∃ (D dd : Addr) (fs : List (Str × V)) (c : V) (b : Bool), cls = .ref D ∧ d = some dd ∧ H dd = some (.xd fs) ∧ ExcD K D ∧ xs = [.ref a, c] ∧
  ((∃ cv, ClsV c cv ∧ PySem.W.kitOne K (.ref D) cv = some b) ∨ ∃ (tp : Addr) (cs : List V) (us : List Value), c = .ref tp ∧ H tp = some (.tup cs) ∧ Paired ClsV cs us ∧ PySem.W.kitAny K (.ref D) us = some b) ∧ Q (.bl b) H
theorem call_isX {X : Cx} {K : PySem.W.Frag} {a : Addr} {cls : Value} {d : Option Addr} {oe : Obj} {pn : List (Addr × Obj)} (hz : Zc cls d oe) (hf : ∃ vs, oe.data = .fields vs) (e : X.K = K := by rfl) : CallR (X.suite a ((a, oe) :: pn)) (.builtin "isinstance") (rIsX K a cls d) := by
  subst e
  intro pins s σ H xs us Q I r h
  obtain ⟨D, dd, fs, c, b, rfl, rfl, hd, C, rfl, hc, q⟩ := h
  obtain ⟨u1, u2, rfl, r1, r2⟩ := vals2 r
  cases (show u1 = Value.ref a from r1)
  obtain ⟨hget, _⟩ := I.pin (a, oe) (List.mem_append.mpr (.inl List.mem_cons_self))
  obtain ⟨mA, hns, _⟩ := (show ObjOk X.prog X.w H s.heap dd (.xd fs) from I.hok dd _ hd)
  obtain ⟨od, hod⟩ : ∃ od, s.heap.get? dd = some od := by
    obtain ⟨o, es, ep, h1, _⟩ := hns
    exact ⟨o, h1⟩
  obtain ⟨vs, hv⟩ := hf
  have J : PySem.W.InstAt s.heap a oe D (some od) := by
    obtain ⟨oc, odd, oda, osl⟩ := oe
    obtain ⟨h1, h2⟩ := hz
    dsimp only at h1 h2 hv
    subst h1 h2 hv
    exact ⟨hget, rfl, rfl, hod⟩
  have Z := PySem.W.kitx_exc (x := a) (ox := oe) (od := some od) C.cl C.hg C.hk C.hs C.ha C.hn C.ht C.hm
  rcases hc with ⟨cv, hcv, hk⟩ | ⟨tp, cs, ws, rfl, htp, hcs, hk⟩
  · have ec := hcv.eq r2
    subst ec
    exact PySem.W.kia_one Z I.kIn J hk (fun z => nomatch z) fun tk => ⟨.bl b, H, I.kept (t' := tk) fun _ _ z => z, rfl, q⟩
  · cases (show u2 = Value.ref tp from r2)
    obtain ⟨_, its, rv, o, h1, h2, n, h3⟩ := (show ObjOk X.prog X.w H s.heap tp (.tup cs) from I.hok tp _ htp)
    have e3 := ClsV.all hcs rv
    subst e3
    obtain ⟨oc, odd, dt, sl⟩ := o
    simp only at h2 h3
    subst h2 h3
    exact PySem.W.kia_tup Z I.kIn J h1 hk (fun z => nomatch z) fun tk => ⟨.bl b, H, I.kept (t' := tk) fun _ _ z => z, rfl, q⟩
/-- a class's name as a value -/
theorem pe_cls {X : Cx} {x : Str} {C : Addr} {pos : Pos} (hm : X.mg x = some (.ref C)) (hg : Gl X x := by rfl) (hd : (x == ("__debug__" : Str)) = false := by decide) : PE X (.Name x pos) (tC (.ref C)) := pe_glob (v := .ref C) hg hm rfl hd
/-! ### a def whose code object is known -/
structure FunC (K : PySem.W.Frag) (x qual : Str) (st : Stmt) (f : Addr) (fd : FuncData) (c : Addr) : Prop where
  ex : ∃ (oc : Value) (od : Option Addr) (kV doc pm : Value) (an : Option Addr) (ct : Value) (osl : Array (Option Value)),
    fd = PySem.W.fnOf x qual (defArgs st) (defBody st) (defScope st) .none kV doc pm an (.ref c) ct ∧ K.lookup f = some ⟨oc, od, .func fd, osl⟩ ∧ PySem.W.codeIn K (.ref c) qual = true
section
variable {P : Program} {w : World} {K : PySem.W.Frag} {mg : Str → Option Value} {base : Heap}
theorem FunC.ok {x qual : Str} {st : Stmt} {f c : Addr} {fd : FuncData} {N ps : List Str} {k : Nat} {sp : Sp} (F : FunC K x qual st f fd c) (S : FnScope N ps (defScope st)) (len : ∀ vs H Q E, sp vs H Q E → vs.length = ps.length)
    (hb : ∀ (A : Around) (outer : List Env) (s : Shared) (H : Hp) (vs : List V) (Q : VK) (E : XK), Room k (A.deeper (envOfC qual (defScope st) s.heap.objs.size f (.ref c))) → sp vs H Q E →
      ∃ t, PSs (cxOf CX0 P w K mg base N qual (defScope st) f (.ref c) A outer s H E).nox (defBody st) t ∧ t ⟨fun _ H' => Q .non H', Q, fun _ _ => False, fun _ _ => False⟩ (L2.start N vs) H) : FnOk P w K mg base CX0 (k + 1) f fd ps sp := by
  obtain ⟨oc, od, kV, doc, pm, an, ct, osl, rfl, lk, hcd⟩ := F.ex
  refine fn_of lk hcd S len fun A outer s H vs Q E hr hsp => ?_
  obtain ⟨t, h, q⟩ := hb A outer s H vs Q E hr hsp
  exact ⟨t, h.nox, q⟩
end
/-! ### a lambda handed to a def, what it raises wished for at the def's slots -/
section
variable {X : Cx} {pins : List (Addr × Obj)} {σ : L2.St} {H : Hp} {s : Shared}
/-- the def x's context, entered at s -/
abbrev inCx (X : Cx) (Ng : List Str) (x : Str) (sg : Scope) (g : Addr) (cdg : Value) (s : Shared) (H : Hp) : Cx := cxOf CX0 X.prog X.w X.K X.mg X.base Ng x sg g cdg X.A X.stack s H E0
/-- what a() reads, a the def's parameter -/
def tAct (f c' : Addr) (q : Str) (W : WX) (tl : XK → Hp → VK → Prop) : TE := fun σZ HZ Q => σZ[0]? = some (some (.ref f)) ∧ HZ c' = some (CodeO c' q) ∧ tl (fun cls d H' => W cls d σZ H') HZ Q
theorem pe_actS {Ng : List Str} {x : Str} {sg : Scope} {g f c' : Addr} {cdg pm ctv : Value} {params : Arguments} {body : Expr} {scope : Scope} {k : Nat} {a : Str} {pn : List (Addr × Obj)} {xe : Value → Shared → Prop} {W : WX} {tb : XK → TE} {p1 p2 : Pos}
    (I : Inv X pins σ H s) (L : LamS X.env.scope scope) (hf : s.heap.get? f = some (PySem.W.kla_obj "<lambda>" (X.env.qual ++ "<lambda>") params body scope (cloFrom X.env.cells scope.names []) pm c' ctv)) (hfn : H f = none) (hfr : f ∉ frs X.stack)
    (hbind : bindArgs (PySem.W.kla_fn "<lambda>" (X.env.qual ++ "<lambda>") params body scope (cloFrom X.env.cells scope.names []) pm (.ref c') ctv) ⟨[], []⟩ = pure [])
    (tk : Takes ((inCx X Ng x sg g cdg s H).tr pn xe) W) (hr : Room (k + 1) (X.A.deeper (envOfC x sg s.heap.objs.size g cdg)))
    (hbody : ∀ (E : XK) (A : Around) (outer : List Env) (s : Shared) (H : Hp), Room k (A.deeper (lamEnv X scope s.heap.objs.size f c')) → PE (lamCx X A outer s H E scope f c') body (tb E))
    (hN : Ng[0]? = some a) (hv : Vis sg a) (hd : (a == ("__debug__" : Str)) = false := by decide) (hcd : (a == ("__classdict__" : Str)) = false := by decide) :
    PE ((inCx X Ng x sg g cdg s H).tr pn xe) (.Call (.Name a p1) [] [] p2) (tAct f c' (X.env.qual ++ "<lambda>") W fun E H' Q' => tb E σ H' Q') := by
  refine ⟨fun pinsZ sZ σZ HZ Q IZ ⟨hs, hc, ht⟩ => ?_⟩
  have nm := (pe_var (pos := p1) (i := 0) hN hv hd hcd).run pinsZ sZ σZ HZ (fun v H1 => v = .ref f ∧ H1 = HZ) IZ ⟨.ref f, hs, rfl, rfl⟩
  refine wpAny_Call_Name_kw (thn nm fun u s1 ⟨v, H1, I1, r1, ev, eH⟩ => ?_)
  subst ev
  rw [eH] at I1
  cases (show u = Value.ref f from r1)
  have at1 := I1.base.keep f _ hf hfn hfr (fun z => nomatch (show f ∈ ([] : List Addr) from z))
  refine PySem.W.callWith_F0 ⟨_, _, _, _, at1⟩ ?_
  have un : Un (frs X.stack) [] H HZ s.heap s1.heap := I1.base
  obtain ⟨⟨oc, vs, t, hoc, hdc, hvc⟩, _, _⟩ := I1.hok c' _ hc
  have rc : codeAny (model X.prog X.w) (X.A.deeper (envOfC x sg s.heap.objs.size g cdg)) (.call (.ref f) ⟨[], []⟩)
      (CR (L2.CX X.prog X.w) (envOfC x sg s.heap.objs.size g cdg :: X.stack) X.prog X.w HZ s1 Q fun cls d H' => W cls d σZ H') s1 := by
    refine PySem.W.kla_callFunE hr.depth at1 rfl L.co L.gen rfl ⟨c', oc, vs, t, rfl, hoc, hdc, hvc⟩ ?_
    rw [hbind]
    refine wpAny_pure (wpAny_newFunctionEnv (fun y hy => (L.own y hy).2) (fun y hy => absurd hy (by simp)) (fun h₁ hns hsb => ⟨I1.nolimit.fresh _ hsb, ?_⟩) L.kind)
    show codeAny _ _ (.expr body (lamEnv X scope s1.heap.objs.size f c')) _ _
    have J := lam_start2 (f := f) (c' := c') (tk := s1.toks + ([] : List (Str × Value)).length) (E := fun cls d H' => W cls d σZ H') I L I1.env0 hr.hd un hns fun b o e => hsb.extBut b o (Nat.ne_of_lt (Heap.lt_size e)) (Heap.get?_push_of_some _ e)
    refine PySem.W.kla_codeExpr (wpAny_mono ((hbody _ _ _ s1 HZ (hr.deeper _)).run [] _ _ HZ Q J ht) (fun v s' hq => ?_) fun e s' hq => hq)
    obtain ⟨w', H', J', rv, q⟩ := hq
    exact ⟨w', H', J'.os, J'.bare, J'.base, J'.hok, rv, q⟩
  refine wpAny_call (codeAny_mono rc fun r s' hq => ?_)
  cases r with
  | error e => exact passAt tk σZ pinsZ HZ s1 e s' I1 hq
  | ok fl =>
    cases fl with
    | ret u => exact I1.after hq
    | next => exact False.elim hq
    | brk => exact False.elim hq
    | cont => exact False.elim hq
/-- the def x that calls what it got: TT says what it makes of the lambda's reading -/
def GivesS (X : Cx) (Ng : List Str) (x : Str) (sg : Scope) (g : Addr) (cdg : Value) (bg : List Stmt) (a : Str) (q : Str) (TT : (XK → Hp → VK → Prop) → Hp → VK → Prop) : Prop :=
  ∀ (f c' : Addr) (s : Shared) (H : Hp) (Q : VK) (tl : XK → Hp → VK → Prop), (∀ (W : WX) (pn : List (Addr × Obj)) (xe : Value → Shared → Prop) (p1 p2 : Pos), Takes ((inCx X Ng x sg g cdg s H).tr pn xe) W → PE ((inCx X Ng x sg g cdg s H).tr pn xe) (.Call (.Name a p1) [] [] p2) (tAct f c' q W tl)) →
    H c' = some (CodeO c' q) → TT tl H Q → ∃ t, PSs (inCx X Ng x sg g cdg s H).nox bg t ∧ t ⟨fun _ H' => Q .non H', Q, fun _ _ => False, fun _ _ => False⟩ (L2.start Ng [.ref f]) H
/-- such a def, by its name -/
def LamDef (P : Program) (w : World) (K : PySem.W.Frag) (mg : Str → Option Value) (base : Heap) (x a : Str) (TT : (XK → Hp → VK → Prop) → Hp → VK → Prop) : Prop :=
  ∃ (g : Addr) (Ng : List Str) (st : Stmt) (oc kV doc pm cdv ct : Value) (an od : Option Addr) (osl : Array (Option Value)), mg x = some (.ref g) ∧ PySem.W.keepIn K (.ref g) = true ∧ K.lookup g = some ⟨oc, od, .func (PySem.W.fnOf x x (defArgs st) (defBody st) (defScope st) .none kV doc pm an cdv ct), osl⟩ ∧ PySem.W.codeIn K cdv x = true ∧
    L2.Binds K (PySem.W.fnOf x x (defArgs st) (defBody st) (defScope st) .none kV doc pm an cdv ct) [a] [] ∧ FnScope Ng [a] (defScope st) ∧ Ng[0]? = some a ∧ Vis (defScope st) a ∧ ∀ (X : Cx) (q : Str), X.prog = P → X.w = w → X.K = K → X.mg = mg → X.base = base → GivesS X Ng x (defScope st) g cdv (defBody st) a q TT
theorem pe_lamS {T : List (Addr × Str)} {TT : (XK → Hp → VK → Prop) → Hp → VK → Prop} {x a : Str} {c P : Addr} {k : Nat} {params : Arguments} {body : Expr} {scope : Scope} {t : XK → TE} {p lpos pos : Pos} (D : LamDef X.prog X.w X.K X.mg X.base x a TT)
    (TB : TabB X.base X.mg c P) (hmT : (P, X.env.qual ++ "<lambda>") ∈ T) (hu : ∀ p ∈ T, p.1 = P → p.2 = X.env.qual ++ "<lambda>") (hr : Room (k + 2) X.A)
    (hbody : ∀ (A : Around) (outer : List Env) (s : Shared) (H : Hp) (E : XK) (f c' : Addr), Room k (A.deeper (lamEnv X scope s.heap.objs.size f c')) → PE (lamCx X A outer s H E scope f c') body (t E)) (L : LamS X.env.scope scope) (hcode : X.env.code = .ref c := by rfl)
    (hbind : ∀ (q : Str) (cl : List (Str × Addr)) (pm cv ctv : Value), bindArgs (PySem.W.kla_fn "<lambda>" q params body scope cl pm cv ctv) ⟨[], []⟩ = pure [] := by intros; rfl) (hdef : defaultsOf params X.env = ([], []) := by rfl) (hg : Gl X x := by rfl)
    (hdb : (x == ("__debug__" : Str)) = false := by decide) (hd : (a == ("__debug__" : Str)) = false := by decide) (hcd : (a == ("__classdict__" : Str)) = false := by decide) :
    PE X (.Call (.Name x p) [.Lambda params body scope lpos] [] pos) (tLam T TT t) := by
  obtain ⟨g, Ng, st, oc, kV, doc, pm, cdv, ct, an, od, osl, hm, hk, lk, hcg, hb, Sg, hNg, hva, hG⟩ := D
  refine ⟨fun pins s σ H Q I ⟨hT, h⟩ => ?_⟩
  refine wpAny_Call_Name_kw (ld_glob I hg hm (PySem.W.callWith_K (h₀ := X.base) I.ok.mod.kin hk ?_ (by rfl) (by rfl)) hdb)
  show wpAny _ _ (spliced ((false, eval (.Lambda params body scope lpos) X.env) :: backTo pos (starEach [] X.env))) _ _ s
  have mk := lam_make2 (body := body) (pos := lpos) (E := X.xe) I TB hcode hmT hu hT hdef (L.has I.ok) (Q := fun v s' => ∃ f, v = .ref f ∧ wpAny (model X.prog X.w) X.A (call (.ref g) [.ref f]) (EP X pins σ Q) X.xe s' ∧ X.K.In s'.heap) fun f c' pm' ctv H1 s' I1 eN T1 hf hfn hfr hco => ⟨f, rfl, ?_, I1.kIn⟩
  · refine Calls.spliced_cons (wpAny_mono mk (fun v s' ⟨f, ev, hq, hin⟩ => ?_) fun _ _ z => z)
    subst ev
    exact Calls.spliced_nil ⟨hin, hq⟩
  · have rc : codeAny (model X.prog X.w) X.A (.call (.ref g) ⟨[.ref f], []⟩) (CR CX0 X.stack X.prog X.w H1 s' Q E0) s' :=
      run_ofS (N := Ng) (ps := [a]) (us := [.ref f]) (vs := [.ref f]) lk hcg Sg hr I1.env0 (hb s' [.ref f] I1.kIn rfl) (.cons rfl .nil) rfl fun hr' => by
        obtain ⟨t', ht', hq'⟩ := hG X _ rfl rfl rfl rfl rfl f c' s' H1 Q (fun E H' Q' => t E σ H' Q') (fun W pn xe p1 p2 tk => pe_actS I1 L hf hfn hfr (hbind _ _ _ _ _) tk hr' (fun E A outer s H hr2 => hbody A outer s H E f c' hr2) hNg hva hd hcd) hco (h H1 eN T1)
        exact ⟨t', ht'.nox, hq'⟩
    refine wpAny_call (codeAny_mono rc fun r s2 hq => ?_)
    cases r with
    | error e => exact (show False from hq).elim
    | ok fl =>
      cases fl with
      | ret u => exact I1.after hq
      | next => exact False.elim hq
      | brk => exact False.elim hq
      | cont => exact False.elim hq
end
/-! ### the table of the maker's lambdas among what may be changed -/
/-- without the tables -/
def noT (G : Hp) : Hp := fun a => match G a with
  | some (.tbl _) => none
  | o => o
theorem noT_of {G : Hp} {a : Addr} {o : HO} (h : G a = some o) (ne : ∀ ps, o ≠ .tbl ps) : noT G a = some o := by
  unfold noT
  rw [h]
  cases o with
  | tbl ps => exact absurd rfl (ne ps)
  | _ => rfl
theorem of_noT {G : Hp} {a : Addr} {o : HO} (h : noT G a = some o) : G a = some o ∧ ∀ ps, o ≠ .tbl ps := by
  unfold noT at h
  cases e : G a with
  | none => rw [e] at h; cases h
  | some u =>
    rw [e] at h
    cases u with
    | tbl ps => cases h
    | _ => cases h; exact ⟨rfl, fun ps z => by cases z⟩
theorem ex_noT (G : Hp) : Ex (noT G) G := fun a o h => (of_noT h).1
theorem Ex.noT {G H : Hp} (e : Ex G H) : Ex (NX.noT G) (NX.noT H) := fun a o h => noT_of (e _ _ (of_noT h).1) (of_noT h).2
/-- a table's rows, their code objects known in G -/
def TabG (G : Hp) (ps : Array Value) (q : Str) : Prop := TriplesOk ps.toList ∧ ∀ (pos : Pos) (cv : Value), codeAmong pos ps.toList = some cv → ∃ c, cv = .ref c ∧ G c = some (CodeO c q)
theorem TabG.mono {G G' : Hp} {ps : Array Value} {q : Str} (h : TabG G ps q) (e : Ex G G') : TabG G' ps q := ⟨h.1, fun pos cv hc => let ⟨c, e1, e2⟩ := h.2 pos cv hc; ⟨c, e1, e _ _ e2⟩⟩
theorem TabG.noT {G : Hp} {ps : Array Value} {q : Str} (h : TabG G ps q) : TabG (NX.noT G) ps q := ⟨h.1, fun pos cv hc => let ⟨c, e1, e2⟩ := h.2 pos cv hc; ⟨c, e1, noT_of e2 codeO_ne⟩⟩
theorem TabG.nil (G : Hp) (q : Str) : TabG G #[] q := ⟨True.intro, fun pos cv hc => by
  have z : codeAmong pos [] = some cv := hc
  simp [codeAmong] at z⟩
theorem n_lam {TT : (XK → Hp → VK → Prop) → Hp → VK → Prop} {t : XK → TE} {σ : L2.St} {G H : Hp} {L : List (Addr × HO)} {P : Addr} {ps : Array Value} {q : Str} {Q : VK} (S : Own G ((P, .tbl ps) :: L) H) (tg : TabG G ps q) (hL : ∀ p ∈ L, ∃ xs, p.2 = .lst xs)
    (k : ∀ G1 H1 ps1, Ex (noT G) G1 → Own G1 ((P, .tbl ps1) :: L) H1 → TabG G1 ps1 q → TT (fun E H' Q' => t E σ H' Q') H1 Q) : tLam [(P, q)] TT t σ H Q := by
  have hP := S.get0
  refine ⟨fun p hp => ?_, fun H1 eN T1 => ?_⟩
  · have e : p = (P, q) := by simpa using hp
    subst e
    exact ⟨ps, hP, tg.1, fun pos cv hc => let ⟨c, e1, e2⟩ := tg.2 pos cv hc; ⟨c, e1, S.ex _ _ e2⟩⟩
  · obtain ⟨ps1, hP1, ht1, hc1⟩ := T1 (P, q) (by simp)
    have hP1 : H1 P = some (.tbl ps1) := hP1
    have hLk : ∀ p ∈ L, H1 p.1 = some p.2 := fun p hp => eN _ _ (S.at_ p (List.mem_cons_of_mem _ hp)).2 fun qs z => by
      obtain ⟨xs, e⟩ := hL p hp
      rw [e] at z
      cases z
    have out : ∀ c, H1 c = some (CodeO c q) → c ∉ ((P, HO.tbl ps1) :: L).map Prod.fst := fun c hc m => by
      rcases List.mem_cons.mp m with e | m
      · have e : c = P := e
        rw [e, hP1] at hc
        unfold CodeO at hc
        cases hc
      · obtain ⟨p, hp, e⟩ := List.mem_map.mp m
        have z := hLk p hp
        obtain ⟨xs, e2⟩ := hL p hp
        rw [e, hc, e2] at z
        unfold CodeO at z
        cases z
    refine k (cut H1 ((P, .tbl ps1) :: L)) H1 ps1 (fun a o h => ?_) ⟨fun a u h => ?_, fun p hp => ⟨cut_in (List.mem_map_of_mem hp), ?_⟩, S.nd, fun p hp => ?_⟩ ⟨ht1, fun pos cv hc => ?_⟩
    · obtain ⟨h1, h2⟩ := of_noT h
      have m : a ∉ ((P, HO.tbl ps1) :: L).map Prod.fst := fun m => by
        have m' : a ∈ ((P, HO.tbl ps) :: L).map Prod.fst := m
        obtain ⟨p, hp, e⟩ := List.mem_map.mp m'
        have z := (S.at_ p hp).1
        rw [e, h1] at z
        cases z
      rw [cut_out m]
      exact eN _ _ (S.ex _ _ h1) h2
    · by_cases m : a ∈ ((P, HO.tbl ps1) :: L).map Prod.fst
      · rw [cut_in m] at h; cases h
      · rw [cut_out m] at h; exact h
    · rcases List.mem_cons.mp hp with rfl | hp
      · exact hP1
      · exact hLk p hp
    · rcases List.mem_cons.mp hp with rfl | hp
      · rfl
      · exact S.nt p (List.mem_cons_of_mem _ hp)
    · obtain ⟨c, e1, e2⟩ := hc1 pos cv hc
      exact ⟨c, e1, by rw [cut_out (out c e2)]; exact e2⟩
theorem g_act {f c' : Addr} {q : Str} {W : WX} {tl : XK → Hp → VK → Prop} {σ : L2.St} {H : Hp} {Q : VK} (h1 : σ[0]? = some (some (.ref f))) (h2 : H c' = some (CodeO c' q)) (k : tl (fun cls d H' => W cls d σ H') H Q) : tAct f c' q W tl σ H Q := ⟨h1, h2, k⟩
end NX

namespace NX
open PySem PySem.Spec PyProof.Rows L2
/-! ### rules with the fragment named: for bodies of comprehensions -/
section
variable {X : Cx} {K : PySem.W.Frag}
theorem call_lenK (e : X.K = K := by rfl) : CallR X (.builtin "len") (Evl.rLenS K) := e ▸ call_lenN
theorem call_listK (e : X.K = K := by rfl) : CallR X (.type "list") (Evl.rListS K) := e ▸ call_listN
theorem call_tupK (e : X.K = K := by rfl) : CallR X (.type "tuple") (rTupS K) := e ▸ call_tupN
theorem call_isiK' (e : X.K = K := by rfl) : CallR X (.builtin "isinstance") (rIsi K) := e ▸ call_isi
theorem cr_sortedIK (e : X.K = K := by rfl) : CallR X (.builtin "sorted") (rSortedI K) := e ▸ cr_sortedI
theorem cr_sortedPOK (e : X.K = K := by rfl) : CallR X (.builtin "sorted") (rSortedPO K) := e ▸ cr_sortedPO
theorem cr_sumK (hc : X.calm = true) (e : X.K = K := by rfl) : CallR X (.builtin "sum") (rSum K) := e ▸ cr_sum hc
theorem cr_maxK (hc : X.calm = true) (e : X.K = K := by rfl) : CallR X (.builtin "max") (rMax K) := e ▸ cr_max hc
theorem cr_minK (hc : X.calm = true) (e : X.K = K := by rfl) : CallR X (.builtin "min") (rMin K) := e ▸ cr_min hc
theorem cr_allK (hc : X.calm = true) (e : X.K = K := by rfl) : CallR X (.builtin "all") (rAll K) := e ▸ cr_all hc
theorem ix_listK (e : X.K = K := by rfl) : IxR X (rIxL K) := e ▸ ix_list
theorem ix_tupK (e : X.K = K := by rfl) : IxR X (rIxT K) := e ▸ ix_tup
theorem sl_listK (e : X.K = K := by rfl) : SlR X (rSlL K) := e ▸ sl_list
theorem sl_tupAK (e : X.K = K := by rfl) : SlR X (rSlA K) := e ▸ sl_tupA
theorem op_in_seqK (e : X.K = K := by rfl) : OpR X (compareOp .In) (rIn K false) := e ▸ op_in_seq
theorem op_notIn_seqK (e : X.K = K := by rfl) : OpR X (compareOp .NotIn) (rIn K true) := e ▸ op_notIn_seq
theorem op_eqDK (hu : X.A.units + 64 < cLine) (e : X.K = K := by rfl) : OpR X (compareOp .Eq) (rEqD K) := e ▸ op_eqD hu
theorem op_neDK (hu : X.A.units + 64 < cLine) (e : X.K = K := by rfl) : OpR X (compareOp .NotEq) (rNeD K) := e ▸ op_neD hu
theorem op_inDK (hu : X.A.units + 65 < cLine) (e : X.K = K := by rfl) : OpR X (compareOp .In) (rInD K) := e ▸ op_inD hu
theorem op_notInDK (hu : X.A.units + 65 < cLine) (e : X.K = K := by rfl) : OpR X (compareOp .NotIn) (rNotInD K) := e ▸ op_notInD hu
theorem op_catLK (e : X.K = K := by rfl) : OpR X (binaryOp .Add) (rCatL K) := e ▸ op_catL
theorem op_catAK (e : X.K = K := by rfl) : OpR X (binaryOp .Add) (rCatA K) := e ▸ op_catA
theorem op_repTK (e : X.K = K := by rfl) : OpR X (binaryOp .Mult) (rRepT K) := e ▸ op_repT
theorem mt_indexK (e : X.K = K := by rfl) : MtR X "list.index" (rIndex K) := e ▸ mt_index
theorem pe_fldK {e : Expr} {ta : TE} {f : Str} {pos : Pos} (he : PE X e ta) (hb : attributeBase e f X.env (eval e X.env) = eval e X.env) (h : X.K = K := by rfl) : PE X (.Attribute e f pos) (tFld K ta f) := h ▸ pe_fld he hb
theorem pi_listK {tg l : Expr} {tl : TE} (hl : PE X l tl) (h : X.K = K := by rfl) : PI X tg l (iList K tl) := h ▸ pi_list hl
theorem pi_tupK {tg l : Expr} {tl : TE} (hl : PE X l tl) (h : X.K = K := by rfl) : PI X tg l (iTup K tl) := h ▸ pi_tup hl
theorem pg_tupK {es : List Expr} {k : Nat} {t : TGs} {n : Nat} {pos : Pos} (hc : X.calm = true) (h : PGs X es t) (e : X.K = K := by rfl)
    (hn : (assignEach es X.env).length = n := by rfl) (hst : (assignEach es X.env).findIdx? (·.1) = none := by rfl) : PG X (.Tuple es k pos) (gTup K n t) := e ▸ pg_tup hc h hn hst
theorem pe_bmK {o e : Expr} {es : List Expr} {to : TE} {t : TA} {name : Str} {apos cpos : Pos} {T id : String} {r : V → List V → Hp → VK → Prop} (pa : PlainAttrs T) (slot : Slot T name id) (hty : typeOf (.builtin id) = pure (.type "method_descriptor")) (hm : MtR X id r) (ho : PE X o to) (ha : PA X (e :: es) t)
    (h : X.K = K := by rfl) (hbase : attributeBase o name X.env (eval o X.env) = eval o X.env := by rfl)
    (hfew : ((backTo cpos (starEach (e :: es) X.env)).all (fun x => !x.1) && (backToKw cpos (keywordEach [] X.env)).all (fun x => x.1.isSome)
      && decide ((e :: es).length + ([] : List Keyword).length + (if ([] : List Keyword).isEmpty then 0 else 1) < 30)) = true := by rfl)
    (hline : (apos.endLine == cpos.line) = true := by rfl) (hs : starEach (e :: es) X.env = (false, eval e X.env) :: starEach es X.env := by rfl) (hplain : (backTo cpos (starEach es X.env)).any (·.1) = false := by rfl) :
    PE X (.Call (.Attribute o name apos) (e :: es) [] cpos) (tBM K T r to t) := h ▸ pe_bm pa slot hty hm ho ha hbase hfew hline hs hplain
end
end NX

namespace NX
open PySem PySem.Spec PyProof.Rows L2
open Evl (Ex ex_l ex_t fresh_back)
/-! ### exceptions of own classes with one field -/
/-- the base class's name, at C0: its __init__ is ValueError's -/
structure BaseC (K : PySem.W.Frag) (C0 : Addr) : Prop where
  rd : PySem.W.readsIn K C0 (.type "type") = true
  ga : PySem.W.specialIn K (.ref C0) "__getattribute__" = some (some (.builtin "type.__getattribute__"))
  vV : PySem.W.findCls K (.ref C0) (.type "type") "__init__" = some (.val (.builtin "ValueError.__init__"))
section
variable {X : Cx} {e : Expr} {es : List Expr} {ta : TA} {p1 p2 pos : Pos} {x : Str} {C0 : Addr}
theorem pe_oeinit {K : PySem.W.Frag} {pl : Sem Bool} (hm : X.mg x = some (.ref C0)) (B : BaseC X.K C0) (ha : PA X (e :: es) ta) (hK : X.K = K := by rfl) (hg : Gl X x := by rfl) (hdb : (x == ("__debug__" : Str)) = false := by decide)
    (hc : eval (.Call (.Attribute (.Name x p1) "__init__" p2) (e :: es) [] pos) X.env = (do
      let ov ← eval (.Name x p1) X.env
      standAt p2.atName
      let (f, first) ← holding [ov] (getMethod ov "__init__" pl)
      callWith pos f first (backTo pos (starEach (e :: es) X.env)) (backToKw pos (keywordEach [] X.env))) := by rfl)
    (he : starEach (e :: es) X.env = (false, eval e X.env) :: starEach es X.env := by rfl) (hpl : (backTo pos (starEach es X.env)).any (·.1) = false := by rfl) :
    PE X (.Call (.Attribute (.Name x p1) "__init__" p2) (e :: es) [] pos) (tVeI K ta) := by
  subst hK
  refine ⟨fun pins s σ H Q I h => ?_⟩
  refine PySem.W.methodCall_KW (ld_glob I hg hm ?_ hdb) hc
  refine PySem.W.method_cls I.kIn B.ga (PySem.W.cls_value I.kIn B.rd B.vV (by decide +kernel) ?_)
  refine PyProof.Rows.callWith_method1 (thn (ha.run pos pins _ σ H _ (I.tok _) h) fun us s1 ⟨vs, H1, I1, r1, a, C, ws, ev, hl, T, ea, q⟩ => ?_) he hpl
  subst ev
  cases r1 with
  | @cons _ u1 _ ur ra rw1 =>
    obtain rfl : u1 = Value.ref a := ra
    have hlen := Paired.length rw1
    exact oinit_ok T I1 ea (by rw [sizeLine_eq]; omega) fun s' J => ⟨.non, H1, J, rfl, q⟩
end
def spExInit (K : PySem.W.Frag) (C : Addr) (f : Str) : Sp := fun vs H Q _ => ∃ (a : Addr) (v : V), vs = [.ref a, v] ∧ H a = some (exo a C none) ∧ OexC K C ∧ ∀ dx, H dx = none → dx ≠ a → Q .non (upd (upd H dx (exd dx [(f, v)])) a (exo a C (some dx)))
/-- the class x at C: raised with one value, kept as the field f -/
def Exn (P : Program) (w : World) (K : PySem.W.Frag) (mg : Str → Option Value) (base : Heap) (x : Str) (C : Addr) (f : Str) : Prop :=
  ∃ (fI : Addr) (fd : FuncData), mg x = some (.ref C) ∧ OexC K C ∧ PySem.W.findIn K (.ref C) "__init__" = some (some (.ref fI)) ∧ PySem.W.typeIn K (.ref fI) = some (.type "function") ∧ FnOk P w K mg base (L2.CX P w) 1 fI fd ["self", f] (spExInit K C f) ∧ Binds K fd ["self", f] []
def RAISE (K : PySem.W.Frag) (C : Addr) (f : Str) (W : WX) (σ : L2.St) (vs : List V) (H1 : Hp) : Prop := vs.length ≤ 1000 ∧ ∀ a, H1 a = none → spExInit K C f (.ref a :: (vs ++ [])) (upd H1 a (exo a C none))
  (fun v H2 => v = .non ∧ ∃ (d : Addr) (fs : List (Str × V)), H2 a = some (exo a C (some d)) ∧ H2 d = some (exd d fs) ∧ H1 d = none ∧ W (.ref C) (some d) σ (upd (del H2 a) d (.xd fs))) (fun _ _ _ => False)
def tRaiseE (K : PySem.W.Frag) (C : Addr) (f : Str) (W : WX) (ta : TA) : TS := fun _ σ H => ta σ H fun vs H1 => RAISE K C f W σ vs H1
theorem s_raiseE {K : PySem.W.Frag} {C : Addr} {f : Str} {W : WX} {ta : TA} {D : Ends} {σ : L2.St} {H : Hp} (k : ta σ H fun vs H1 => RAISE K C f W σ vs H1) : tRaiseE K C f W ta D σ H := k
theorem n_raise {K : PySem.W.Frag} {C : Addr} {f : Str} {W : WX} {σ : L2.St} {v : V} {H1 : Hp} (T : OexC K C) (k : ∀ d H2, H1 d = none → Ex H1 H2 → H2 d = some (.xd [(f, v)]) → W (.ref C) (some d) σ H2) : RAISE K C f W σ [v] H1 :=
  ⟨by simp, fun a ha => ⟨a, v, rfl, upd_same, T, fun dx hdx ne => by
    have hd1 : H1 dx = none := by rw [upd_ne ne] at hdx; exact hdx
    refine ⟨rfl, dx, [(f, v)], upd_same, ?_, hd1, ?_⟩
    · rw [upd_ne ne, upd_same]
    · have z : upd (del (upd (upd (upd H1 a (exo a C none)) dx (exd dx [(f, v)])) a (exo a C (some dx))) a) dx (.xd [(f, v)]) = upd H1 dx (.xd [(f, v)]) := by
        funext b
        by_cases h1 : b = dx
        · rw [h1, upd_same, upd_same]
        · rw [upd_ne h1, upd_ne h1]
          by_cases h2 : b = a
          · rw [h2, del_same, ha]
          · rw [del_ne h2, upd_ne h2, upd_ne h1, upd_ne h2]
      rw [z]
      exact k dx _ hd1 (Ex.new hd1) upd_same⟩⟩
theorem ps_raiseE {X : Cx} {K : PySem.W.Frag} {W : WX} {x : Str} {C : Addr} {f : Str} {e : Expr} {ta : TA} {p pos pos2 : Pos} (hc : X.calm = true) (tk : Takes X W) (N : Exn X.prog X.w X.K X.mg X.base x C f) (hr : Room 2 X.A) (ha : PA X [e] ta) (hK : X.K = K := by rfl) (hg : Gl X x := by rfl)
    (hdb : (x == ("__debug__" : Str)) = false := by decide) (hst : starEach [e] X.env = (false, eval e X.env) :: starEach [] X.env := by rfl) (hpl : (backTo pos (starEach [] X.env)).any (·.1) = false := by rfl) :
    PS X (.Raise (some (.Call (.Name x p) [e] [] pos)) none pos2) (tRaiseE K C f W ta) := by
  subst hK
  obtain ⟨fI, fd, hm, T, iC, tI, F, hb⟩ := N
  exact ps_raise (pos := pos2) hc tk (pmk_oex (pos := pos) (p := p) T iC tI F hr hb .nil (fun _ _ _ _ _ _ _ h => by
    obtain ⟨_, _, _, _, _, _, _, _, _, _, _, _, z⟩ := h
    exact z.elim) hg hm ha hdb hst hpl)
theorem Exn.oex {P : Program} {w : World} {K : PySem.W.Frag} {mg : Str → Option Value} {base : Heap} {x : Str} {C : Addr} {f : Str} (N : Exn P w K mg base x C f) : OexC K C := let ⟨_, _, _, T, _⟩ := N; T
/-! ### the body of an __init__ -/
def tVeI' (K : PySem.W.Frag) (ta : TA) : TE := tVeI K ta
theorem n_vei {K : PySem.W.Frag} {σ : L2.St} {H : Hp} {ta : TA} {Q : VK} (k : ta σ H fun vs H1 => ∃ (a C : Addr) (ws : List V), vs = .ref a :: ws ∧ ws.length ≤ 1000 ∧ OexC K C ∧ H1 a = some (exo a C none) ∧ Q .non H1) : tVeI K ta σ H Q := k
/-! ### calls that may raise, in a try -/
theorem pe_calS {X : Cx} {k : Nat} {ps : List Str} {sp : Sp} {E : L2.St → XK} {x : Str} {p pos : Pos} {e : Expr} {es : List Expr} {t : TA} (C : Cal X.prog X.w X.K X.mg X.base k x ps [] sp) (hr : Room k X.A) (hx : ∀ σ, PassesAt (L2.CX X.prog X.w) X σ (E σ)) (ha : PA X (e :: es) t) (hg : Gl X x := by rfl) (hdb : (x == ("__debug__" : Str)) = false := by decide)
    (he : starEach (e :: es) X.env = (false, eval e X.env) :: starEach es X.env := by rfl) (hpl : (backTo pos (starEach es X.env)).any (·.1) = false := by rfl) : PE X (.Call (.Name x p) (e :: es) [] pos) (tCallS sp E t) := by
  obtain ⟨f, fd, ds, F, hm, hk, hb, hd⟩ := C
  cases hd
  exact pe_callS F hr hg hm hk hb hx ha hdb he hpl
theorem g_calS {sp : Sp} {E : L2.St → XK} {tr : TA} {σ : L2.St} {H : Hp} {Q : VK} (k : tr σ H fun vs H1 => sp vs H1 Q (E σ)) : tCallS sp E tr σ H Q := k
/-- the way out of a def: E -/
theorem passE {X : Cx} {W : WX} {E : XK} (tk : Takes X W) (hW : ∀ cls d σ H, E cls d H → W cls d σ H) : Passes (L2.CX X.prog X.w) X E := passes_call tk hW
/-! ### what except clauses ask -/
theorem n_as {K : PySem.W.Frag} {c : Value} {i : Nat} {ts : Addr → Value → Option Addr → TS} {Wout : WX} {D : Ends} {cls : Value} {d : Option Addr} {σ : L2.St} {H : Hp} (he : PySem.W.exmOne K cls c = some true)
    (k : ∀ a, H a = none → ts a cls d { nx := fun σ' H' => D.nx (σ'.set i none) H', rt := D.rt, bk := fun σ' H' => D.bk (σ'.set i none) H', ct := fun σ' H' => D.ct (σ'.set i none) H' } (σ.set i (some (.ref a))) H) : wAs K c i ts Wout D cls d σ H :=
  ⟨true, he, fun _ => k, fun z => by cases z⟩
theorem pe_xfK {X : Cx} {K : PySem.W.Frag} {a C : Addr} {oe : Obj} {cls : Value} {d : Option Addr} {pn : List (Addr × Obj)} {e : Expr} {te : TE} {pos : Pos} {n : Str} (T : XfC X.K C) (hno : PySem.W.findIn X.K (.ref C) n = some none)
    (hz : Zc cls d oe) (hf : ∃ vs, oe.data = .fields vs) (he : PE (X.suite a ((a, oe) :: pn)) e te) (hb : attributeBase e n X.env (eval e X.env) = eval e X.env := by rfl) :
    PE (X.suite a ((a, oe) :: pn)) (.Attribute e n pos) (tXf a cls d C n te) := pe_xf T hno hz hf he hb
def XFLD (a : Addr) (cls : Value) (d : Option Addr) (C : Addr) (f : Str) (Q : VK) (x : V) (H1 : Hp) : Prop := x = .ref a ∧ cls = .ref C ∧ ∃ (dd : Addr) (fs : List (Str × V)) (v : V), d = some dd ∧ H1 dd = some (.xd fs) ∧ fs.lookup f = some v ∧ Q v H1
theorem g_xf {a : Addr} {cls : Value} {d : Option Addr} {C : Addr} {f : Str} {te : TE} {σ : L2.St} {H : Hp} {Q : VK} (k : te σ H (XFLD a cls d C f Q)) : tXf a cls d C f te σ H Q := k
theorem n_xf {a d C : Addr} {f : Str} {v : V} {Q : VK} {H : Hp} (h : H d = some (.xd [(f, v)])) (k : Q v H) : XFLD a (.ref C) (some d) C f Q (.ref a) H := ⟨rfl, rfl, d, [(f, v)], v, rfl, h, by simp [List.lookup], k⟩
theorem nw_tup' {H H' : Hp} {t : Addr} {xs : List V} (e : Ex H H') (h : H' t = some (.tup xs)) : nw H H' t = some (.tup xs) := by
  cases q : H t with
  | none => rw [nw_new q]; exact h
  | some o =>
    have z := e _ _ q
    rw [h] at z
    cases z
    rw [nw_tup q rfl]
    exact h
def OST (K : PySem.W.Frag) (f : Str) (D : Ends) (σ : L2.St) (y x : V) (H2 : Hp) : Prop := ∃ a C : Addr, x = .ref a ∧ OexC K C ∧ PySem.W.findIn K (.ref C) f = some none ∧
  ((H2 a = some (exo a C none) ∧ ∀ dx, H2 dx = none → dx ≠ a → D.nx σ (upd (upd H2 dx (exd dx [(f, y)])) a (exo a C (some dx)))) ∨
    ∃ (dx : Addr) (fs : List (Str × V)), H2 a = some (exo a C (some dx)) ∧ H2 dx = some (exd dx fs) ∧ fs.length ≤ 900 ∧ D.nx σ (upd H2 dx (exd dx ((f, y) :: fs))))
theorem s_ost {K : PySem.W.Frag} {f : Str} {to te : TE} {D : Ends} {σ : L2.St} {H : Hp} (k : te σ H fun y H1 => to σ H1 fun x H2 => OST K f D σ y x H2) : tOst K f to te D σ H := k
end NX

namespace NX
open PySem PySem.Spec PyProof.Rows L2
open Evl (Ex ex_l ex_t fresh_back)
open LamX (CodeO TabS Tabs ExtN TabB LamS lamEnv lamCx lam_make2 lam_start2 run_ofS tLam codeO_ne)
/-! ### any number of makers of lambdas -/
/-- the tables of T, their rows f -/
def tl (T : List (Addr × Str)) (f : Addr → Array Value) : List (Addr × HO) := T.map fun p => (p.1, .tbl (f p.1))
def TabsG (G : Hp) (T : List (Addr × Str)) (f : Addr → Array Value) : Prop := ∀ p ∈ T, TabG G (f p.1) p.2
theorem TabsG.mono {G G' : Hp} {T : List (Addr × Str)} {f : Addr → Array Value} (h : TabsG G T f) (e : Ex G G') : TabsG G' T f := fun p hp => (h p hp).mono e
theorem TabsG.noT {G : Hp} {T : List (Addr × Str)} {f : Addr → Array Value} (h : TabsG G T f) : TabsG (NX.noT G) T f := fun p hp => (h p hp).noT
theorem TabsG.nil (G : Hp) (T : List (Addr × Str)) : TabsG G T fun _ => #[] := fun _ _ => .nil _ _
theorem tl_fst (T : List (Addr × Str)) (f : Addr → Array Value) : (tl T f).map Prod.fst = T.map Prod.fst := by
  unfold tl
  rw [List.map_map] <;> rfl
theorem tl_mem {T : List (Addr × Str)} {f : Addr → Array Value} {x : Addr × HO} (h : x ∈ tl T f) : ∃ p ∈ T, x = (p.1, .tbl (f p.1)) := by
  obtain ⟨p, hp, e⟩ := List.mem_map.mp h
  exact ⟨p, hp, e.symm⟩
theorem tl_in {T : List (Addr × Str)} {f : Addr → Array Value} {p : Addr × Str} (h : p ∈ T) : (p.1, HO.tbl (f p.1)) ∈ tl T f := List.mem_map_of_mem h
theorem Own.comm {G H : Hp} {A B : List (Addr × HO)} (S : Own G (A ++ B) H) : Own G (B ++ A) H := S.perm List.perm_append_comm
theorem tab_u {T : List (Addr × Str)} {P : Addr} {q : Str} (nd : (T.map Prod.fst).Nodup) (h : (P, q) ∈ T) : ∀ p ∈ T, p.1 = P → p.2 = q := by
  induction T with
  | nil => exact fun p hp => nomatch hp
  | cons a T ih =>
    rw [List.map_cons, List.nodup_cons] at nd
    intro p hp e
    rcases List.mem_cons.mp hp with rfl | hp
    · rcases List.mem_cons.mp h with e2 | h
      · rw [← e2]
      · exact absurd (List.mem_map.mpr ⟨_, h, e.symm⟩) nd.1
    · rcases List.mem_cons.mp h with e2 | h
      · refine absurd (List.mem_map.mpr ⟨_, hp, ?_⟩) nd.1
        rw [e, ← e2]
      · exact ih nd.2 h p hp e
theorem n_lamN {TT : (XK → Hp → VK → Prop) → Hp → VK → Prop} {t : XK → TE} {σ : L2.St} {G H : Hp} {L : List (Addr × HO)} {T : List (Addr × Str)} {f : Addr → Array Value} {Q : VK} (S : Own G (L ++ tl T f) H) (tg : TabsG G T f) (hL : ∀ p ∈ L, ∃ xs, p.2 = .lst xs)
    (k : ∀ G1 H1 f1, Ex (noT G) G1 → Own G1 (L ++ tl T f1) H1 → TabsG G1 T f1 → TT (fun E H' Q' => t E σ H' Q') H1 Q) : tLam T TT t σ H Q := by
  refine ⟨fun p hp => ?_, fun H1 eN T1 => ?_⟩
  · exact ⟨f p.1, S.getM (List.mem_append.mpr (.inr (tl_in hp))), (tg p hp).1, fun pos cv hc => let ⟨c, e1, e2⟩ := (tg p hp).2 pos cv hc; ⟨c, e1, S.ex _ _ e2⟩⟩
  · let f1 : Addr → Array Value := fun a => match H1 a with
      | some (.tbl ps) => ps
      | _ => #[]
    have hP1 : ∀ p ∈ T, H1 p.1 = some (.tbl (f1 p.1)) := fun p hp => by
      obtain ⟨ps1, h1, _⟩ := T1 p hp
      show H1 p.1 = some (.tbl (match H1 p.1 with | some (.tbl ps) => ps | _ => #[]))
      rw [h1]
    have hc1 : ∀ p ∈ T, TriplesOk (f1 p.1).toList ∧ ∀ (pos : Pos) (cv : Value), codeAmong pos (f1 p.1).toList = some cv → ∃ c, cv = .ref c ∧ H1 c = some (CodeO c p.2) := fun p hp => by
      obtain ⟨ps1, h1, h2, h3⟩ := T1 p hp
      have e : f1 p.1 = ps1 := by
        have := (hP1 p hp).symm.trans h1
        injection this with this
        injection this
      rw [e]
      exact ⟨h2, h3⟩
    have hLk : ∀ p ∈ L, H1 p.1 = some p.2 := fun p hp => eN _ _ (S.getM (List.mem_append.mpr (.inl hp))) fun qs z => by
      obtain ⟨xs, e⟩ := hL p hp
      rw [e] at z
      cases z
    have hfst : ((L ++ tl T f1).map Prod.fst) = ((L ++ tl T f).map Prod.fst) := by
      rw [List.map_append, List.map_append, tl_fst, tl_fst]
    have out : ∀ c z, H1 c = some (CodeO c z) → c ∉ (L ++ tl T f1).map Prod.fst := fun c z hc m => by
      obtain ⟨p, hp, e⟩ := List.mem_map.mp m
      rcases List.mem_append.mp hp with hp | hp
      · have y := hLk p hp
        obtain ⟨xs, e2⟩ := hL p hp
        rw [e, hc, e2] at y
        unfold CodeO at y
        cases y
      · obtain ⟨r, hr, e2⟩ := tl_mem hp
        have y := hP1 r hr
        rw [e2] at e
        rw [show r.1 = c from e, hc] at y
        unfold CodeO at y
        cases y
    refine k (cut H1 (L ++ tl T f1)) H1 f1 (fun a o h => ?_) ⟨fun a u h => ?_, fun p hp => ⟨cut_in (List.mem_map_of_mem hp), ?_⟩, by rw [hfst]; exact S.nd, fun p hp => ?_⟩ fun p hp => ⟨(hc1 p hp).1, fun pos cv hc => ?_⟩
    · obtain ⟨h1, h2⟩ := of_noT h
      have m : a ∉ (L ++ tl T f1).map Prod.fst := fun m => by
        rw [hfst] at m
        obtain ⟨p, hp, e⟩ := List.mem_map.mp m
        have z := (S.at_ p hp).1
        rw [e, h1] at z
        cases z
      rw [cut_out m]
      exact eN _ _ (S.ex _ _ h1) h2
    · by_cases m : a ∈ (L ++ tl T f1).map Prod.fst
      · rw [cut_in m] at h; cases h
      · rw [cut_out m] at h; exact h
    · rcases List.mem_append.mp hp with hp | hp
      · exact hLk p hp
      · obtain ⟨r, hr, rfl⟩ := tl_mem hp
        exact hP1 r hr
    · rcases List.mem_append.mp hp with hp | hp
      · exact S.nt p (List.mem_append.mpr (.inl hp))
      · obtain ⟨r, hr, rfl⟩ := tl_mem hp
        rfl
    · obtain ⟨c, e1, e2⟩ := (hc1 p hp).2 pos cv hc
      exact ⟨c, e1, by rw [cut_out (out c _ e2)]; exact e2⟩
/-! ### with the guards known -/
def LamDefG (P : Program) (w : World) (K : PySem.W.Frag) (mg : Str → Option Value) (base : Heap) (x a : Str) (TT : (XK → Hp → VK → Prop) → Hp → VK → Prop) : Prop :=
  ∃ (g : Addr) (Ng : List Str) (st : Stmt) (oc kV doc pm cdv ct : Value) (an od : Option Addr) (osl : Array (Option Value)), mg x = some (.ref g) ∧ PySem.W.keepIn K (.ref g) = true ∧ K.lookup g = some ⟨oc, od, .func (PySem.W.fnOf x x (defArgs st) (defBody st) (defScope st) .none kV doc pm an cdv ct), osl⟩ ∧ PySem.W.codeIn K cdv x = true ∧
    L2.Binds K (PySem.W.fnOf x x (defArgs st) (defBody st) (defScope st) .none kV doc pm an cdv ct) [a] [] ∧ FnScope Ng [a] (defScope st) ∧ Ng[0]? = some a ∧ Vis (defScope st) a ∧ ∀ (X : Cx) (q : Str), X.prog = P → X.w = w → X.K = K → X.mg = mg → X.base = base → X.A.guards = some [] → (∀ env, (X.A.deeper env).units + 65 < cLine) → GivesS X Ng x (defScope st) g cdv (defBody st) a q TT
theorem pe_lamG {T : List (Addr × Str)} {TT : (XK → Hp → VK → Prop) → Hp → VK → Prop} {x a : Str} {c P : Addr} {k : Nat} {params : Arguments} {body : Expr} {scope : Scope} {t : XK → TE} {p lpos pos : Pos} {X : Cx} (D : LamDefG X.prog X.w X.K X.mg X.base x a TT) (hGd : X.A.guards = some [])
    (TB : TabB X.base X.mg c P) (hmT : (P, X.env.qual ++ "<lambda>") ∈ T) (hu : ∀ p ∈ T, p.1 = P → p.2 = X.env.qual ++ "<lambda>") (hr : Room (k + 2) X.A)
    (hbody : ∀ (A : Around) (outer : List Env) (s : Shared) (H : Hp) (E : XK) (f c' : Addr), Room k (A.deeper (lamEnv X scope s.heap.objs.size f c')) → PE (lamCx X A outer s H E scope f c') body (t E)) (L : LamS X.env.scope scope) (hcode : X.env.code = .ref c := by rfl)
    (hbind : ∀ (q : Str) (cl : List (Str × Addr)) (pm cv ctv : Value), bindArgs (PySem.W.kla_fn "<lambda>" q params body scope cl pm cv ctv) ⟨[], []⟩ = pure [] := by intros; rfl) (hdef : defaultsOf params X.env = ([], []) := by rfl) (hg : Gl X x := by rfl)
    (hdb : (x == ("__debug__" : Str)) = false := by decide) (hd : (a == ("__debug__" : Str)) = false := by decide) (hcd : (a == ("__classdict__" : Str)) = false := by decide) :
    PE X (.Call (.Name x p) [.Lambda params body scope lpos] [] pos) (tLam T TT t) := by
  obtain ⟨g, Ng, st, oc, kV, doc, pm, cdv, ct, an, od, osl, hm, hk, lk, hcg, hb, Sg, hNg, hva, hG⟩ := D
  refine ⟨fun pins s σ H Q I ⟨hT, h⟩ => ?_⟩
  refine wpAny_Call_Name_kw (ld_glob I hg hm (PySem.W.callWith_K (h₀ := X.base) I.ok.mod.kin hk ?_ (by rfl) (by rfl)) hdb)
  show wpAny _ _ (spliced ((false, eval (.Lambda params body scope lpos) X.env) :: backTo pos (starEach [] X.env))) _ _ s
  have mk := lam_make2 (body := body) (pos := lpos) (E := X.xe) I TB hcode hmT hu hT hdef (L.has I.ok) (Q := fun v s' => ∃ f, v = .ref f ∧ wpAny (model X.prog X.w) X.A (call (.ref g) [.ref f]) (EP X pins σ Q) X.xe s' ∧ X.K.In s'.heap) fun f c' pm' ctv H1 s' I1 eN T1 hf hfn hfr hco => ⟨f, rfl, ?_, I1.kIn⟩
  · refine Calls.spliced_cons (wpAny_mono mk (fun v s' ⟨f, ev, hq, hin⟩ => ?_) fun _ _ z => z)
    subst ev
    exact Calls.spliced_nil ⟨hin, hq⟩
  · have rc : codeAny (model X.prog X.w) X.A (.call (.ref g) ⟨[.ref f], []⟩) (CR CX0 X.stack X.prog X.w H1 s' Q E0) s' :=
      run_ofS (N := Ng) (ps := [a]) (us := [.ref f]) (vs := [.ref f]) lk hcg Sg hr I1.env0 (hb s' [.ref f] I1.kIn rfl) (.cons rfl .nil) rfl fun hr' => by
        obtain ⟨t', ht', hq'⟩ := hG X _ rfl rfl rfl rfl rfl hGd (fun env => by have := (hr.deeper env).un; omega) f c' s' H1 Q (fun E H' Q' => t E σ H' Q') (fun W pn xe p1 p2 tk => pe_actS I1 L hf hfn hfr (hbind _ _ _ _ _) tk hr' (fun E A outer s H hr2 => hbody A outer s H E f c' hr2) hNg hva hd hcd) hco (h H1 eN T1)
        exact ⟨t', ht'.nox, hq'⟩
    refine wpAny_call (codeAny_mono rc fun r s2 hq => ?_)
    cases r with
    | error e => exact (show False from hq).elim
    | ok fl =>
      cases fl with
      | ret u => exact I1.after hq
      | next => exact False.elim hq
      | brk => exact False.elim hq
      | cont => exact False.elim hq
/-! ### a field of a caught exception, its class told by the reading; counting of plain values -/
def tXfA (K : PySem.W.Frag) (a : Addr) (cls : Value) (d : Option Addr) (n : Str) (te : TE) : TE := fun σ H Q => ∃ C, XfC K C ∧ PySem.W.findIn K (.ref C) n = some none ∧ te σ H (XFLD a cls d C n Q)
theorem pe_xfA {X : Cx} {K : PySem.W.Frag} {a : Addr} {oe : Obj} {cls : Value} {d : Option Addr} {pn : List (Addr × Obj)} {e : Expr} {te : TE} {pos : Pos} {n : Str}
    (hz : Zc cls d oe) (hf : ∃ vs, oe.data = .fields vs) (he : PE (X.suite a ((a, oe) :: pn)) e te) (hK : X.K = K := by rfl) (hb : attributeBase e n X.env (eval e X.env) = eval e X.env := by rfl) :
    PE (X.suite a ((a, oe) :: pn)) (.Attribute e n pos) (tXfA K a cls d n te) := by
  subst hK
  exact ⟨fun pins s σ H Q I ⟨C, T, hno, h⟩ => (pe_xf T hno hz hf he hb).run pins s σ H Q I h⟩
theorem g_xfA {K : PySem.W.Frag} {a : Addr} {cls : Value} {d : Option Addr} {C : Addr} {f : Str} {te : TE} {σ : L2.St} {H : Hp} {Q : VK} (T : XfC K C) (hno : PySem.W.findIn K (.ref C) f = some none) (k : te σ H (XFLD a cls d C f Q)) : tXfA K a cls d f te σ H Q := ⟨C, T, hno, k⟩
def rCntV (K : PySem.W.Frag) : V → List V → Hp → VK → Prop := fun x xs H Q => ∃ (p : Addr) (ys : List V) (y : V), x = .ref p ∧ xs = [y] ∧ SqL K H p ys ∧ flatV y = true ∧ ys.all flatV = true ∧ Q (.int (ys.countP fun z => eqV z y : Nat)) H
theorem cnt_eqU {x : V} : ∀ {xs : List V} {us : List Value}, Vals xs us → xs.all flatV = true → us.countP (eqU x) = xs.countP fun y => eqV y x
  | _, _, .nil, _ => rfl
  | _, _, .cons r rs, f => by
    rw [List.all_cons, Bool.and_eq_true] at f
    rw [List.countP_cons, List.countP_cons, cnt_eqU rs f.2, eqU_of r f.1]
theorem mt_countV {X : Cx} {K : PySem.W.Frag} (e : X.K = K := by rfl) : MtR X "list.count" (rCntV K) := by
  subst e
  intro pins s σ H x xs v us Q I rx rxs h
  obtain ⟨a, ys, y, rfl, rfl, hs, fy, fys, q⟩ := h
  cases rx
  obtain ⟨uy, rfl, ry⟩ := rxs.one
  obtain ⟨its, rv, ⟨⟨cls, dd, data, sl⟩, n, ho, hc, hdn, hd⟩, hlen⟩ := I.list hs
  simp only at hc hd
  subst hc hd
  refine call_meets PySem.F.slot_list_count ⟨_, ho, rfl⟩ PySem.F.entry_list_count (PySem.F.args_list_count_2 _ _)
    (SeqAt.list_countAt a its.toArray n dd sl uy (eqU y)) ⟨ho, fun u' hu' => mem_eqAt ry fy rv fys u' (by simpa using hu'), ?_⟩
  have ec : its.toArray.toList.countP (eqU y) = ys.countP fun z => eqV z y := cnt_eqU rv fys
  refine ⟨.int (ys.countP fun z => eqV z y : Nat), H, I.tok _, ⟨s.toks, ?_⟩, q⟩
  show Value.int ((its.toArray.toList.countP (eqU y) : Nat) : Int) s.toks = Value.int ((ys.countP fun z => eqV z y : Nat) : Int) s.toks
  rw [ec]
theorem n_countV {K : PySem.W.Frag} {H : Hp} {p : Addr} {ys : List V} {y : V} {Q : VK} (hs : SqL K H p ys) (fy : flatV y = true) (fys : ys.all flatV = true) (k : Q (.int (ys.countP fun z => eqV z y : Nat)) H) : rCntV K (.ref p) [y] H Q := ⟨p, ys, y, rfl, rfl, hs, fy, fys, k⟩
end NX

namespace NX
open PySem PySem.Spec PyProof.Rows L2
open Evl (Ex ex_l ex_t fresh_back)
/-! ### defs that are called while no repr is under way (Around.guards = some []): promises that hold there -/
structure FnOkG (P : Program) (w : World) (K : PySem.W.Frag) (mg : Str → Option Value) (base : Heap) (k : Nat) (f : Addr) (fd : FuncData) (ps : List Str) (sp : Sp) : Prop where
  len : ∀ vs H Q E, sp vs H Q E → vs.length = ps.length
  run : ∀ (A : Around) (outer : List Env) (s : Shared) (H : Hp) (args : Args) (us : List Value) (vs : List V) (Q : VK) (E : XK), A.guards = some [] → Room k A → Env0 P w K mg base A outer s H → BindsTo s fd args (ps.zip us) → Vals vs us → sp vs H Q E →
    codeAny (model P w) A (.call (.ref f) args) (CR CX0 outer P w H s Q E) s
theorem guards_deeper {A : Around} (env : Env) (h : A.guards = some []) : (A.deeper env).guards = some [] := h
section
variable {P : Program} {w : World} {K : PySem.W.Frag} {mg : Str → Option Value} {base : Heap}
theorem okG0 {x qual : Str} {st : Stmt} {f : Addr} {N ps : List Str} {k : Nat} {sp : Sp} {oc kV doc pm cdv ct : Value} {od an : Option Addr} {osl : Array (Option Value)} (lk : K.lookup f = some ⟨oc, od, .func (PySem.W.fnOf x qual (defArgs st) (defBody st) (defScope st) .none kV doc pm an cdv ct), osl⟩) (hcd : PySem.W.codeIn K cdv qual = true)
    (S : FnScope N ps (defScope st)) (len : ∀ vs H Q E, sp vs H Q E → vs.length = ps.length)
    (hbody : ∀ (A : Around) (outer : List Env) (s : Shared) (H : Hp) (vs : List V) (Q : VK) (E : XK), A.guards = some [] → Room k (A.deeper (envOfC qual (defScope st) s.heap.objs.size f cdv)) → sp vs H Q E →
      ∃ t, PSs (cxOf CX0 P w K mg base N qual (defScope st) f cdv A outer s H E).nox (defBody st) t ∧ t { nx := fun _ H' => Q .non H', rt := Q } (start N vs) H) : FnOkG P w K mg base (k + 1) f (PySem.W.fnOf x qual (defArgs st) (defBody st) (defScope st) .none kV doc pm an cdv ct) ps sp := by
  refine ⟨len, fun A outer s H args us vs Q E hg hr e0 hb r hsp => ?_⟩
  have hl := len _ _ _ _ hsp
  have KX : K.In s.heap := e0.mod.kin.keeps fun b o e => (e0.bs b o e).1
  have lim : s.heap.NoLimit := e0.mod.nolimit.keeps fun b o e => (e0.bs b o e).1
  have hkind : ∀ y ∈ ps.zip us, (defScope st).names.lookup y.1 = some .local ∨ ((defScope st).names.lookup y.1 = some .cell ∧ ((cellsFrom (s.heap.objs.size + 1) (defScope st).names []).lookup y.1).isSome = true) := fun ⟨n, v⟩ hy =>
    (S.par n (List.of_mem_zip hy).1).imp id fun q => ⟨q, PySem.W.cellsFrom_some _ _ _ (.inl q)⟩
  refine codeAny_call_function hr.depth (KX _ _ lk) rfl S.co S.gen rfl (PySem.W.codeRec_of KX hcd) (hb _ _ _ _ ?_)
  refine wpAny_newFunctionEnv_cells S.kind hkind fun env he s1 x => ?_
  subst he
  refine ⟨lim.keeps x.toInCall.keep, codeAny_func ?_⟩
  obtain ⟨t, ht, hq⟩ := hbody A outer s H vs Q E hg (hr.deeper _) hsp
  have I : Inv (cxOf CX0 P w K mg base N qual (defScope st) f cdv A outer s H E) [] (start N vs) H s1 := inv_start S hr.hd e0 hl r x
  refine wpAny_mono (ht.nox.run [] s1 (start N vs) H _ I hq) (fun fl s' hs => ?_) fun e s' hs => hs
  cases fl with
  | ret u => obtain ⟨v, σ', H', J, rv, q⟩ := hs; exact ⟨v, H', J.os, J.bare, J.base, J.hok, rv, q⟩
  | next => obtain ⟨σ', H', J, q⟩ := hs; exact ⟨V.non, H', J.os, J.bare, J.base, J.hok, rfl, q⟩
  | brk => obtain ⟨_, _, _, q⟩ := hs; exact q.elim
  | cont => obtain ⟨_, _, _, q⟩ := hs; exact q.elim
theorem okG {x qual : Str} {st : Stmt} {f : Addr} {fd : FuncData} {N ps : List Str} {k : Nat} {sp : Sp} (F : Fun K x qual st f fd) (S : FnScope N ps (defScope st)) (len : ∀ vs H Q E, sp vs H Q E → vs.length = ps.length)
    (hbody : ∀ (cdv : Value) (A : Around) (outer : List Env) (s : Shared) (H : Hp) (vs : List V) (Q : VK) (E : XK), A.guards = some [] → Room k (A.deeper (envOfC qual (defScope st) s.heap.objs.size f cdv)) → sp vs H Q E →
      ∃ t, PSs (cxOf CX0 P w K mg base N qual (defScope st) f cdv A outer s H E).nox (defBody st) t ∧ t { nx := fun _ H' => Q .non H', rt := Q } (start N vs) H) : FnOkG P w K mg base (k + 1) f fd ps sp := by
  obtain ⟨oc, od, kV, doc, pm, an, cdv, ct, osl, rfl, lk, hcd⟩ := F.ex
  exact okG0 lk hcd S len (hbody cdv)
end
/-- such a def, by its name -/
def CalG (P : Program) (w : World) (K : PySem.W.Frag) (mg : Str → Option Value) (base : Heap) (k : Nat) (x : Str) (ps : List Str) (sp : Sp) : Prop :=
  ∃ (f : Addr) (fd : FuncData), FnOkG P w K mg base k f fd ps sp ∧ mg x = some (.ref f) ∧ PySem.W.keepIn K (.ref f) = true ∧ Binds K fd ps []
theorem pe_calG {X : Cx} {x : Str} {p pos : Pos} {e : Expr} {es : List Expr} {t : TA} {k : Nat} {ps : List Str} {sp : Sp} {E : XK} (C : CalG X.prog X.w X.K X.mg X.base k x ps sp) (hg : X.A.guards = some []) (hr : Room k X.A) (hx : Passes CX0 X E) (ha : PA X (e :: es) t) (hgl : Gl X x := by rfl) (hdb : (x == ("__debug__" : Str)) = false := by decide)
    (he : starEach (e :: es) X.env = (false, eval e X.env) :: starEach es X.env := by rfl) (hpl : (backTo pos (starEach es X.env)).any (·.1) = false := by rfl) : PE X (.Call (.Name x p) (e :: es) [] pos) (tCal sp E t) := by
  obtain ⟨f, fd, F, hm, hk, hb⟩ := C
  refine ⟨fun pins s σ H Q I h => ?_⟩
  refine wpAny_Call_Name_kw (ld_glob I hgl hm ?_ hdb)
  refine PySem.W.callWith_K (h₀ := X.base) I.ok.mod.kin hk (thn (ha.run pos pins s σ H _ I h) fun us s1 ⟨vs, H1, I1, r, q⟩ => ⟨I1.kIn, ?_⟩) he hpl
  have hl : us.length = ps.length := by rw [← r.length]; exact F.len _ _ _ _ q
  have hbs := hb s1 us I1.kIn (by rw [List.append_nil]; exact hl)
  rw [List.append_nil] at hbs
  refine wpAny_call (codeAny_mono (F.run X.A X.stack s1 H1 ⟨us, []⟩ us vs Q E hg hr I1.env0 hbs r q) fun r s' hq => ?_)
  cases r with
  | error e => exact hx pins σ H1 s1 e s' I1 hq
  | ok fl =>
    cases fl with
    | ret u => exact I1.after hq
    | next => exact hq.elim
    | brk => exact hq.elim
    | cont => exact hq.elim
/-! ### repr(x), x data -/
def rReprD (K : PySem.W.Frag) : List V → Hp → VK → Prop := fun xs H Q => ∃ (a : Addr) (d : PyData), xs = [V.ref a] ∧ Dp K H (.ref a) d ∧ d.showable = true ∧ d.hasDict = false ∧ d.depth ≤ 10 ∧ d.shown.length ≤ sizeLine ∧ Q (.str d.shown) H
theorem cr_reprD {X : Cx} (hg : X.A.guards = some []) (hu : X.A.units + 65 < cLine) : CallR X (.builtin "repr") (rReprD X.K) := by
  intro pins s σ H xs us Q I r h
  obtain ⟨a, d, rfl, hd, hs, hdi, hdp, hz, q⟩ := h
  obtain ⟨u, rfl, rx⟩ := r.one
  obtain rfl : u = Value.ref a := rx
  obtain ⟨as, rd⟩ := Dp.reads I d (.ref a) (.ref a) hd rfl
  refine repr_of_reads' rd hs (fun e => by rw [hdi] at e; cases e) hg (by omega) (fun _ _ e => e) (fun h' u tk hk => ?_) hz
  exact ⟨.str d.shown, H, I.kept (t' := tk) hk, ⟨u, rfl⟩, q⟩
/-- the promise of a law, at the call that the row asks for -/
theorem law_callG {P : Program} {w : World} {K : PySem.W.Frag} {mg mb : Str → Option Value} {k : Nat} {fa a : Addr} {fd : FuncData} {x : Str} {sp : Sp} {s₁ : Shared} {vs : List Value} {ns : List Int}
    (KX : K.In s₁.heap) (hns : s₁.heap.Ns mainGlobals mg) (hb : s₁.heap.Ns builtinsNs mb) (hbb : ∀ x : Str, x ≠ "__name__" → mb x = bootBuiltins x) (hlim : s₁.heap.NoLimit) (hg : s₁.gens = #[])
    (ha : s₁.heap.get? a = some { cls := .type "list", data := .seq vs.toArray }) (hi : IntsAre vs ns) (hl : ns.length ≤ sizeLine) (hr : Room k callerA)
    (F : ∀ base : Heap, K.In base → base.Ns mainGlobals mg → FnOkG P w K mg base k fa fd [x] sp) (hbind : ∀ (s : Shared) (u : Value), BindsTo s fd ⟨[u], []⟩ [(x, u)])
    (hsp : ∀ H : Hp, SqL K H a (ns.map V.int) → sp [.ref a] H (fun v _ => v = .bl true) fun _ _ _ => False) :
    codeAny (model P w) callerA (.call (.ref fa) ⟨[.ref a], []⟩) (fun r s' => r = .ok (.ret (.bool true)) ∧ OldK s₁.heap s'.heap ∧ s'.os = s₁.os ∧ AllBare s'.gens) s₁ := by
  have rv := vals_ints hi
  have core : ∀ H : Hp, (∀ b, H b = none ∨ b = a ∧ ∃ o u, H b = some (.frz o u)) → SqL K H a (ns.map V.int) → HOk P w H s₁.heap → (H a ≠ none → K.lookup a = none) →
      codeAny (model P w) callerA (.call (.ref fa) ⟨[.ref a], []⟩) (fun r s' => r = .ok (.ret (.bool true)) ∧ OldK s₁.heap s'.heap ∧ s'.os = s₁.os ∧ AllBare s'.gens) s₁ := by
    intro H hO hS hok hK
    have noA : ∀ {b : Addr} {o : Obj} {es : Array DictEntry} {ep : Nat}, s₁.heap.get? b = some o → o.data = .dict es ep → H b = none := fun {b o es ep} e d => by
      rcases hO b with z | ⟨rfl, _⟩
      · exact z
      · rw [ha] at e; cases e; cases (show Data.seq vs.toArray _ = Data.dict es ep from d)
    have nsK : ∀ {b : Addr} {m : Str → Option Value}, s₁.heap.Ns b m → (hidT s₁.heap H).Ns b m := fun {b m} ⟨o, es, ep, e, d, r⟩ => ⟨o, es, ep, hidT_get e (noA e d), d, r⟩
    have hKb : K.In (hidT s₁.heap H) := fun b o e => hidT_get (KX b o e) (by
      rcases hO b with z | ⟨rfl, _, _, z⟩
      · exact z
      · rw [hK (by rw [z]; simp)] at e; cases e)
    have hM : Mod K mg (hidT s₁.heap H) := ⟨hKb, nsK hns, ⟨mb, nsK hb, hbb⟩, let ⟨mc, h1, h2⟩ := hlim; ⟨mc, nsK h1, h2⟩⟩
    have e0 : Env0 P w K mg (hidT s₁.heap H) callerA [] s₁ H := ⟨rfl, hM, fun b o e => of_hidT e, Nat.le_of_eq (hidT_size _ _), trivial, fun b hb => absurd (show b ∈ ([] : List Addr) from hb) (by simp), hok, .of_eq hg⟩
    refine codeAny_mono ((F _ hKb (nsK hns)).run callerA [] s₁ H ⟨[.ref a], []⟩ [.ref a] [.ref a] _ _ rfl hr e0 (hbind s₁ (.ref a)) (.cons rfl .nil) (hsp H hS)) fun r s' h => ?_
    cases r with
    | error e => exact False.elim h
    | ok fl =>
      cases fl with
      | next => exact False.elim h
      | brk => exact False.elim h
      | cont => exact False.elim h
      | ret u =>
        obtain ⟨v, H', os, bare, un, hok', r', q⟩ := h
        obtain rfl : v = .bl true := q
        obtain rfl : u = Value.bool true := r'
        refine ⟨rfl, OldK.of_keep fun b o e => ?_, os, bare⟩
        rcases hO b with z | ⟨_, ob, xs, z⟩
        · exact un.keep b o e z (by intro z; exact absurd (show b ∈ ([] : List Addr) from z) (by simp)) (by simp)
        · obtain ⟨e1, _⟩ := hok b _ z
          obtain ⟨e2, _⟩ := hok' b _ (un.frzs b ob _ z)
          rw [e] at e1; cases e1
          exact e2
  cases hk : K.lookup a with
  | some o =>
    have e := KX a o hk
    rw [ha] at e
    cases e
    exact core (fun _ => none) (fun _ => .inl rfl) (.inr ⟨_, vs.toArray, _, hk, rfl, rfl, rfl, by rw [List.size_toArray, hi.length]; exact hl, by simpa using rv⟩) (fun b u z => by cases (show (none : Option HO) = some u from z)) fun z => absurd rfl z
  | none =>
    refine core (fun b => if b = a then some (.frz { cls := .type "list", data := .seq vs.toArray } (.lst (ns.map V.int))) else none) (fun b => ?_) (.inl (.inr ⟨{ cls := .type "list", data := .seq vs.toArray }, if_pos rfl⟩)) (fun b u z => ?_) fun _ => hk
    · by_cases hb : b = a
      · exact .inr ⟨hb, _, _, if_pos hb⟩
      · exact .inl (if_neg hb)
    · by_cases hb : b = a
      · have z' := (if_pos hb).symm.trans z
        cases z'
        subst hb
        exact ⟨ha, by rw [List.length_map]; exact hl, vs, _, rv, ha⟩
      · have z' := (if_neg hb).symm.trans z
        cases z'
theorem walkG {l : PySem.W.OpenLaw} {q : Program} {loose : List Str} {XP : (Str → Option Value) → Heap → Prop} {YP : World → Heap → Prop} {d : DefRec} {K : Params → PySem.W.Frag} {k : Nat} (hn : l.most = some 63) (hdf : d.params.defaults = []) (hr : Room k callerA)
    (hY : ∀ (w : World) (h : Heap), YP w h → (K w.params).In h) {sp : PySem.W.Frag → Sp}
    (F : ∀ (w : World) (mg : Str → Option Value) (fa : Addr) (h : Heap), (K w.params).In h → h.Ns mainGlobals mg → mg d.name = some (.ref fa) →
      ∃ fd : FuncData, (∀ (s : Shared) (u : Value), BindsTo s fd ⟨[u], []⟩ [("_law_script", u)]) ∧ ∀ base : Heap, (K w.params).In base → base.Ns mainGlobals mg → FnOkG l.prog w (K w.params) mg base k fa fd ["_law_script"] (sp (K w.params)))
    (hsp : ∀ (K : PySem.W.Frag) (H : Hp) (a : Addr) (ns : List Int), ns.length ≤ 63 → SqL K H a (ns.map V.int) → sp K [.ref a] H (fun v _ => v = .bl true) fun _ _ _ => False) :
    PySem.W.WalkO q loose XP YP l.row.toRowW d [] (fun f vs => PySem.call f vs) := by
  refine Att.attach_call hn hdf fun w s₀ s₁ mg mb fa o pm cd doc a vs ns G Y ho hd hcd hmg hobj hints hlen hg => ?_
  have KX := hY w _ Y
  obtain ⟨fd, hb, hF⟩ := F w mg fa _ KX G.T.g hmg
  exact law_callG KX G.T.g G.T.b G.T.builtins G.T.nolimit hg hobj hints (Nat.le_trans hlen (by decide)) hr hF hb fun H hS => hsp (K w.params) H a ns hlen hS
theorem n_neSame {H : Hp} {t : Str} {Q : VK} (k : Q (.bl false) H) : rNe (.str t) (.str t) H Q := ⟨rfl, by rw [decide_eq_true rfl]; exact k⟩
end NX

namespace NX
open PySem PySem.Spec PyProof.Rows L2
open Evl (Ex ex_l ex_t fresh_back)
/-! ### repr of values of any kind -/
inductive ShV (K : PySem.W.Frag) (H : Hp) : V → Str → Prop
  | non : ShV K H .non "None"
  | bl (b : Bool) : ShV K H (.bl b) (if b then "True" else "False")
  | int (i : Int) : i.natAbs.log2 < 1920 → ShV K H (.int i) (toString i)
  | str (x : Str) : (reprText x).length ≤ sizeLine → ShV K H (.str x) (reprText x)
  | dat {a : Addr} (d : PyData) : Dp K H (.ref a) d → d.showable = true → d.hasDict = false → d.depth ≤ 10 → d.shown.length ≤ sizeLine → ShV K H (.ref a) d.shown
  | dct {a : Addr} : H a = some (.dT []) → ShV K H (.ref a) "{}"
def rReprV (K : PySem.W.Frag) : List V → Hp → VK → Prop := fun xs H Q => ∃ (v : V) (t : Str), xs = [v] ∧ ShV K H v t ∧ Q (.str t) H
theorem n_reprV {K : PySem.W.Frag} {H : Hp} {v : V} {t : Str} {Q : VK} (h : ShV K H v t) (k : Q (.str t) H) : rReprV K [v] H Q := ⟨v, t, rfl, h, k⟩
theorem cr_reprV {X : Cx} {K : PySem.W.Frag} (hg : X.A.guards = some []) (hu : X.A.units + 65 < cLine) (e : X.K = K := by rfl) : CallR X (.builtin "repr") (rReprV K) := by
  subst e
  intro pins s σ H xs us Q I r h
  obtain ⟨v, t, rfl, hs, q⟩ := h
  obtain ⟨u, rfl, rx⟩ := r.one
  cases hs with
  | non =>
    cases (show u = Value.none from rx)
    exact PySem.P.repr_of_none ⟨.str _, H, I.tok _, ⟨_, rfl⟩, q⟩
  | bl b =>
    cases (show u = Value.bool b from rx)
    exact PySem.P.repr_of_bool ⟨.str _, H, I.tok _, ⟨_, rfl⟩, q⟩
  | int i hz =>
    obtain ⟨k, rfl⟩ := (show ∃ k, u = Value.int i k from rx)
    exact PySem.P.repr_of_int hz ⟨.str _, H, I.tok _, ⟨_, rfl⟩, q⟩
  | str x hz =>
    obtain ⟨k, rfl⟩ := (show ∃ k, u = Value.str x k from rx)
    exact PySem.P.repr_of_str ⟨.str _, H, I.tok _, ⟨_, rfl⟩, q⟩ hz
  | @dat a d hd hsh hdi hdp hz =>
    obtain rfl : u = Value.ref a := rx
    obtain ⟨as, rd⟩ := Dp.reads I d (.ref a) (.ref a) hd rfl
    refine repr_of_reads' rd hsh (fun e => by rw [hdi] at e; cases e) hg (by omega) (fun _ _ e => e) (fun h' u tk hk => ?_) hz
    exact ⟨.str d.shown, H, I.kept (t' := tk) hk, ⟨u, rfl⟩, q⟩
  | @dct a ha =>
    obtain rfl : u = Value.ref a := rx
    obtain ⟨z, hd, xs, r0, dd⟩ := dt_of I.hok ha
    cases r0
    obtain ⟨o, es, ep, h1, h2, h3, h4, _, h5⟩ := dd
    have z : es.toList = [] := h4
    have dp : PyData.depth (.dict []) ≤ 10 := by decide +kernel
    refine repr_of_reads' (d := .dict []) (as := [a] ++ []) (.dict h1 h2.1 h3 (by rw [z]; exact .nil) (by rw [z]; exact .nil)) (by decide +kernel) (fun _ m => ?_) hg (by omega) (fun _ _ e => e) (fun h' u tk hk => ?_) (by decide +kernel)
    · rcases List.mem_singleton.mp m with rfl
      exact absurd hd (by decide)
    · exact ⟨.str "{}", H, I.kept (t' := tk) hk, ⟨u, rfl⟩, q⟩
/-! ### range(n) as a value; x not in it -/
def rRng1 : List V → Hp → VK → Prop := fun xs H Q => ∃ j : Int, xs = [.int j] ∧ ∀ p, H p = none → Q (.ref p) (upd H p (.rng 0 j))
theorem cr_range1 {X : Cx} : CallR X (.type "range") rRng1 := by
  intro pins s σ H vs us Q I r h
  obtain ⟨j, rfl, q⟩ := h
  obtain ⟨u, rfl, ru⟩ := vals1 r
  obtain ⟨t, rfl⟩ := (show ∃ t, u = Value.int j t from ru)
  refine call_range_1 ⟨.ref s.heap.objs.size, upd H s.heap.objs.size (.rng 0 j), I.laid (t' := _) (fun b o e => Heap.get?_push_of_some _ e) (Nat.le_refl _) ?_, rfl, q _ (I.hok.fresh (Nat.le_refl _))⟩
  exact ⟨_, _, _, Heap.get?_push_size _ rfl⟩
def rNotRng : R2 := fun x y H Q => ∃ i a lo hi, x = V.int i ∧ y = V.ref a ∧ H a = some (.rng lo hi) ∧ Q (.bl (!decide (lo ≤ i ∧ i < hi))) H
theorem op_notRng {X : Cx} : OpR X (compareOp .NotIn) rNotRng := by
  intro pins s σ H x y v u Q I rx ry h
  obtain ⟨i, a, lo, hi, rfl, rfl, ha, q⟩ := h
  obtain ⟨k, rfl⟩ := rx
  obtain rfl : u = Value.ref a := ry
  obtain ⟨t1, t2, t3, ho⟩ := I.hok a _ ha
  refine SeqRoads2.notIn_meets ⟨_, ho, rfl⟩ F.slot_range_contains F.entry_range_contains (F.args_range_contains_2 _ _) (q_contains a lo hi i t1 t2 t3 k) ⟨ho, _, rfl, ⟨.bl _, H, I, rfl, ?_⟩⟩
  rw [place1]
  exact q
theorem n_rng {G H : Hp} {L : List (Addr × HO)} {j : Int} {Q : VK} (S : Own G L H) (k : ∀ p G1 H1, Ex G G1 → G1 p = some (.rng 0 j) → Own G1 L H1 → Q (.ref p) H1) : rRng1 [.int j] H Q :=
  ⟨j, rfl, fun p hp => k p _ _ (S.still hp).2.1 (S.still hp).2.2 (S.still hp).1⟩
theorem n_notRng {H : Hp} {p : Addr} {i lo hi : Int} {Q : VK} (h : H p = some (.rng lo hi)) (k : Q (.bl (!decide (lo ≤ i ∧ i < hi))) H) : rNotRng (.int i) (.ref p) H Q := ⟨i, p, lo, hi, rfl, rfl, h, k⟩
theorem ShV.mono {K : PySem.W.Frag} {G H : Hp} (e : Ex G H) {v : V} {t : Str} (h : ShV K G v t) (m : ∀ d, Dp K G v d → Dp K H v d) : ShV K H v t := by
  cases h with
  | non => exact .non
  | bl b => exact .bl b
  | int i h => exact .int i h
  | str x h => exact .str x h
  | dat d h1 h2 h3 h4 h5 => exact .dat d (m d h1) h2 h3 h4 h5
  | dct h => exact .dct (e _ _ h)
mutual
theorem dp_mono {K : PySem.W.Frag} {G H : Hp} (e : Ex G H) : ∀ (d : PyData) (v : V), Dp K G v d → Dp K H v d
  | .none, _, .non => .non
  | .bool _, _, .bl b => .bl b
  | .int _, _, .int i => .int i
  | .str _, _, .str x => .str x
  | .list ds, _, .lst h1 h2 => .lst (ex_l e h1) (dp_monoA e ds _ h2)
  | .tuple ds, _, .tup h1 h2 => .tup (ex_t e h1) (dp_monoA e ds _ h2)
theorem dp_monoA {K : PySem.W.Frag} {G H : Hp} (e : Ex G H) : ∀ (ds : List PyData) (vs : List V), DpAll K G vs ds → DpAll K H vs ds
  | [], _, .nil => .nil
  | d :: ds, _, .cons h1 h2 => .cons (dp_mono e d _ h1) (dp_monoA e ds _ h2)
end
end NX

local macro_rules | `(tactic| walk_at "go1") => `(tactic| first
  | with_reducible refine NX.s_seq ?_
  | with_reducible refine NX.s_asg ?_
  | with_reducible refine NX.s_name ?_
  | with_reducible refine NX.s_ret ?_
  | with_reducible refine NX.s_if ?_
  | with_reducible refine NX.s_next ?_
  | with_reducible refine NX.s_drop ?_
  | with_reducible refine NX.s_brk ?_
  | with_reducible refine NX.s_cont ?_
  | with_reducible refine NX.s_par ?_
  | with_reducible refine NX.s_two ?_
  | with_reducible refine NX.s_sub ?_
  | with_reducible refine NX.s_gcons ?_
  | with_reducible refine NX.s_gnil ?_
  | with_reducible refine NX.g_c ?_
  | ((with_reducible refine' NX.g_var ?gv ?gk); (case gv => exact rfl))
  | with_reducible refine NX.g_op ?_
  | with_reducible refine NX.g_un ?_
  | with_reducible refine NX.g_U ?_
  | with_reducible refine NX.g_I0 ?_
  | with_reducible refine NX.g_cb ?_
  | with_reducible refine NX.g_call ?_
  | with_reducible refine NX.g_cal ?_
  | with_reducible refine NX.g_calN ?_
  | with_reducible refine NX.g_nil ?_
  | with_reducible refine NX.g_cons ?_
  | with_reducible refine NX.g_test ?_
  | with_reducible refine NX.g_B ?_
  | with_reducible refine NX.g_bl ?_
  | with_reducible refine NX.g_exV ?_
  | with_reducible refine NX.g_exI ?_
  | with_reducible refine NX.g_and ?_
  | with_reducible refine NX.g_or ?_
  | with_reducible refine NX.g_not ?_
  | with_reducible refine NX.g_andV ?_
  | with_reducible refine NX.g_orV ?_
  | with_reducible refine NX.g_notV ?_
  | with_reducible refine NX.g_if ?_
  | with_reducible refine NX.g_chain ?_
  | with_reducible refine NX.g_chain3 ?_
  | with_reducible refine NX.g_tup ?_
  | with_reducible refine NX.g_lst ?_
  | with_reducible refine NX.g_sl ?_
  | with_reducible refine NX.g_noPart ?_
  | with_reducible refine NX.g_part ?_
  | with_reducible refine NX.g_bm ?_
  | with_reducible refine NX.g_bm0 ?_
  | with_reducible refine NX.g_eqI ?_
  | with_reducible refine NX.g_neI ?_
  | with_reducible refine NX.g_eqB ?_
  | with_reducible refine NX.g_neB ?_
  | with_reducible refine NX.s_ipI ?_
  | ((with_reducible refine' NX.s_aug ?gv ?gk); (case gv => exact rfl))
  | with_reducible refine NX.s_for ?_
  | with_reducible refine NX.g_lc ?_
  | with_reducible refine NX.g_iList ?_
  | with_reducible refine NX.g_iTup ?_
  | with_reducible refine NX.g_iRng1 ?_
  | with_reducible refine NX.g_iRng2 ?_
  | with_reducible refine NX.g_iEnum ?_
  | with_reducible refine NX.g_yes ?_
  | with_reducible refine NX.n_int ?_
  | with_reducible refine NX.n_intB ?_
  | with_reducible refine NX.n_min ?_
  | with_reducible refine NX.n_max ?_
  | with_reducible refine NX.n_isN ?_
  | with_reducible refine NX.n_notN ?_
  | with_reducible refine NX.g_lrg ?_
  | with_reducible refine NX.g_rg1 ?_
  | with_reducible refine NX.g_rg2 ?_
  | with_reducible refine NX.g_ex2I ?_
  | with_reducible refine NX.g_mth ?_
  | with_reducible refine NX.g_new ?_
  | with_reducible refine NX.g_fld ?_
  | with_reducible refine NX.s_fld ?_
  | with_reducible refine NX.if_nt ?_
  | with_reducible refine NX.if_nf ?_
  | with_reducible refine L2.iteT ?_
  | with_reducible refine L2.iteF ?_)
local macro_rules | `(tactic| walk_at "go") => `(tactic| repeat (walk_at "go1"))

/-! the text by places -/
namespace NX
open PySem PySem.Spec PyProof.Rows L2
def top (i : Nat) : Stmt := PySem.Challenge.pw_nextchannel_k54_invalid_changes.main.body.getD i (.Pass ⟨0, 0, 0, 0⟩)
/-- what the top leaves of built-ins and constants -/
structure Txt (mg : Str → Option Value) : Prop where
  n_ValueError : mg "ValueError" = none
  n_all : mg "all" = none
  n_bool : mg "bool" = none
  n_enumerate : mg "enumerate" = none
  n_int : mg "int" = none
  n_isinstance : mg "isinstance" = none
  n_len : mg "len" = none
  n_list : mg "list" = none
  n_max : mg "max" = none
  n_min : mg "min" = none
  n_range : mg "range" = none
  n_repr : mg "repr" = none
  n_set : mg "set" = none
  n_sorted : mg "sorted" = none
  n_tuple : mg "tuple" = none
  m_MAX_STATIONS : ∃ t, mg "MAX_STATIONS" = some (.int 60 t)
end NX

namespace NX
open PySem PySem.Spec PyProof.Rows L2
open Evl (Ex ex_l ex_t fresh_back)
abbrev s_is_int : Stmt := top 13
theorem sc_is_int : FnScope ["value"] ["value"] (defScope s_is_int) := ⟨rfl, rfl, rfl, by decide +kernel, rfl, by decide +kernel, by decide +kernel⟩
/-- the types of the values that the law hands around -/
def okTy (t : String) : Bool := t == "int" || t == "bool" || t == "str" || t == "NoneType" || t == "list" || t == "tuple" || t == "dict"
/-- x is of the built-in type t -/
def IsT (K : PySem.W.Frag) (H : Hp) (x : V) (t : String) : Prop := TyX K H x (.type t) ∧ okTy t = true
theorem IsT.int {K : PySem.W.Frag} {H : Hp} {i : Int} : IsT K H (.int i) "int" := ⟨.base (.int i), by decide +kernel⟩
/-- is_int(x): whether x is an int and no bool -/
def spIsInt (K : PySem.W.Frag) : Sp := fun vs H Q _ => ∃ x t, vs = [x] ∧ IsT K H x t ∧ Q (.bl (t == "int")) H
theorem g_isint {K : PySem.W.Frag} {H : Hp} {Q : VK} {E : XK} {i : Int} (k : Q (.bl true) H) : spIsInt K [.int i] H Q E := ⟨_, _, rfl, IsT.int, k⟩
theorem kit_int {t : String} (h : okTy t = true) : kitB t "int" = some (t == "int" || t == "bool") ∧ kitB t "bool" = some (t == "bool") ∧ kitB t "tuple" = some (t == "tuple") ∧ kitB t "list" = some (t == "list") := by
  unfold okTy at h
  simp only [Bool.or_eq_true, beq_iff_eq] at h
  rcases h with (((((h | h) | h) | h) | h) | h) | h <;> subst h <;> exact ⟨by decide +kernel, by decide +kernel, by decide +kernel, by decide +kernel⟩
section
variable {P : Program} {w : World} {K : PySem.W.Frag} {mg : Str → Option Value} {base : Heap}
theorem ok_is_int {f : Addr} {fd : FuncData} (F : Fun K "is_int" "is_int" s_is_int f fd) (T : Txt mg) : FnOk P w K mg base CX0 1 f fd ["value"] (spIsInt K) := by
  refine F.ok sc_is_int (fun vs H Q E h => ?_) (fun cdv A outer s H vs Q E hr h => ?_)
  · obtain ⟨x, t, rfl, _⟩ := h
    rfl
  · obtain ⟨x, t, rfl, ⟨ty, ok⟩, k⟩ := h
    obtain ⟨k1, k2, _, _⟩ := kit_int ok
    refine ⟨_, (pss_one (ps_ret (pe_and (pe_callB call_isi (by rfl) T.n_isinstance (by decide +kernel) (pa_cons (pv 0) (pa_cons (pe_bltn (v := .ty "int") (by rfl) T.n_int (by decide +kernel) rfl) pa_nil))) (pe_one (pe_not (pe_callB call_isi (by rfl) T.n_isinstance (by decide +kernel) (pa_cons (pv 0) (pa_cons (pe_bltn (v := .ty "bool") (by rfl) T.n_bool (by decide +kernel) rfl) pa_nil)))))))), ?_⟩
    walk_at "go"
    refine ⟨x, _, _, _, _, rfl, .ty _, ty, kit_ty k1, ?_⟩
    walk_at "go"
    by_cases c : t = "int"
    · subst c
      refine iteT ?_
      walk_at "go"
      refine ⟨x, _, _, _, _, rfl, .ty _, ty, kit_ty k2, ?_⟩
      walk_at "go"
      exact k
    · by_cases c2 : t = "bool"
      · subst c2
        refine iteT ?_
        walk_at "go"
        refine ⟨x, _, _, _, _, rfl, .ty _, ty, kit_ty k2, ?_⟩
        walk_at "go"
        exact k
      · have e : (t == "int" || t == "bool") = false := by simp [c, c2]
        have e2 : (t == "int") = false := by simp [c]
        rw [e]
        refine iteF ?_
        rw [e2] at k
        exact k
end
end NX

namespace NX
open PySem PySem.Spec PyProof.Rows L2
open Evl (Ex ex_l ex_t fresh_back)
/-- the class at CL is raised with v as its field f -/
def Thr (E : XK) (CL : Addr) (f : Str) (v : V) (H : Hp) : Prop := ∀ d H', Ex H H' → H' d = some (.xd [(f, v)]) → E (.ref CL) (some d) H'
theorem Thr.mono {E : XK} {CL : Addr} {f : Str} {v : V} {H H1 : Hp} (h : Thr E CL f v H) (e : Ex H H1) : Thr E CL f v H1 := fun d H' e' => h d H' (e.trans e')
end NX

namespace NX
open PySem PySem.Spec PyProof.Rows L2
open Evl (Ex ex_l ex_t fresh_back)
abbrev s_NoNetwork___init__ : Stmt := inClass (top 3) 0
theorem sc_NoNetwork___init__ : FnScope ["self", "index"] ["self", "index"] (defScope s_NoNetwork___init__) := ⟨rfl, rfl, rfl, by decide +kernel, rfl, by decide +kernel, by decide +kernel⟩
theorem ok_ini_NoNetwork {P : Program} {w : World} {K : PySem.W.Frag} {mg : Str → Option Value} {base : Heap} {CL C0 : Addr} {f : Addr} {fd : FuncData} (F : Fun K "__init__" "NoNetwork.__init__" s_NoNetwork___init__ f fd) (m_ChannelError : mg "ChannelError" = some (.ref C0)) (BC : BaseC K C0) (hno : PySem.W.findIn K (.ref CL) "index" = some none) : FnOk P w K mg base CX0 1 f fd ["self", "index"] (spExInit K CL "index") := by
  refine F.ok sc_NoNetwork___init__ (fun vs H Q E h => ?_) (fun cdv A outer s H vs Q E hr h => ?_)
  · obtain ⟨a, v, rfl, _⟩ := h
    rfl
  · obtain ⟨a, v, rfl, ha, T, k⟩ := h
    refine ⟨_, (pss_cons (ps_expr (pe_oeinit (K := K) m_ChannelError BC (pa_cons (pv 0) (pa_cons pe_str pa_nil))))
      (pss_one (ps_ost (pv 0) (pv 1) rfl))), ?_⟩
    walk_at "go"
    refine n_vei ?_
    walk_at "go"
    refine ⟨a, CL, _, rfl, by simp, T, ha, ?_⟩
    refine s_ost ?_
    walk_at "go"
    exact ⟨a, CL, rfl, T, hno, .inl ⟨ha, fun dx h1 h2 => k dx h1 h2⟩⟩
end NX

namespace NX
open PySem PySem.Spec PyProof.Rows L2
open Evl (Ex ex_l ex_t fresh_back)
/-- a value of an odd kind -/
inductive OddV (G : Hp) : V → String → Prop where
  | non : OddV G .non "NoneType"
  | bl (b : Bool) : OddV G (.bl b) "bool"
  | str (s : Str) : OddV G (.str s) "str"
  | int (i : Int) : OddV G (.int i) "int"
  | lst {a : Addr} {xs : List V} (h : G a = some (.lst xs)) : OddV G (.ref a) "list"
  | tup {a : Addr} {xs : List V} (h : G a = some (.tup xs)) : OddV G (.ref a) "tuple"
  | dct {a : Addr} {kvs : List (List L2.Key × V)} (h : G a = some (.dT kvs)) : OddV G (.ref a) "dict"
theorem OddV.mono {G H : Hp} {v : V} {t : String} (h : OddV G v t) (e : Ex G H) : OddV H v t := by
  cases h with
  | non => exact .non
  | bl b => exact .bl b
  | str s => exact .str s
  | int i => exact .int i
  | lst h => exact .lst (e _ _ h)
  | tup h => exact .tup (e _ _ h)
  | dct h => exact .dct (e _ _ h)
theorem OddV.isT {K : PySem.W.Frag} {G : Hp} {v : V} {t : String} (h : OddV G v t) : IsT K G v t := by
  cases h with
  | non => exact ⟨.base .non, by decide +kernel⟩
  | bl b => exact ⟨.base (.bl b), by decide +kernel⟩
  | str s => exact ⟨.base (.str s), by decide +kernel⟩
  | int i => exact ⟨.base (.int i), by decide +kernel⟩
  | lst h => exact ⟨.base (.lst h), by decide +kernel⟩
  | tup h => exact ⟨.base (.tup h), by decide +kernel⟩
  | dct h => exact ⟨.base (.dT h), by decide +kernel⟩
theorem IsT.mono {K : PySem.W.Frag} {H : Hp} {v : V} {t : String} (h : IsT K H v t) : okTy t = true := h.2
/-- no int from lo to hi -/
def NoIn (lo hi : Int) (v : V) (t : String) : Prop := t = "int" → ∃ i, v = .int i ∧ ¬ (lo ≤ i ∧ i ≤ hi)
end NX

namespace NX
open PySem PySem.Spec PyProof.Rows L2
open Evl (Ex ex_l ex_t fresh_back)
abbrev s_NoChannel___init__ : Stmt := inClass (top 6) 0
theorem sc_NoChannel___init__ : FnScope ["self", "channel"] ["self", "channel"] (defScope s_NoChannel___init__) := ⟨rfl, rfl, rfl, by decide +kernel, rfl, by decide +kernel, by decide +kernel⟩
theorem ok_ini_NoChannel {P : Program} {w : World} {K : PySem.W.Frag} {mg : Str → Option Value} {base : Heap} {CL C0 : Addr} {f : Addr} {fd : FuncData} (F : Fun K "__init__" "NoChannel.__init__" s_NoChannel___init__ f fd) (m_ChannelError : mg "ChannelError" = some (.ref C0)) (BC : BaseC K C0) (hno : PySem.W.findIn K (.ref CL) "channel" = some none) : FnOk P w K mg base CX0 1 f fd ["self", "channel"] (spExInit K CL "channel") := by
  refine F.ok sc_NoChannel___init__ (fun vs H Q E h => ?_) (fun cdv A outer s H vs Q E hr h => ?_)
  · obtain ⟨a, v, rfl, _⟩ := h
    rfl
  · obtain ⟨a, v, rfl, ha, T, k⟩ := h
    refine ⟨_, (pss_cons (ps_expr (pe_oeinit (K := K) m_ChannelError BC (pa_cons (pv 0) (pa_cons pe_str pa_nil))))
      (pss_one (ps_ost (pv 0) (pv 1) rfl))), ?_⟩
    walk_at "go"
    refine n_vei ?_
    walk_at "go"
    refine ⟨a, CL, _, rfl, by simp, T, ha, ?_⟩
    refine s_ost ?_
    walk_at "go"
    exact ⟨a, CL, rfl, T, hno, .inl ⟨ha, fun dx h1 h2 => k dx h1 h2⟩⟩
end NX

namespace NX
open PySem PySem.Spec PyProof.Rows L2
open Evl (Ex ex_l ex_t fresh_back)
theorem OddV.noT {G : Hp} {v : V} {t : String} (h : OddV G v t) : OddV (NX.noT G) v t := by
  cases h with
  | non => exact .non
  | bl b => exact .bl b
  | str s => exact .str s
  | int i => exact .int i
  | lst h => exact .lst (noT_of h fun ps z => by cases z)
  | tup h => exact .tup (noT_of h fun ps z => by cases z)
  | dct h => exact .dct (noT_of h fun ps z => by cases z)
theorem OddV.sm {G : Hp} {v : V} {t : String} (h : OddV G v t) : sameV v = true := by cases h <;> rfl
end NX

namespace NX
/-! ### chains and tables, no program in sight -/
def cge (ns : List Int) (j : Int) : Nat := ns.countP fun x => decide (j ≤ x)
/-- k of the numbers are at least 1, 2 .. k, each another one -/
def Has (ns : List Int) (k : Int) : Prop := ∀ j : Int, 1 ≤ j → j ≤ k → k - j + 1 ≤ (cge ns j : Int)
def IsCh (ns : List Int) (g : Int) : Prop := 0 ≤ g ∧ ∀ k : Int, k ≤ g ↔ Has ns k
theorem Has.down {ns : List Int} {k l : Int} (h : Has ns k) (e : l ≤ k) : Has ns l := fun j h1 h2 => by have := h j h1 (by omega); omega
theorem IsCh.uniq {ns : List Int} {g g' : Int} (h : IsCh ns g) (h' : IsCh ns g') : g = g' := by
  have h1 := (h'.2 g).mpr ((h.2 g).mp (Int.le_refl _))
  have h2 := (h.2 g').mpr ((h'.2 g').mp (Int.le_refl _))
  omega
theorem cge_perm {ns ms : List Int} (p : ns.Perm ms) (j : Int) : cge ns j = cge ms j := p.countP_eq _
theorem IsCh.perm {ns ms : List Int} {g : Int} (h : IsCh ns g) (p : ns.Perm ms) : IsCh ms g :=
  ⟨h.1, fun k => (h.2 k).trans ⟨fun a j h1 h2 => by rw [← cge_perm p]; exact a j h1 h2, fun a j h1 h2 => by rw [cge_perm p]; exact a j h1 h2⟩⟩
theorem cge_app (ns ms : List Int) (j : Int) : cge (ns ++ ms) j = cge ns j + cge ms j := List.countP_append ..
theorem cge_one (x j : Int) : cge [x] j = if j ≤ x then 1 else 0 := by unfold cge; simp
theorem cge_cons (x : Int) (ns : List Int) (j : Int) : cge (x :: ns) j = cge [x] j + cge ns j := cge_app [x] ns j
theorem cge_len (ns : List Int) (j : Int) : cge ns j ≤ ns.length := List.countP_le_length
theorem IsCh.nil : IsCh [] 0 := ⟨Int.le_refl _, fun k => ⟨fun h j h1 h2 => by omega, fun h => by
  by_cases c : k ≤ 0
  · exact c
  · have := h k (by omega) (Int.le_refl _)
    unfold cge at this
    simp at this⟩⟩
theorem IsCh.snoc {ns : List Int} {g x : Int} (h : IsCh ns g) (hx : ∀ y ∈ ns, y ≤ x) : IsCh (ns ++ [x]) (if x > g then g + 1 else g) := by
  obtain ⟨h0, h⟩ := h
  by_cases c : x > g
  · rw [if_pos c]
    refine ⟨by omega, fun k => ⟨fun hk j h1 h2 => ?_, fun hk => ?_⟩⟩
    · rw [cge_app, cge_one, if_pos (by omega)]
      by_cases e : j ≤ k - 1
      · have := (h (k - 1)).mp (by omega) j h1 e
        omega
      · omega
    · have : Has ns (k - 1) := fun j h1 h2 => by
        have := hk j h1 (by omega)
        rw [cge_app, cge_one] at this
        split at this <;> omega
      have := (h (k - 1)).mpr this
      omega
  · rw [if_neg c]
    refine ⟨h0, fun k => ⟨fun hk j h1 h2 => ?_, fun hk => ?_⟩⟩
    · have := (h k).mp hk j h1 h2
      rw [cge_app]
      omega
    · by_cases e : k ≤ g
      · exact e
      · have := hk.down (show g + 1 ≤ k by omega) (g + 1) (by omega) (Int.le_refl _)
        rw [cge_app, cge_one, if_neg (by omega)] at this
        have z : cge ns (g + 1) = 0 := by
          unfold cge
          refine List.countP_eq_zero.mpr fun y hy => ?_
          have := hx y hy
          simp
          omega
        rw [z] at this
        omega
theorem IsCh.le_len {ns : List Int} {g : Int} (h : IsCh ns g) : g ≤ (ns.length : Int) := by
  by_cases c : g ≤ 0
  · omega
  · have := (h.2 g).mp (Int.le_refl _) 1 (Int.le_refl _) (by omega)
    have z := cge_len ns 1
    omega
/-- more and greater numbers: a longer chain -/
theorem cge_mono {α : Type} {f g : α → Int} : ∀ {l m : List α}, l.Sublist m → (∀ x ∈ l, f x ≤ g x) → ∀ j, cge (l.map f) j ≤ cge (m.map g) j
  | _, _, .slnil, _, j => Nat.le_refl _
  | _, _, .cons a s, h, j => by
    have := cge_mono s h j
    rw [List.map_cons]
    rw [cge_cons]
    omega
  | _, _, .cons₂ a s, h, j => by
    have := cge_mono s (fun x hx => h x (List.mem_cons_of_mem _ hx)) j
    rw [List.map_cons, List.map_cons]
    rw [cge_cons (f a), cge_cons (g a), cge_one, cge_one]
    have := h a List.mem_cons_self
    split <;> split <;> omega
theorem IsCh.mono {α : Type} {f g : α → Int} {l m : List α} {c d : Int} (s : l.Sublist m) (h : ∀ x ∈ l, f x ≤ g x) (hc : IsCh (l.map f) c) (hd : IsCh (m.map g) d) : c ≤ d :=
  (hd.2 c).mpr fun j h1 h2 => by
    have := (hc.2 c).mp (Int.le_refl _) j h1 h2
    have := cge_mono s h j
    omega
/-- a value that is smaller somewhere: a station that shows it -/
theorem cge_less {α : Type} {f g : α → Int} {j : Int} : ∀ {l m : List α}, l.Sublist m → cge (m.map g) j < cge (l.map f) j → ∃ x ∈ l, g x < j ∧ j ≤ f x
  | _, _, .slnil, h => absurd h (Nat.lt_irrefl _)
  | _, _, .cons a s, h => by
    rw [List.map_cons, cge_cons (g a)] at h
    exact cge_less s (by omega)
  | _, _, .cons₂ a s, h => by
    rw [List.map_cons, List.map_cons] at h
    rw [cge_cons (f a), cge_cons (g a), cge_one, cge_one] at h
    by_cases c : g a < j ∧ j ≤ f a
    · exact ⟨a, List.mem_cons_self, c⟩
    · obtain ⟨x, hx, hh⟩ := cge_less (f := f) (g := g) s (j := j) (by split at h <;> split at h <;> omega)
      exact ⟨x, List.mem_cons_of_mem _ hx, hh⟩
/-- a table: each station's number by those of its neighbours; V, N: stations, neighbours -/
def Tab {α : Type} (V : α → Prop) (N : α → List α) (t : α → Int) : Prop := ∀ v, V v → IsCh ((N v).map t) (t v - 1)
/-- tables compared: b's stations are sent into a's, their neighbours (but for the order) among the neighbours there -/
theorem tab_le {α β : Type} {V : α → Prop} {V' : β → Prop} {N : α → List α} {N' : β → List β} {a : α → Int} {b : β → Int} (ha : Tab V N a) (hb : Tab V' N' b) (φ : β → α) (hV : ∀ v, V' v → V (φ v)) (hN' : ∀ v, V' v → ∀ u ∈ N' v, V' u)
    (hN : ∀ v, V' v → ∃ m : List α, m.Perm (N (φ v)) ∧ ((N' v).map φ).Sublist m) : ∀ v, V' v → b v ≤ a (φ v) := by
  have key : ∀ (n : Nat) v, V' v → (a (φ v)).toNat = n → b v ≤ a (φ v) := by
    intro n
    induction n using Nat.strongRecOn with
    | ind n ih =>
      intro v hv hn
      by_cases c : b v ≤ a (φ v)
      · exact c
      · have h1 := ha _ (hV v hv)
        have h2 := hb v hv
        have no : ¬ Has ((N (φ v)).map a) (a (φ v)) := fun z => by
          have := (h1.2 _).mpr z
          omega
        have yes : Has ((N' v).map b) (a (φ v)) := (h2.2 _).mp (by omega)
        obtain ⟨m, hm, hs⟩ := hN v hv
        have : ∃ j : Int, 1 ≤ j ∧ j ≤ a (φ v) ∧ (cge ((N (φ v)).map a) j : Int) < a (φ v) - j + 1 := Classical.byContradiction fun z => no fun j h1 h2 => Classical.byContradiction fun y => z ⟨j, h1, h2, by omega⟩
        obtain ⟨j, hj1, hj2, hlt⟩ := this
        have hy := yes j hj1 hj2
        have hm' : cge ((N (φ v)).map a) j = cge (m.map a) j := (cge_perm (hm.map a) j).symm
        -- as values: b on N' against a along φ
        have : ∃ u ∈ N' v, a (φ u) < j ∧ j ≤ b u := by
          have hlt' : cge (m.map a) j < cge ((N' v).map b) j := by omega
          have sub : cge (((N' v).map φ).map a) j ≤ cge (m.map a) j := by
            have := cge_mono (f := a) (g := a) hs (fun _ _ => Int.le_refl _) j
            exact this
          rw [List.map_map] at sub
          exact cge_less (f := b) (g := a ∘ φ) (List.Sublist.refl (N' v)) (by omega)
        obtain ⟨u, hu, hu1, hu2⟩ := this
        have hvu := hN' v hv u hu
        have := ih (a (φ u)).toNat (by omega) u hvu rfl
        omega
  exact fun v hv => key _ v hv rfl
end NX

namespace NX
open PySem PySem.Spec PyProof.Rows L2
open Evl (Ex ex_l ex_t fresh_back)
/-! ### lists of whole numbers -/
theorem dp_ints {K : PySem.W.Frag} {H : Hp} : ∀ ns : List Int, DpAll K H (ns.map V.int) (ns.map PyData.int)
  | [] => .nil
  | n :: ns => .cons (.int n) (dp_ints ns)
theorem lay_ints : ∀ ns : List Int, PyData.canLayAll0 (ns.map PyData.int) = true
  | [] => by rw [List.map_nil]; unfold PyData.canLayAll0; rfl
  | n :: ns => by
    rw [List.map_cons]
    unfold PyData.canLayAll0
    rw [lay_ints ns]
    simp only [PyData.canLay0, Bool.and_self]
theorem depth_ints : ∀ ns : List Int, PyData.depthAll (ns.map PyData.int) = 0
  | [] => by rw [List.map_nil]; unfold PyData.depthAll; rfl
  | n :: ns => by
    rw [List.map_cons]
    unfold PyData.depthAll
    rw [depth_ints ns]
    simp [PyData.depth]
theorem shaped_ints (ns : List Int) : SeqAt.shaped (.list (ns.map PyData.int)) = true := by
  unfold SeqAt.shaped
  rw [Bool.and_eq_true]
  refine ⟨?_, decide_eq_true ?_⟩
  · simp only [PyData.canLay0]
    exact lay_ints ns
  · simp only [PyData.depth]
    rw [depth_ints]
    omega
theorem shaped_intsT (ns : List Int) : SeqAt.shaped (.tuple (ns.map PyData.int)) = true := by
  unfold SeqAt.shaped
  rw [Bool.and_eq_true]
  refine ⟨?_, decide_eq_true ?_⟩
  · simp only [PyData.canLay0]
    exact lay_ints ns
  · simp only [PyData.depth]
    rw [depth_ints]
    omega
theorem eqvAll_ints : ∀ ns ms : List Int, PyData.eqvAll (ns.map PyData.int) (ms.map PyData.int) = decide (ns = ms)
  | [], [] => by simp [PyData.eqvAll]
  | [], q :: qs => by simp [PyData.eqvAll]
  | p :: ps, [] => by simp [PyData.eqvAll]
  | p :: ps, q :: qs => by
    rw [List.map_cons, List.map_cons, PyData.eqvAll, eqvAll_ints ps qs, Bool.eq_iff_iff]
    simp [PyData.eqv]
theorem eqv_ints (ns ms : List Int) : PyData.eqv (.list (ns.map PyData.int)) (.list (ms.map PyData.int)) = decide (ns = ms) := by
  rw [PyData.eqv]; exact eqvAll_ints ns ms
theorem eqv_intsT (ns ms : List Int) : PyData.eqv (.tuple (ns.map PyData.int)) (.tuple (ms.map PyData.int)) = decide (ns = ms) := by
  rw [PyData.eqv]; exact eqvAll_ints ns ms
section
variable {K : PySem.W.Frag} {G H : Hp} {L : List (Addr × HO)} {p q : Addr} {xs : List V} {v : V} {Q : VK} {ns ms : List Int}
theorem n_neIL (h1 : SqL K H p (ns.map V.int)) (h2 : SqL K H q (ms.map V.int)) (k : Q (.bl (!decide (ns = ms))) H) : rNeD K (.ref p) (.ref q) H Q :=
  ⟨_, _, .lst h1 (dp_ints ns), .lst h2 (dp_ints ms), shaped_ints ns, shaped_ints ms, by rw [eqv_ints]; exact k⟩
theorem n_eqIL (h1 : SqL K H p (ns.map V.int)) (h2 : SqL K H q (ms.map V.int)) (k : Q (.bl (decide (ns = ms))) H) : rEqD K (.ref p) (.ref q) H Q :=
  ⟨_, _, .lst h1 (dp_ints ns), .lst h2 (dp_ints ms), shaped_ints ns, shaped_ints ms, by rw [eqv_ints]; exact k⟩
theorem n_neIT (h1 : SqT K H p (ns.map V.int)) (h2 : SqT K H q (ms.map V.int)) (k : Q (.bl (!decide (ns = ms))) H) : rNeD K (.ref p) (.ref q) H Q :=
  ⟨_, _, .tup h1 (dp_ints ns), .tup h2 (dp_ints ms), shaped_intsT ns, shaped_intsT ms, by rw [eqv_intsT]; exact k⟩
theorem n_eqIT (h1 : SqT K H p (ns.map V.int)) (h2 : SqT K H q (ms.map V.int)) (k : Q (.bl (decide (ns = ms))) H) : rEqD K (.ref p) (.ref q) H Q :=
  ⟨_, _, .tup h1 (dp_ints ns), .tup h2 (dp_ints ms), shaped_intsT ns, shaped_intsT ms, by rw [eqv_intsT]; exact k⟩
/-- sorted(a list of numbers), read from now on -/
theorem n_sortI (S : Own G L H) (h : SqL K H p (ns.map V.int)) (k : ∀ (ms : List Int) q G1 H1, ms.Perm ns → ms.Pairwise (· ≤ ·) → H q = none → Ex G G1 → Ex H H1 → G1 q = some (.lst (ms.map V.int)) → Own G1 L H1 → Q (.ref q) H1) : rSortedI K [.ref p] H Q :=
  ⟨p, ns, rfl, h, fun ms q h1 h2 hq => k ms q _ _ h1 h2 hq (S.still hq).2.1 (Ex.new hq) (S.still hq).2.2 (S.still hq).1⟩
/-! ### results that are new -/
def Ret (o : HO) (H : Hp) (Q : VK) : Prop := ∀ p H', H p = none → Ex H H' → H' p = some o → Q (.ref p) H'
theorem n_retO {o : HO} (S : Own G L H) (ht : noTup o = true) (k : ∀ p H1, H p = none → Ex H H1 → Own G ((p, o) :: L) H1 → Q (.ref p) H1) : Ret o H Q :=
  fun p H' hp e h => k p H' hp e (S.new e hp h ht)
theorem n_retG {o : HO} (S : Own G L H) (k : ∀ p G1 H1, H p = none → Ex G G1 → Ex H H1 → G1 p = some o → Own G1 L H1 → Q (.ref p) H1) : Ret o H Q :=
  fun p H' hp e h => by
    obtain ⟨S1, e1, e2⟩ := S.absorb e
    exact k p _ H' hp e1 e (e2 _ _ ((nw_new hp).trans h)) S1
theorem Own.pure (S : Own G [] H) : Ex G H := S.ex
end
/-- what stood still may be changed from now on -/
theorem Own.thaw {G H : Hp} {L : List (Addr × HO)} {p : Addr} {o : HO} (S : Own G L H) (h : G p = some o) (ht : noTup o = true := by rfl) : Own (cut G [(p, o)]) ((p, o) :: L) H ∧ ∀ a u, a ≠ p → G a = some u → cut G [(p, o)] a = some u :=
  ⟨⟨fun a u e => by
      by_cases m : a ∈ ([(p, o)] : List (Addr × HO)).map Prod.fst
      · rw [cut_in m] at e; cases e
      · rw [cut_out m] at e; exact S.ex _ _ e, fun x hx => by
      rcases List.mem_cons.mp hx with rfl | hx
      · exact ⟨cut_in (by simp), S.ex _ _ h⟩
      · have z := S.at_ x hx
        refine ⟨?_, z.2⟩
        have ne : x.1 ≠ p := fun e => by rw [e, h] at z; cases z.1
        rw [cut_out (by simpa using ne)]
        exact z.1, by
      rw [List.map_cons, List.nodup_cons]
      refine ⟨fun m => ?_, S.nd⟩
      obtain ⟨x, hx, e⟩ := List.mem_map.mp m
      have z := (S.at_ x hx).1
      rw [e, h] at z
      exact (nomatch z), fun x hx => by
      rcases List.mem_cons.mp hx with rfl | hx
      · exact ht
      · exact S.nt x hx⟩, fun a u ne e => by rw [cut_out (by simpa using ne)]; exact e⟩
/-! ### one number of a list -/
def tv (t : List Int) (j : Int) : Int := t.getD j.toNat 0
theorem tv_nat (t : List Int) (i : Nat) : tv t (i : Int) = t.getD i 0 := by unfold tv; rw [Int.toNat_natCast]
theorem tv_get {t : List Int} {i : Nat} {x : Int} (h : t[i]? = some x) : tv t (i : Int) = x := by rw [tv_nat, List.getD_eq_getElem?_getD, h] <;> rfl
theorem get_tv {t : List Int} {i : Nat} (h : i < t.length) : t[i]? = some (tv t (i : Int)) := by
  rw [tv_nat, List.getD_eq_getElem?_getD, List.getElem?_eq_getElem h] <;> rfl
theorem at_tv {t : List Int} {j : Int} (h0 : 0 ≤ j) (h : j < (t.length : Int)) : atI (t.map V.int) j = some (.int (tv t j)) := by
  obtain ⟨i, rfl⟩ : ∃ i : Nat, j = (i : Int) := ⟨j.toNat, by omega⟩
  exact atI_nat (by rw [List.getElem?_map, get_tv (by omega)] <;> rfl)
theorem tv_app1 {t : List Int} {x : Int} {j : Int} (h : j < (t.length : Int)) (h0 : 0 ≤ j) : tv (t ++ [x]) j = tv t j := by
  unfold tv
  rw [List.getD_eq_getElem?_getD, List.getD_eq_getElem?_getD, List.getElem?_append_left (by omega)]
theorem tv_app2 {t : List Int} {x : Int} : tv (t ++ [x]) (t.length : Int) = x := tv_get (by simp)
theorem tv_ext {s t : List Int} (hl : s.length = t.length) (h : ∀ i : Nat, i < s.length → tv s (i : Int) = tv t (i : Int)) : s = t := by
  refine List.ext_getElem? fun i => ?_
  by_cases c : i < s.length
  · rw [get_tv c, get_tv (by omega), h i c]
  · rw [List.getElem?_eq_none (by omega), List.getElem?_eq_none (by omega)]
theorem tv_out {t : List Int} {j : Int} (h : (t.length : Int) ≤ j) : tv t j = 0 := by
  unfold tv
  rw [List.getD_eq_getElem?_getD, List.getElem?_eq_none (by omega)] <;> rfl
theorem tv_cons (x : Int) (t : List Int) (i : Nat) : tv (x :: t) ((i + 1 : Nat) : Int) = tv t (i : Int) := by
  rw [tv_nat, tv_nat] <;> rfl
theorem tv_zero (x : Int) (t : List Int) : tv (x :: t) 0 = x := rfl
theorem sum_le : ∀ {s t : List Int}, s.length = t.length → (∀ i : Nat, i < s.length → tv s (i : Int) ≤ tv t (i : Int)) → s.sum ≤ t.sum ∧ (s ≠ t → s.sum < t.sum)
  | [], [], _, _ => ⟨Int.le_refl _, fun h => absurd rfl h⟩
  | [], _ :: _, h, _ => absurd h (by simp)
  | _ :: _, [], h, _ => absurd h (by simp)
  | a :: s, b :: t, hl, h => by
    have ih := sum_le (s := s) (t := t) (by simpa using hl) fun i hi => by
      have := h (i + 1) (by simp; omega)
      rw [tv_cons, tv_cons] at this
      exact this
    have h0 := h 0 (by simp)
    have h0 : a ≤ b := h0
    rw [List.sum_cons, List.sum_cons]
    refine ⟨by omega, fun ne => ?_⟩
    by_cases c : s = t
    · have : a ≠ b := fun e => ne (by rw [e, c])
      have := ih.1
      omega
    · have := ih.2 c
      omega
theorem sum_nn : ∀ {s : List Int}, (∀ i : Nat, i < s.length → 0 ≤ tv s (i : Int)) → 0 ≤ s.sum
  | [], _ => Int.le_refl _
  | a :: s, h => by
    have ih := sum_nn (s := s) fun i hi => by
      have := h (i + 1) (by simp; omega)
      rw [tv_cons] at this
      exact this
    have h0 : 0 ≤ a := h 0 (by simp)
    rw [List.sum_cons]
    omega
theorem rep_flat (m : Nat) (x : V) : (List.replicate m [x]).flatten = List.replicate m x := by
  induction m with
  | zero => rfl
  | succ m ih => rw [List.replicate_succ, List.flatten_cons, ih, List.replicate_succ] <;> rfl
theorem tv_rep {m i : Nat} {x : Int} (h : i < m) : tv (List.replicate m x) (i : Int) = x := tv_get (by rw [List.getElem?_replicate, if_pos h])
/-- [x] * m -/
theorem n_rep {H G : Hp} {L : List (Addr × HO)} {p : Addr} {x : Int} {m : Int} {Q : VK} (S : Own G ((p, .lst [.int x]) :: L) H) (h0 : 0 ≤ m) (hz : m ≤ 100000) (k : ∀ q G1 H1, H q = none → Ex G G1 → Ex H H1 → G1 q = some (.lst ((List.replicate m.toNat x).map V.int)) → Own G1 L H1 → Q (.ref q) H1) : rRep (.ref p) (.int m) H Q :=
  ⟨p, m, _, rfl, rfl, S.get0, by omega, by omega, small (by simp; omega), fun q hq => by
    have T := S.forget.still (o := .lst (List.replicate m.toNat [V.int x]).flatten) hq
    refine k q _ _ hq T.2.1 (Ex.new hq) ?_ T.1
    rw [T.2.2, rep_flat, List.map_replicate]⟩
end NX

namespace NX
open PySem PySem.Spec PyProof.Rows L2
open Evl (Ex ex_l ex_t fresh_back)
open LamX (CodeO TabB)
abbrev s__law_outcome : Stmt := top 28
theorem sc__law_outcome : FnScope ["_law_ask", "e", "_law_kinds"] ["_law_ask"] (defScope s__law_outcome) := ⟨rfl, rfl, rfl, by decide +kernel, rfl, by decide +kernel, by decide +kernel⟩
/-- the classes that _law_outcome asks for, in its order -/
structure Cls8 (mg : Str → Option Value) (Cs : Nat → Addr) : Prop where
  c0 : mg "NoStation" = some (.ref (Cs 0))
  c1 : mg "NoChannel" = some (.ref (Cs 1))
  c2 : mg "TooMany" = some (.ref (Cs 2))
  c3 : mg "NoClosedSet" = some (.ref (Cs 3))
  c4 : mg "NoLink" = some (.ref (Cs 4))
  c5 : mg "NoNames" = some (.ref (Cs 5))
  c6 : mg "NoNetwork" = some (.ref (Cs 6))
  c7 : mg "NoState" = some (.ref (Cs 7))
/-- the field of the class i -/
def fldOf : Nat → Str
  | 0 => "station"
  | 1 => "channel"
  | 2 => "most"
  | 4 => "link"
  | _ => "index"
/-- D is the class i, no other -/
structure Kind8 (K : PySem.W.Frag) (C0 : Addr) (Cs : Nat → Addr) (D : Addr) (i : Nat) : Prop where
  lt : i < 8
  xf : XfC K D
  nf : PySem.W.findIn K (.ref D) (fldOf i) = some none
  ed : ExcD K D
  te : PySem.W.exmOne K (.ref D) (.ref C0) = some true
  kd : ∀ j, j < 8 → PySem.W.kitOne K (.ref D) (.ref (Cs j)) = some (decide (i = j))
  kv : PySem.W.kitOne K (.ref D) (.type "ValueError") = some true
/-- the word for the class i -/
def wordOf : Nat → Str
  | 0 => "station"
  | 1 => "channel"
  | 2 => "many"
  | 3 => "closed"
  | 4 => "link"
  | 5 => "names"
  | 6 => "network"
  | _ => "state"
/-- what is told of the field -/
def ToldV (K : PySem.W.Frag) (H : Hp) (i : Nat) (v u : V) : Prop := (i = 0 ∨ i = 1 ∨ i = 4) ∧ (∃ t, ShV K H v t ∧ u = .str t) ∨ (i = 2 ∨ i = 3 ∨ i = 5 ∨ i = 6 ∨ i = 7) ∧ u = v
def EOut (K : PySem.W.Frag) (C0 : Addr) (Cs : Nat → Addr) (Q : VK) : XK := fun cls d H => ∃ (D dd : Addr) (i : Nat) (v u : V), cls = .ref D ∧ d = some dd ∧ Kind8 K C0 Cs D i ∧ H dd = some (.xd [(fldOf i, v)]) ∧ ToldV K H i v u ∧ Ret (.tup [.str (wordOf i), u]) H Q
def OutT (K : PySem.W.Frag) (C0 : Addr) (Cs : Nat → Addr) : (XK → Hp → VK → Prop) → Hp → VK → Prop := fun tl H Q => ∀ (E : XK) (Q' : VK), (∀ cls d H', EOut K C0 Cs Q cls d H' → E cls d H') → (∀ v H', Q .non H' → Q' v H') → tl E H Q'
theorem out_gives {X : Cx} {C0 g : Addr} {Cs : Nat → Addr} {cdg : Value} {q : Str} (T : Txt X.mg) (m_ChannelError : X.mg "ChannelError" = some (.ref C0)) (M8 : Cls8 X.mg Cs) (hG0 : X.A.guards = some []) (hun : ∀ env, (X.A.deeper env).units + 65 < cLine) :
    GivesS X ["_law_ask", "e", "_law_kinds"] "_law_outcome" (defScope s__law_outcome) g cdg (defBody s__law_outcome) "_law_ask" q (OutT X.K C0 Cs) := by
  intro f c' s H Q tl act hc h
  obtain ⟨m_NoStation, m_NoChannel, m_TooMany, m_NoClosedSet, m_NoLink, m_NoNames, m_NoNetwork, m_NoState⟩ := M8
  have hu65 : ∀ X' : Cx, X'.A.units = (X.A.deeper (envOfC "_law_outcome" (defScope s__law_outcome) s.heap.objs.size g cdg)).units → X'.A.units + 65 < cLine := fun X' e => by rw [e]; exact hun _
  have hG : (X.A.deeper (envOfC "_law_outcome" (defScope s__law_outcome) s.heap.objs.size g cdg)).guards = some [] := hG0
  refine ⟨_, (pss_cons (ps_try_as (i := 1) rfl rfl sc__law_outcome.nd rfl rfl ⟨rfl, by decide, Or.inl m_ChannelError⟩ takes0 (fun W pn xe tk _ => (pss_one (ps_expr (act W pn xe _ _ tk)))) (fun a oe cls d pn hz hf => (pss_cons (ps_set (i := 2) sc__law_outcome.nd rfl (Or.inl rfl) (pe_lst (pa_cons (pe_callB (call_isX (K := X.K) hz hf) (by rfl) T.n_isinstance (by decide +kernel) (pa_cons (pv 1) (pa_cons (pe_cls m_NoStation) pa_nil))) (pa_cons (pe_callB (call_isX (K := X.K) hz hf) (by rfl) T.n_isinstance (by decide +kernel) (pa_cons (pv 1) (pa_cons (pe_cls m_NoChannel) pa_nil))) (pa_cons (pe_callB (call_isX (K := X.K) hz hf) (by rfl) T.n_isinstance (by decide +kernel) (pa_cons (pv 1) (pa_cons (pe_cls m_TooMany) pa_nil))) pa_nil)))))
      (pss_cons (ps_set (i := 2) sc__law_outcome.nd rfl (Or.inl rfl) (pe_op (op_catLK (K := X.K)) (pv 2) (pe_lst (pa_cons (pe_callB (call_isX (K := X.K) hz hf) (by rfl) T.n_isinstance (by decide +kernel) (pa_cons (pv 1) (pa_cons (pe_cls m_NoClosedSet) pa_nil))) (pa_cons (pe_callB (call_isX (K := X.K) hz hf) (by rfl) T.n_isinstance (by decide +kernel) (pa_cons (pv 1) (pa_cons (pe_cls m_NoLink) pa_nil))) (pa_cons (pe_callB (call_isX (K := X.K) hz hf) (by rfl) T.n_isinstance (by decide +kernel) (pa_cons (pv 1) (pa_cons (pe_cls m_NoNames) pa_nil))) pa_nil))))))
      (pss_cons (ps_set (i := 2) sc__law_outcome.nd rfl (Or.inl rfl) (pe_op (op_catLK (K := X.K)) (pv 2) (pe_lst (pa_cons (pe_callB (call_isX (K := X.K) hz hf) (by rfl) T.n_isinstance (by decide +kernel) (pa_cons (pv 1) (pa_cons (pe_cls m_NoNetwork) pa_nil))) (pa_cons (pe_callB (call_isX (K := X.K) hz hf) (by rfl) T.n_isinstance (by decide +kernel) (pa_cons (pv 1) (pa_cons (pe_cls m_NoState) pa_nil))) pa_nil)))))
      (pss_cons (ps_if (PW.pt (pw_or (pt_cmpR op_ne (pe_bmK (K := X.K) PySem.F.plainAttrs_list PySem.F.slot_list_count PySem.F.type_list_count (mt_countV (K := X.K)) (pv 2) (pa_cons pe_bl pa_nil)) pe_int (nomark _)) (pw_or1 (pt_not (pt_val (pe_callB (call_isX (K := X.K) hz hf) (by rfl) T.n_isinstance (by decide +kernel) (pa_cons (pv 1) (pa_cons (pe_bltn (v := .ty "ValueError") (by rfl) T.n_ValueError (by decide +kernel) rfl) pa_nil)))))))) (pss_one (ps_ret pe_str)) pss_nil)
      (pss_cons (ps_if (pt_val (pe_ix (ix_listK (K := X.K)) (pv 2) pe_int (fun _ _ => rfl))) (pss_one (ps_ret (pe_tup (pa_cons pe_str (pa_cons (pe_callB (cr_reprV (K := X.K) hG (hu65 _ rfl)) (by rfl) T.n_repr (by decide +kernel) (pa_cons (pe_xfA (K := X.K) hz hf (pv 1)) pa_nil)) pa_nil))))) pss_nil)
      (pss_cons (ps_if (pt_val (pe_ix (ix_listK (K := X.K)) (pv 2) pe_int (fun _ _ => rfl))) (pss_one (ps_ret (pe_tup (pa_cons pe_str (pa_cons (pe_callB (cr_reprV (K := X.K) hG (hu65 _ rfl)) (by rfl) T.n_repr (by decide +kernel) (pa_cons (pe_xfA (K := X.K) hz hf (pv 1)) pa_nil)) pa_nil))))) pss_nil)
      (pss_cons (ps_if (pt_val (pe_ix (ix_listK (K := X.K)) (pv 2) pe_int (fun _ _ => rfl))) (pss_one (ps_ret (pe_tup (pa_cons pe_str (pa_cons (pe_xfA (K := X.K) hz hf (pv 1)) pa_nil))))) pss_nil)
      (pss_cons (ps_if (pt_val (pe_ix (ix_listK (K := X.K)) (pv 2) pe_int (fun _ _ => rfl))) (pss_one (ps_ret (pe_tup (pa_cons pe_str (pa_cons (pe_callB (cr_reprV (K := X.K) hG (hu65 _ rfl)) (by rfl) T.n_repr (by decide +kernel) (pa_cons (pe_xfA (K := X.K) hz hf (pv 1)) pa_nil)) pa_nil))))) pss_nil)
      (pss_one (ps_ret (pe_tup (pa_cons (pe_ix (ix_listK (K := X.K)) (pe_lst (pa_cons pe_str (pa_cons pe_str (pa_cons pe_str (pa_cons pe_str (pa_cons pe_str pa_nil)))))) (pe_op op_sub (pe_bmK (K := X.K) PySem.F.plainAttrs_list PySem.F.slot_list_index PySem.F.type_list_index (mt_indexK (K := X.K)) (pv 2) (pa_cons pe_bl pa_nil)) pe_int) (fun _ _ => rfl)) (pa_cons (pe_xfA (K := X.K) hz hf (pv 1)) pa_nil)))))))))))))))
      (pss_one (ps_ret pe_non))), ?_⟩
  walk_at "go"
  refine g_act rfl hc ?_
  refine h _ _ (fun cls d H' hE => ?_) (fun v H' hq => ?_)
  · obtain ⟨D, dd, i, v, u, rfl, rfl, K8, hd, hu, hq⟩ := hE
    have isx : ∀ (a : Addr) (j : Nat) (H2 : Hp) (Q2 : VK), j < 8 → Ex H' H2 → Q2 (.bl (decide (i = j))) H2 → rIsX X.K a (.ref D) (some dd) [.ref a, .ref (Cs j)] H2 Q2 := fun a j H2 Q2 hj e2 k2 => ⟨D, dd, _, _, _, rfl, rfl, e2 _ _ hd, K8.ed, rfl, .inl ⟨_, .own _, K8.kd j hj⟩, k2⟩
    refine n_as K8.te fun a0 ha0 => ?_
    walk_at "go"
    refine isx _ 0 _ _ (by decide) (Ex.refl _) ?_
    walk_at "go"
    refine isx _ 1 _ _ (by decide) (Ex.refl _) ?_
    walk_at "go"
    refine isx _ 2 _ _ (by decide) (Ex.refl _) ?_
    walk_at "go"
    refine n_lst (Own.start H') (by show 3 ≤ 10000000; decide) fun p1 H1 _ S1 => ?_
    walk_at "go"
    refine isx _ 3 _ _ (by decide) S1.ex ?_
    walk_at "go"
    refine isx _ 4 _ _ (by decide) S1.ex ?_
    walk_at "go"
    refine isx _ 5 _ _ (by decide) S1.ex ?_
    walk_at "go"
    refine n_lst S1 (by show 3 ≤ 10000000; decide) fun p2 H2 _ S2 => ?_
    refine n_cat S2 (SqL.of S2.get1) (SqL.of S2.get0) (by show 3 + 3 ≤ 10000000; decide) fun p3 H3 _ S3 => ?_
    walk_at "go"
    refine isx _ 6 _ _ (by decide) S3.ex ?_
    walk_at "go"
    refine isx _ 7 _ _ (by decide) S3.ex ?_
    walk_at "go"
    refine n_lst S3 (by show 2 ≤ 10000000; decide) fun p4 H4 _ S4 => ?_
    refine n_cat S4 (SqL.of S4.get1) (SqL.of S4.get0) (by show 6 + 2 ≤ 10000000; decide) fun p5 H5 _ S5 => ?_
    walk_at "go"
    refine ⟨tyL (SqL.of S5.get0), ?_⟩
    walk_at "go"
    refine n_countV (y := .bl true) (SqL.of S5.get0) rfl rfl ?_
    walk_at "go"
    refine if_ff (ntrue ?_) ?_
    · have hi := K8.lt
      have : i = 0 ∨ i = 1 ∨ i = 2 ∨ i = 3 ∨ i = 4 ∨ i = 5 ∨ i = 6 ∨ i = 7 := by omega
      rcases this with rfl | rfl | rfl | rfl | rfl | rfl | rfl | rfl <;> rfl
    walk_at "go"
    refine ⟨D, dd, _, _, true, rfl, rfl, S5.ex _ _ hd, K8.ed, rfl, .inl ⟨_, .ty _, K8.kv⟩, ?_⟩
    walk_at "go"
    have ret2 : ∀ (H6 : Hp) (w : V), Ex H' H6 → w = u → NewT [.str (wordOf i), w] H6 fun x H7 => Q x H7 := fun H6 w e6 ew => by
      subst ew
      exact n_tup (Own.start H6) (by show 2 ≤ 10000000; decide) fun t7 G7 H7 h7 _ e7 ht7 S7 => hq t7 H7 (fresh_back e6 h7) (e6.trans e7) (S7.ex _ _ ht7)
    have rs : ∀ (H6 : Hp) (t : Str), Ex H' H6 → ShV X.K H' v t → ShV X.K H6 v t := fun H6 t e6 hs => hs.mono e6 fun d => dp_mono e6 d _
    have ixb : ∀ (j : Nat) (k2 : V → Hp → Prop), j < 8 → k2 (.bl (decide (i = j))) H5 → rIxL X.K (.ref p5) (.int (j : Int)) H5 k2 := fun j k2 hj hk => by
      refine g_ixL (i := (j : Int)) (SqL.of S5.get0) (v := .bl (decide (i = j))) ?_ hk
      have : j = 0 ∨ j = 1 ∨ j = 2 ∨ j = 3 ∨ j = 4 ∨ j = 5 ∨ j = 6 ∨ j = 7 := by omega
      rcases this with rfl | rfl | rfl | rfl | rfl | rfl | rfl | rfl <;> rfl
    refine ixb 0 _ (by decide) ?_
    walk_at "go"
    by_cases h0 : i = 0
    · subst h0
      obtain ⟨t, hs, rfl⟩ : ∃ t, ShV X.K H' v t ∧ u = .str t := by
        rcases hu with ⟨_, h⟩ | ⟨h, _⟩
        · exact h
        · omega
      refine if_tt (dtrue rfl) ?_
      walk_at "go"
      refine g_xfA K8.xf K8.nf ?_
      walk_at "go"
      refine n_xf (S5.ex _ _ hd) ?_
      walk_at "go"
      refine n_reprV (rs _ _ S5.ex hs) ?_
      walk_at "go"
      exact ret2 _ _ S5.ex rfl
    refine if_ff (dfalse h0) ?_
    walk_at "go"
    refine ixb 1 _ (by decide) ?_
    walk_at "go"
    by_cases h1 : i = 1
    · subst h1
      obtain ⟨t, hs, rfl⟩ : ∃ t, ShV X.K H' v t ∧ u = .str t := by
        rcases hu with ⟨_, h⟩ | ⟨h, _⟩
        · exact h
        · omega
      refine if_tt (dtrue rfl) ?_
      walk_at "go"
      refine g_xfA K8.xf K8.nf ?_
      walk_at "go"
      refine n_xf (S5.ex _ _ hd) ?_
      walk_at "go"
      refine n_reprV (rs _ _ S5.ex hs) ?_
      walk_at "go"
      exact ret2 _ _ S5.ex rfl
    refine if_ff (dfalse h1) ?_
    walk_at "go"
    refine ixb 2 _ (by decide) ?_
    walk_at "go"
    by_cases h2 : i = 2
    · subst h2
      obtain rfl : u = v := by
        rcases hu with ⟨h, _⟩ | ⟨_, h⟩
        · omega
        · exact h
      refine if_tt (dtrue rfl) ?_
      walk_at "go"
      refine g_xfA K8.xf K8.nf ?_
      walk_at "go"
      refine n_xf (S5.ex _ _ hd) ?_
      walk_at "go"
      exact ret2 _ _ S5.ex rfl
    refine if_ff (dfalse h2) ?_
    walk_at "go"
    refine ixb 4 _ (by decide) ?_
    walk_at "go"
    by_cases h4 : i = 4
    · subst h4
      obtain ⟨t, hs, rfl⟩ : ∃ t, ShV X.K H' v t ∧ u = .str t := by
        rcases hu with ⟨_, h⟩ | ⟨h, _⟩
        · exact h
        · omega
      refine if_tt (dtrue rfl) ?_
      walk_at "go"
      refine g_xfA K8.xf K8.nf ?_
      walk_at "go"
      refine n_xf (S5.ex _ _ hd) ?_
      walk_at "go"
      refine n_reprV (rs _ _ S5.ex hs) ?_
      walk_at "go"
      exact ret2 _ _ S5.ex rfl
    refine if_ff (dfalse h4) ?_
    walk_at "go"
    have hi := K8.lt
    obtain rfl : u = v := by
      rcases hu with ⟨h, _⟩ | ⟨_, h⟩
      · omega
      · exact h
    refine n_lst S5 (by show 5 ≤ 10000000; decide) fun p6 H6 _ S6 => ?_
    walk_at "go"
    refine ⟨tyL (SqL.of S6.get1), ?_⟩
    walk_at "go"
    have : i = 3 ∨ i = 5 ∨ i = 6 ∨ i = 7 := by omega
    rcases this with rfl | rfl | rfl | rfl
    · refine ⟨p5, _, .bl true, 3, .bl true, rfl, rfl, SqL.of S6.get1, rfl, rfl, rfl, rfl, (fun m z' hm hz => by
        have : m = 0 ∨ m = 1 ∨ m = 2 ∨ m = 3 ∨ m = 4 ∨ m = 5 ∨ m = 6 := by omega
        rcases this with rfl | rfl | rfl | rfl | rfl | rfl | rfl <;> first | (cases hz; rfl) | omega), ?_⟩
      walk_at "go"
      refine g_ixL (SqL.of S6.get0) rfl ?_
      walk_at "go"
      refine g_xfA K8.xf K8.nf ?_
      walk_at "go"
      refine n_xf (S6.ex _ _ hd) ?_
      walk_at "go"
      exact ret2 _ _ S6.ex rfl
    · refine ⟨p5, _, .bl true, 5, .bl true, rfl, rfl, SqL.of S6.get1, rfl, rfl, rfl, rfl, (fun m z' hm hz => by
        have : m = 0 ∨ m = 1 ∨ m = 2 ∨ m = 3 ∨ m = 4 ∨ m = 5 ∨ m = 6 := by omega
        rcases this with rfl | rfl | rfl | rfl | rfl | rfl | rfl <;> first | (cases hz; rfl) | omega), ?_⟩
      walk_at "go"
      refine g_ixL (SqL.of S6.get0) rfl ?_
      walk_at "go"
      refine g_xfA K8.xf K8.nf ?_
      walk_at "go"
      refine n_xf (S6.ex _ _ hd) ?_
      walk_at "go"
      exact ret2 _ _ S6.ex rfl
    · refine ⟨p5, _, .bl true, 6, .bl true, rfl, rfl, SqL.of S6.get1, rfl, rfl, rfl, rfl, (fun m z' hm hz => by
        have : m = 0 ∨ m = 1 ∨ m = 2 ∨ m = 3 ∨ m = 4 ∨ m = 5 ∨ m = 6 := by omega
        rcases this with rfl | rfl | rfl | rfl | rfl | rfl | rfl <;> first | (cases hz; rfl) | omega), ?_⟩
      walk_at "go"
      refine g_ixL (SqL.of S6.get0) rfl ?_
      walk_at "go"
      refine g_xfA K8.xf K8.nf ?_
      walk_at "go"
      refine n_xf (S6.ex _ _ hd) ?_
      walk_at "go"
      exact ret2 _ _ S6.ex rfl
    · refine ⟨p5, _, .bl true, 7, .bl true, rfl, rfl, SqL.of S6.get1, rfl, rfl, rfl, rfl, (fun m z' hm hz => by
        have : m = 0 ∨ m = 1 ∨ m = 2 ∨ m = 3 ∨ m = 4 ∨ m = 5 ∨ m = 6 := by omega
        rcases this with rfl | rfl | rfl | rfl | rfl | rfl | rfl <;> first | (cases hz; rfl) | omega), ?_⟩
      walk_at "go"
      refine g_ixL (SqL.of S6.get0) rfl ?_
      walk_at "go"
      refine g_xfA K8.xf K8.nf ?_
      walk_at "go"
      refine n_xf (S6.ex _ _ hd) ?_
      walk_at "go"
      exact ret2 _ _ S6.ex rfl
  · walk_at "go"
    exact hq
theorem out_st {K : PySem.W.Frag} {C0 CS : Addr} {Cs : Nat → Addr} {Q : VK} {d : Addr} {H : Hp} {v : V} {t : Str} (KS : Kind8 K C0 Cs CS 0) (hs : ShV K H v t) (hd : H d = some (.xd [("station", v)])) (k : Ret (.tup [.str "station", .str t]) H Q) : EOut K C0 Cs Q (.ref CS) (some d) H :=
  ⟨CS, d, 0, v, .str t, rfl, rfl, KS, hd, .inl ⟨.inl rfl, t, hs, rfl⟩, k⟩
theorem out_ix {K : PySem.W.Frag} {C0 D : Addr} {Cs : Nat → Addr} {Q : VK} {d : Addr} {H : Hp} {v : V} {i : Nat} (KD : Kind8 K C0 Cs D i) (hi : i = 3 ∨ i = 5 ∨ i = 6 ∨ i = 7) (hd : H d = some (.xd [("index", v)])) (k : Ret (.tup [.str (wordOf i), v]) H Q) : EOut K C0 Cs Q (.ref D) (some d) H :=
  ⟨D, d, i, v, v, rfl, rfl, KD, by rcases hi with rfl | rfl | rfl | rfl <;> exact hd, .inr ⟨.inr hi, rfl⟩, k⟩
def cs8 (a0 a1 a2 a3 a4 a5 a6 a7 : Addr) : Nat → Addr
  | 0 => a0
  | 1 => a1
  | 2 => a2
  | 3 => a3
  | 4 => a4
  | 5 => a5
  | 6 => a6
  | _ => a7
theorem kd8 {K : PySem.W.Frag} {D a0 a1 a2 a3 a4 a5 a6 a7 : Addr} {i : Nat} (h0 : PySem.W.kitOne K (.ref D) (.ref a0) = some (decide (i = 0))) (h1 : PySem.W.kitOne K (.ref D) (.ref a1) = some (decide (i = 1))) (h2 : PySem.W.kitOne K (.ref D) (.ref a2) = some (decide (i = 2))) (h3 : PySem.W.kitOne K (.ref D) (.ref a3) = some (decide (i = 3)))
    (h4 : PySem.W.kitOne K (.ref D) (.ref a4) = some (decide (i = 4))) (h5 : PySem.W.kitOne K (.ref D) (.ref a5) = some (decide (i = 5))) (h6 : PySem.W.kitOne K (.ref D) (.ref a6) = some (decide (i = 6))) (h7 : PySem.W.kitOne K (.ref D) (.ref a7) = some (decide (i = 7))) :
    ∀ j, j < 8 → PySem.W.kitOne K (.ref D) (.ref (cs8 a0 a1 a2 a3 a4 a5 a6 a7 j)) = some (decide (i = j)) := by
  intro j hj
  have : j = 0 ∨ j = 1 ∨ j = 2 ∨ j = 3 ∨ j = 4 ∨ j = 5 ∨ j = 6 ∨ j = 7 := by omega
  rcases this with rfl | rfl | rfl | rfl | rfl | rfl | rfl | rfl
  · exact h0
  · exact h1
  · exact h2
  · exact h3
  · exact h4
  · exact h5
  · exact h6
  · exact h7
end NX

namespace NX
open PySem PySem.Spec PyProof.Rows L2
open Evl (Ex ex_l ex_t fresh_back)
/-! ### lists of pairs of numbers -/
def isPr (H : Hp) (x : V) (q : Int × Int) : Prop := ∃ t, x = .ref t ∧ H t = some (.tup [.int q.1, .int q.2])
abbrev Lks (H : Hp) : List V → List (Int × Int) → Prop := Paired (isPr H)
theorem Lks.mono {G H : Hp} (e : Ex G H) {xs : List V} {ps : List (Int × Int)} (h : Lks G xs ps) : Lks H xs ps := Paired.mapP h fun _ _ ⟨t, a, b⟩ => ⟨t, a, e _ _ b⟩
theorem pr_snoc {α β : Type} {F : α → β → Prop} : ∀ {xs : List α} {ys : List β} {a : α} {b : β}, Paired F xs ys → F a b → Paired F (xs ++ [a]) (ys ++ [b])
  | _, _, _, _, .nil, h => .cons h .nil
  | _, _, _, _, .cons r t, h => .cons r (pr_snoc t h)
theorem pr_len {α β : Type} {F : α → β → Prop} {xs : List α} {ys : List β} (h : Paired F xs ys) : xs.length = ys.length := Paired.length h
theorem pr_get {α β : Type} {F : α → β → Prop} : ∀ {xs : List α} {ys : List β} {i : Nat} {a : α}, Paired F xs ys → xs[i]? = some a → ∃ b, ys[i]? = some b ∧ F a b
  | _, _, _, _, .nil, e => by simp at e
  | _, _, 0, _, .cons r _, e => by simp at e; subst e; exact ⟨_, rfl, r⟩
  | _, _, i + 1, _, .cons _ t, e => by
    obtain ⟨b, h1, h2⟩ := pr_get (i := i) t (by simpa using e)
    exact ⟨b, by simpa using h1, h2⟩
theorem take_snoc {α : Type} : ∀ {l : List α} {i : Nat} {x : α}, l[i]? = some x → l.take (i + 1) = l.take i ++ [x]
  | [], i, x, h => by simp at h
  | a :: l, 0, x, h => by
    have e : a = x := Option.some.inj h
    subst e
    rfl
  | a :: l, i + 1, x, h => by
    have ih := take_snoc (l := l) (i := i) (x := x) h
    show a :: l.take (i + 1) = a :: l.take i ++ [x]
    rw [ih]
    rfl
theorem get_map {α β : Type} {f : α → β} {l : List α} {i : Nat} {y : β} (h : (l.map f)[i]? = some y) : ∃ x, l[i]? = some x ∧ y = f x := by
  rw [List.getElem?_map] at h
  cases e : l[i]? with
  | none => rw [e] at h; cases h
  | some x => rw [e] at h; exact ⟨x, rfl, (Option.some.inj h).symm⟩
/-- range(a, b) -/
def rgI (a b : Int) : List Int := (List.range (b - a).toNat).map fun (i : Nat) => a + (i : Int)
theorem rgV_eq (a b : Int) : rgV a b = (rgI a b).map V.int := by
  unfold rgV rgI
  rw [List.map_map]
  rfl
theorem mem_rgI {a b k : Int} (h : k ∈ rgI a b) : a ≤ k ∧ k < b := by
  obtain ⟨i, hi, rfl⟩ := List.mem_map.mp h
  have := List.mem_range.mp hi
  omega
theorem pr_app {α β : Type} {F : α → β → Prop} : ∀ {xs xs' : List α} {ys ys' : List β}, Paired F xs ys → Paired F xs' ys' → Paired F (xs ++ xs') (ys ++ ys')
  | _, _, _, _, .nil, h => h
  | _, _, _, _, .cons r t, h => .cons r (pr_app t h)
end NX

/-! pairs in order; neighbours: plain Lean -/
namespace NX
abbrev Pr := Int × Int
def leP (x y : Pr) : Bool := decide (x.1 < y.1 ∨ (x.1 = y.1 ∧ x.2 ≤ y.2))
theorem leP_iff {x y : Pr} : leP x y = true ↔ (x.1 < y.1 ∨ (x.1 = y.1 ∧ x.2 ≤ y.2)) := by unfold leP; exact decide_eq_true_iff
theorem leP_total (x y : Pr) : leP x y = true ∨ leP y x = true := by
  rw [leP_iff, leP_iff]; omega
theorem leP_anti {x y : Pr} (h : leP x y = true) (h' : leP y x = true) : x = y := by
  rw [leP_iff] at h h'
  obtain ⟨a, b⟩ := x; obtain ⟨c, d⟩ := y
  simp only at h h'
  have h1 : a = c := by omega
  have h2 : b = d := by omega
  rw [h1, h2]
theorem leP_trans {x y z : Pr} (h : leP x y = true) (h' : leP y z = true) : leP x z = true := by
  rw [leP_iff] at *; omega
def insP (x : Pr) : List Pr → List Pr
  | [] => [x]
  | y :: l => if leP x y then x :: y :: l else y :: insP x l
def sortP : List Pr → List Pr
  | [] => []
  | x :: l => insP x (sortP l)
theorem insP_perm (x : Pr) : ∀ l, (insP x l).Perm (x :: l)
  | [] => List.Perm.refl _
  | y :: l => by
    unfold insP
    split
    · exact List.Perm.refl _
    · exact ((insP_perm x l).cons y).trans (List.Perm.swap x y l)
theorem sortP_perm : ∀ l, (sortP l).Perm l
  | [] => List.Perm.refl _
  | x :: l => (insP_perm x _).trans ((sortP_perm l).cons x)
abbrev Up (l : List Pr) : Prop := l.Pairwise fun x y => leP x y = true
theorem insP_up (x : Pr) : ∀ l, Up l → Up (insP x l)
  | [], _ => List.pairwise_singleton _ _
  | y :: l, h => by
    unfold insP
    split
    · rename_i c
      refine List.pairwise_cons.mpr ⟨fun z hz => ?_, h⟩
      rcases List.mem_cons.mp hz with rfl | hz
      · exact c
      · exact leP_trans c ((List.pairwise_cons.mp h).1 z hz)
    · rename_i c
      have c' : leP y x = true := (leP_total x y).resolve_left c
      refine List.pairwise_cons.mpr ⟨fun z hz => ?_, insP_up x l (List.pairwise_cons.mp h).2⟩
      rcases List.mem_cons.mp ((insP_perm x l).mem_iff.mp hz) with rfl | hz
      · exact c'
      · exact (List.pairwise_cons.mp h).1 z hz
theorem sortP_up : ∀ l, Up (sortP l)
  | [] => List.Pairwise.nil
  | x :: l => insP_up x _ (sortP_up l)
theorem up_uniq : ∀ {l m : List Pr}, Up l → Up m → l.Perm m → l = m
  | [], m, _, _, h => (List.Perm.nil_eq h)
  | x :: l, [], _, _, h => absurd h.length_eq (by simp)
  | x :: l, y :: m, hl, hm, h => by
    have hx : x ∈ y :: m := h.mem_iff.mp List.mem_cons_self
    have hy : y ∈ x :: l := h.mem_iff.mpr List.mem_cons_self
    have e : x = y := by
      rcases List.mem_cons.mp hx with e | hx
      · exact e
      · rcases List.mem_cons.mp hy with e | hy
        · exact e.symm
        · exact leP_anti ((List.pairwise_cons.mp hl).1 y hy) ((List.pairwise_cons.mp hm).1 x hx)
    subst e
    rw [up_uniq (List.pairwise_cons.mp hl).2 (List.pairwise_cons.mp hm).2 h.cons_inv]
theorem sortP_eq {l m : List Pr} (h : Up l) (p : l.Perm m) : l = sortP m := up_uniq h (sortP_up m) (p.trans (sortP_perm m).symm)
theorem sortP_congr {l m : List Pr} (p : l.Perm m) : sortP l = sortP m := up_uniq (sortP_up l) (sortP_up m) (((sortP_perm l).trans p).trans (sortP_perm m).symm)
theorem sortP_id {l : List Pr} (h : Up l) : sortP l = l := (sortP_eq h (List.Perm.refl l)).symm
theorem sortP_len (l : List Pr) : (sortP l).length = l.length := (sortP_perm l).length_eq
theorem mem_sortP {l : List Pr} {q : Pr} : q ∈ sortP l ↔ q ∈ l := (sortP_perm l).mem_iff
/-- the neighbours of i, in the order of the links -/
def nb (ks : List Pr) (i : Int) : List Int := ks.filterMap fun q => if q.1 = i then some q.2 else if q.2 = i then some q.1 else none
theorem nb_app (ks ls : List Pr) (i : Int) : nb (ks ++ ls) i = nb ks i ++ nb ls i := by unfold nb; rw [List.filterMap_append]
theorem nb_one (q : Pr) (i : Int) : nb [q] i = if q.1 = i then [q.2] else if q.2 = i then [q.1] else [] := by
  show (([q] : List Pr).filterMap fun q => if q.1 = i then some q.2 else if q.2 = i then some q.1 else none) = _
  rw [List.filterMap_cons]
  by_cases h : q.1 = i
  · simp [h]
  · by_cases h2 : q.2 = i
    · simp [h, h2]
    · simp [h, h2]
theorem mem_nb {ks : List Pr} {i j : Int} : j ∈ nb ks i ↔ (i, j) ∈ ks ∨ (j, i) ∈ ks ∧ j ≠ i := by
  unfold nb
  rw [List.mem_filterMap]
  constructor
  · rintro ⟨⟨a, b⟩, hq, h⟩
    simp only at h
    by_cases h1 : a = i
    · rw [if_pos h1] at h
      cases h
      subst h1
      exact .inl hq
    · rw [if_neg h1] at h
      by_cases h2 : b = i
      · rw [if_pos h2] at h
        cases h
        subst h2
        exact .inr ⟨hq, h1⟩
      · rw [if_neg h2] at h
        cases h
  · rintro (h | ⟨h, ne⟩)
    · exact ⟨(i, j), h, by simp⟩
    · exact ⟨(j, i), h, by simp [ne]⟩
/-- a network's links: each the smaller station first -/
def Okl (n : Nat) (ks : List Pr) : Prop := ∀ q ∈ ks, 0 ≤ q.1 ∧ q.1 < q.2 ∧ q.2 < (n : Int)
theorem mem_nb' {n : Nat} {ks : List Pr} (h : Okl n ks) {i j : Int} : j ∈ nb ks i ↔ (i, j) ∈ ks ∨ (j, i) ∈ ks := by
  rw [mem_nb]
  constructor
  · rintro (a | a)
    · exact .inl a
    · exact .inr a.1
  · rintro (a | a)
    · exact .inl a
    · exact .inr ⟨a, by have := h _ a; simp only at this; omega⟩
theorem nb_sym {n : Nat} {ks : List Pr} (h : Okl n ks) {i j : Int} : j ∈ nb ks i ↔ i ∈ nb ks j := by
  rw [mem_nb' h, mem_nb' h]
  exact ⟨fun a => a.symm, fun a => a.symm⟩
theorem nb_rng {n : Nat} {ks : List Pr} (h : Okl n ks) {i j : Int} (m : j ∈ nb ks i) : 0 ≤ j ∧ j < n ∧ j ≠ i ∧ 0 ≤ i ∧ i < n := by
  rw [mem_nb' h] at m
  rcases m with m | m
  · have := h _ m; simp only at this; omega
  · have := h _ m; simp only at this; omega
theorem Okl.sort {n : Nat} {ks : List Pr} (h : Okl n ks) : Okl n (sortP ks) := fun q hq => h q (mem_sortP.mp hq)
/-- the neighbours of a sorted list of links are in ascending order -/
theorem nb_up {n : Nat} : ∀ {ks : List Pr}, Okl n ks → Up ks → ks.Nodup → ∀ i, (nb ks i).Pairwise (· < ·)
  | [], _, _, _, _ => List.Pairwise.nil
  | q :: ks, h, u, d, i => by
    have h' : Okl n ks := fun q hq => h q (List.mem_cons_of_mem _ hq)
    have u' := List.pairwise_cons.mp u
    have d' := List.nodup_cons.mp d
    have ih := nb_up h' u'.2 d'.2 i
    have e : nb (q :: ks) i = nb [q] i ++ nb ks i := nb_app [q] ks i
    rw [e, nb_one]
    have hq := h q List.mem_cons_self
    obtain ⟨a, b⟩ := q
    simp only at hq ⊢
    by_cases h1 : a = i
    · rw [if_pos h1]
      refine List.pairwise_cons.mpr ⟨fun z hz => ?_, ih⟩
      subst h1
      rcases (mem_nb' h').mp hz with m | m
      · have c := leP_iff.mp (u'.1 _ m)
        simp only at c
        have ne : b ≠ z := fun z' => by subst z'; exact d'.1 m
        omega
      · have c := leP_iff.mp (u'.1 _ m)
        have c2 := h' _ m
        simp only at c c2
        omega
    · rw [if_neg h1]
      by_cases h2 : b = i
      · rw [if_pos h2]
        refine List.pairwise_cons.mpr ⟨fun z hz => ?_, ih⟩
        subst h2
        rcases (mem_nb' h').mp hz with m | m
        · have c := h' _ m
          have c2 := leP_iff.mp (u'.1 _ m)
          simp only at c c2
          omega
        · have c := leP_iff.mp (u'.1 _ m)
          simp only at c
          have ne : a ≠ z := fun z' => by subst z'; exact d'.1 m
          omega
      · rw [if_neg h2]
        exact ih
theorem nb_nodup {n : Nat} {ks : List Pr} (h : Okl n ks) (u : Up ks) (d : ks.Nodup) (i : Int) : (nb ks i).Nodup :=
  (nb_up h u d i).imp fun {a b} (c : a < b) => by omega
/-- not more neighbours than stations -/
theorem up_len : ∀ {l : List Int} {lo hi : Int}, l.Pairwise (· < ·) → (∀ x ∈ l, lo ≤ x ∧ x < hi) → l = [] ∨ (l.length : Int) ≤ hi - lo
  | [], _, _, _, _ => .inl rfl
  | x :: l, lo, hi, h, b => by
    have h' := List.pairwise_cons.mp h
    have bx := b x List.mem_cons_self
    refine .inr ?_
    rcases up_len (lo := x + 1) (hi := hi) h'.2 (fun y hy => ⟨by have := h'.1 y hy; omega, (b y (List.mem_cons_of_mem _ hy)).2⟩) with e | e
    · subst e
      show ((0 + 1 : Nat) : Int) ≤ _
      omega
    · rw [List.length_cons]
      omega
theorem I_len {n : Nat} {ks : List Pr} (h : Okl n ks) (u : Up ks) (d : ks.Nodup) (i : Int) : (nb ks i).length ≤ n := by
  rcases up_len (lo := 0) (hi := (n : Int)) (nb_up h u d i) (fun x hx => by have := nb_rng h hx; omega) with e | e
  · rw [e]; exact Nat.zero_le _
  · omega
end NX

namespace NX
open PySem PySem.Spec PyProof.Rows L2
open Evl (Ex ex_l ex_t fresh_back)
/-! ### pairs as data -/
def pd (q : Pr) : PyData := .tuple [.int q.1, .int q.2]
theorem dp_pr {K : PySem.W.Frag} {H : Hp} {x : V} {q : Pr} (h : isPr H x q) : Dp K H x (pd q) := by
  obtain ⟨t, rfl, ht⟩ := h
  exact .tup (SqT.of ht) (.cons (.int _) (.cons (.int _) .nil))
theorem dp_lks {K : PySem.W.Frag} {H : Hp} : ∀ {xs : List V} {ps : List Pr}, Lks H xs ps → DpAll K H xs (ps.map pd)
  | _, _, .nil => .nil
  | _, _, .cons r t => .cons (dp_pr r) (dp_lks t)
theorem lay_lks : ∀ ps : List Pr, PyData.canLayAll0 (ps.map pd) = true
  | [] => by rw [List.map_nil]; unfold PyData.canLayAll0; rfl
  | q :: ps => by
    rw [List.map_cons]
    unfold PyData.canLayAll0
    rw [lay_lks ps]
    show (PyData.canLay0 (.tuple [.int q.1, .int q.2]) && true) = true
    simp only [PyData.canLay0, PyData.canLayAll0, Bool.and_self]
theorem depth_lks : ∀ ps : List Pr, PyData.depthAll (ps.map pd) ≤ 1
  | [] => by rw [List.map_nil]; unfold PyData.depthAll; omega
  | q :: ps => by
    rw [List.map_cons]
    unfold PyData.depthAll
    have h := depth_lks ps
    have e : PyData.depth (pd q) = 1 := by
      show PyData.depth (.tuple [.int q.1, .int q.2]) = 1
      simp [PyData.depth, PyData.depthAll]
    rw [e]
    omega
theorem shaped_lks (ps : List Pr) : SeqAt.shaped (.list (ps.map pd)) = true := by
  unfold SeqAt.shaped
  have h := depth_lks ps
  rw [Bool.and_eq_true]
  refine ⟨?_, decide_eq_true ?_⟩
  · simp only [PyData.canLay0]
    exact lay_lks ps
  · simp only [PyData.depth]
    omega
theorem shaped_pd (q : Pr) : SeqAt.shaped (pd q) = true := by
  unfold SeqAt.shaped pd
  simp [PyData.canLay0, PyData.canLayAll0, PyData.depth, PyData.depthAll]
theorem eqv_pd (z q : Pr) : PyData.eqv (pd z) (pd q) = decide (z = q) := by
  unfold pd
  simp only [PyData.eqv, PyData.eqvAll, Bool.and_true]
  obtain ⟨a, b⟩ := z; obtain ⟨c, d⟩ := q
  rw [Bool.eq_iff_iff]
  simp
theorem any_pd (ps : List Pr) (q : Pr) : ((ps.map pd).any fun z => PyData.eqv z (pd q)) = decide (q ∈ ps) := by
  rw [List.any_map, Bool.eq_iff_iff, List.any_eq_true]
  simp only [Function.comp, eqv_pd, decide_eq_true_eq]
  exact ⟨fun ⟨x, hx, e⟩ => e ▸ hx, fun h => ⟨q, h, rfl⟩⟩
theorem eqvAll_lks : ∀ ps qs : List Pr, PyData.eqvAll (ps.map pd) (qs.map pd) = decide (ps = qs)
  | [], [] => by simp [PyData.eqvAll]
  | [], q :: qs => by simp [PyData.eqvAll]
  | p :: ps, [] => by simp [PyData.eqvAll]
  | p :: ps, q :: qs => by
    rw [List.map_cons, List.map_cons, PyData.eqvAll, eqv_pd, eqvAll_lks ps qs, Bool.eq_iff_iff]
    simp
theorem eqv_lks (ps qs : List Pr) : PyData.eqv (.list (ps.map pd)) (.list (qs.map pd)) = decide (ps = qs) := by
  rw [PyData.eqv]; exact eqvAll_lks ps qs
/-- the pair that a tuple holds -/
def kOf (H : Hp) (x : V) : Pr := match x with
  | .ref t => (match H t with
    | some (.tup [.int i, .int j]) => (i, j)
    | _ => (0, 0))
  | _ => (0, 0)
theorem kOf_pr {H : Hp} {x : V} {q : Pr} (h : isPr H x q) : kOf H x = q := by
  obtain ⟨t, rfl, ht⟩ := h
  unfold kOf
  simp only [ht]
theorem lks_k {H : Hp} : ∀ {xs : List V} {ps : List Pr}, Lks H xs ps → xs.map (kOf H) = ps ∧ ∀ x ∈ xs, isPr H x (kOf H x)
  | _, _, .nil => ⟨rfl, fun _ h => nomatch h⟩
  | _, _, .cons r t => by
    obtain ⟨h1, h2⟩ := lks_k t
    refine ⟨by rw [List.map_cons, kOf_pr r, h1], fun x hx => ?_⟩
    rcases List.mem_cons.mp hx with rfl | hx
    · rw [kOf_pr r]; exact r
    · exact h2 x hx
theorem lks_of {H : Hp} : ∀ {ys : List V}, (∀ x ∈ ys, isPr H x (kOf H x)) → Lks H ys (ys.map (kOf H))
  | [], _ => .nil
  | y :: ys, h => .cons (h y List.mem_cons_self) (lks_of fun x hx => h x (List.mem_cons_of_mem _ hx))
/-- sorted(links) -/
theorem n_sortP {K : PySem.W.Frag} {G H : Hp} {L : List (Addr × HO)} {a : Addr} {xs : List V} {ps : List Pr} {Q : VK} {G0 : Hp} (S : Own G L H) (hx : SqL K H a xs) (e0 : Ex G0 H) (hl : Lks G0 xs ps)
    (k : ∀ p ys G1 H1, H p = none → Ex G G1 → Ex H H1 → G1 p = some (.lst ys) → Lks G0 ys (sortP ps) → Own G1 L H1 → Q (.ref p) H1) : rSortedPO K [.ref a] H Q := by
  obtain ⟨h1, h2⟩ := lks_k hl
  refine ⟨a, xs, kOf G0, rfl, hx, fun x m => ?_, fun ys p hs hb hp => ?_⟩
  · obtain ⟨t, e, ht⟩ := h2 x m
    exact ⟨t, e, e0 _ _ ht⟩
  · have hy : Lks G0 ys (ys.map (kOf G0)) := lks_of fun x m => h2 x (hb.perm.mem_iff.mp m)
    have e : ys.map (kOf G0) = sortP ps := by
      refine sortP_eq ?_ ?_
      · refine List.pairwise_map.mpr (hs.imp fun {x y} (c : ltP (kOf G0) y x = false) => ?_)
        have z := SrtO.lexB_no.mp c
        rw [leP_iff]
        omega
      · rw [← h1]
        exact hb.perm.map _
    rw [e] at hy
    exact k p ys _ _ hp (S.still hp).2.1 (Ex.new hp) (S.still hp).2.2 hy (S.still hp).1
/-! ### a network in the heap -/
def NF (kp np : Addr) : List (Str × V) := putF "near" (.ref np) (putF "kept" (.ref kp) [])
theorem nf_near (kp np : Addr) : (NF kp np).lookup ("near" : Str) = some (.ref np) := by unfold NF; rw [lookup_putF, if_pos rfl]
theorem nf_kept (kp np : Addr) : (NF kp np).lookup ("kept" : Str) = some (.ref kp) := by
  unfold NF
  rw [lookup_putF, if_neg (by decide +kernel), lookup_putF, if_pos rfl]
theorem nf_no (kp np : Addr) {m : Str} (h1 : ¬ m = "near") (h2 : ¬ m = "kept") : (NF kp np).lookup m = none := by
  unfold NF
  rw [lookup_putF, if_neg h1, lookup_putF, if_neg h2]
  all_goals rfl
/-- what stands at a network's addresses -/
structure NetO (C : Addr) (H : Hp) (a : Addr) (dx kp np : Addr) (xs : List V) (nps : List Addr) (n : Nat) (ks : List Pr) : Prop where
  ins : H a = some (.ins C dx (NF kp np))
  kept : H kp = some (.lst xs)
  lks : Lks H xs ks
  near : H np = some (.lst (nps.map V.ref))
  len : nps.length = n
  each : ∀ (i : Nat) (p : Addr), nps[i]? = some p → H p = some (.lst ((nb ks (i : Int)).map V.int))
structure NetAt (C : Addr) (H : Hp) (a : Addr) (n : Nat) (ks : List Pr) : Prop where
  at_ : ∃ dx kp np xs nps, NetO C H a dx kp np xs nps n ks
  ok : Okl n ks
  up : Up ks
  nd : ks.Nodup
  sz : 1 ≤ n ∧ n ≤ 60
theorem NetO.mono {C : Addr} {G H : Hp} {a dx kp np : Addr} {xs : List V} {nps : List Addr} {n : Nat} {ks : List Pr} (h : NetO C G a dx kp np xs nps n ks) (e : Ex G H) : NetO C H a dx kp np xs nps n ks :=
  ⟨e _ _ h.ins, e _ _ h.kept, h.lks.mono e, e _ _ h.near, h.len, fun i p q => e _ _ (h.each i p q)⟩
theorem NetAt.mono {C : Addr} {G H : Hp} {a : Addr} {n : Nat} {ks : List Pr} (h : NetAt C G a n ks) (e : Ex G H) : NetAt C H a n ks :=
  ⟨let ⟨dx, kp, np, xs, nps, o⟩ := h.at_; ⟨dx, kp, np, xs, nps, o.mono e⟩, h.ok, h.up, h.nd, h.sz⟩
/-- what the text says of the class -/
structure NetC (K : PySem.W.Frag) (C : Addr) : Prop where
  cl : Cls K C
  nK : NoAttr K C "kept"
  nN : NoAttr K C "near"
  ha : PySem.W.findIn K (.ref C) "__class__" = some (some (.builtin "object.__class__"))
  hn : PySem.W.specialIn K (.builtin "object.__class__") "__get__" = some (some (.builtin "getset_descriptor.__get__"))
  ht : PySem.W.takesIn K (.builtin "object.__class__") = some true
  hm : PySem.W.mroIn K C (.type "object") = some true
  kit : PySem.W.kitOne K (.ref C) (.ref C) = some true
  ne : PySem.W.findIn K (.ref C) "__ne__" = some (some (.builtin "object.__ne__"))
end NX

namespace NX
open PySem PySem.Spec PyProof.Rows L2
open Evl (Ex ex_l ex_t fresh_back)
theorem IsT.tup {K : PySem.W.Frag} {H : Hp} {t : Addr} {xs : List V} (h : H t = some (.tup xs)) : IsT K H (.ref t) "tuple" := ⟨.base (.tup h), by decide +kernel⟩
theorem IsT.lst {K : PySem.W.Frag} {H : Hp} {t : Addr} {xs : List V} (h : H t = some (.lst xs)) : IsT K H (.ref t) "list" := ⟨.base (.lst h), by decide +kernel⟩
theorem n_isiTup {K : PySem.W.Frag} {H : Hp} {t : Addr} {xs : List V} {Q : VK} (h : H t = some (.tup xs)) (k : Q (.bl true) H) : rIsi K [.ref t, .ty "tuple"] H Q := ⟨_, _, _, _, _, rfl, .ty _, .base (.tup h), kit_ty (by decide +kernel), k⟩
theorem n_isiLst {K : PySem.W.Frag} {H : Hp} {t : Addr} {xs : List V} {Q : VK} (h : H t = some (.lst xs)) (k : Q (.bl true) H) : rIsi K [.ref t, .ty "list"] H Q := ⟨_, _, _, _, _, rfl, .ty _, .base (.lst h), kit_ty (by decide +kernel), k⟩
abbrev s_is_link : Stmt := top 14
theorem sc_is_link : FnScope ["value", "stations", "part"] ["value", "stations"] (defScope s_is_link) := ⟨rfl, rfl, rfl, by decide +kernel, rfl, by decide +kernel, by decide +kernel⟩
def spIsLink : Sp := fun vs H Q _ => ∃ (t : Addr) (a b n : Int), vs = [.ref t, .int n] ∧ H t = some (.tup [.int a, .int b]) ∧ (0 ≤ a ∧ a < b ∧ b < n) ∧ ∀ H', Ex H H' → Q (.bl true) H'
section
variable {P : Program} {w : World} {K : PySem.W.Frag} {mg : Str → Option Value} {base : Heap}
theorem ok_is_link {f : Addr} {fd : FuncData} (F : Fun K "is_link" "is_link" s_is_link f fd) (T : Txt mg) (c_is_int : Cal P w K mg base 1 "is_int" ["value"] [] (spIsInt K)) : FnOk P w K mg base CX0 2 f fd ["value", "stations"] spIsLink := by
  refine F.ok sc_is_link (fun vs H Q E h => ?_) (fun cdv A outer s H vs Q E hr h => ?_)
  · obtain ⟨t, a, b, n, rfl, _⟩ := h
    rfl
  · obtain ⟨t, a, b, n, rfl, ht, hb, k⟩ := h
    refine ⟨_, (pss_cons (ps_if (PW.pt (pw_or (pt_not (pt_val (pe_callB call_isi (by rfl) T.n_isinstance (by decide +kernel) (pa_cons (pv 0) (pa_cons (pe_bltn (v := .ty "tuple") (by rfl) T.n_tuple (by decide +kernel) rfl) pa_nil))))) (pw_or (pt_cmpR op_ne (pe_callB call_lenN (by rfl) T.n_len (by decide +kernel) (pa_cons (pv 0) pa_nil)) pe_int (nomark _)) (pw_or1 (pt_not (pt_val (pe_callB (cr_all rfl) (by rfl) T.n_all (by decide +kernel) (pa_cons (pe_lc (own := [("part", 2)]) (by rfl) sc_is_link.nd (pi_tup (pv 0)) (blkOk_by (own := [("part", 2)]) (N := ["value", "stations", "part"]) (sc := defScope s_is_link) (by decide +kernel)) (fun _ _ _ _ _ => (pg_name (i := 2) sc_is_link.nd rfl (Or.inl rfl))) (fun _ _ _ _ _ => pts_nil) (fun _ _ _ _ _ => (pe_cal c_is_int (hr.mono (by first | decide | omega)) passN (pa_cons (pv 2) pa_nil)))) pa_nil)))))))) (pss_one (ps_ret pe_bl)) pss_nil)
      (pss_one (ps_ret (pe_chain3 op_le op_lt op_lt pe_int (pe_ix ix_tup (pv 0) pe_int (fun _ _ => rfl)) (pe_ix ix_tup (pv 0) pe_int (fun _ _ => rfl)) (pv 1))))), ?_⟩
    walk_at "go"
    refine n_isiTup ht ?_
    walk_at "go"
    refine n_lenT (SqT.of ht) ?_
    walk_at "go"
    refine if_ff (by rfl) ?_
    walk_at "go"
    refine v_tup (xs := [.int a, .int b]) (fun i acc G' L' => G' = H ∧ L' = [] ∧ acc = List.replicate i (.bl true)) (Own.start H) (SqT.of ht) (by show 2 ≤ 1000000; decide) ⟨rfl, rfl, rfl⟩ ?_ ?_
    · rintro D i x acc G1 L1 H1 hx hi e hl ⟨rfl, rfl, rfl⟩ S
      obtain ⟨z, rfl⟩ : ∃ z : Int, x = .int z := by
        match i, hx with
        | 0, hx => exact ⟨a, (Option.some.inj hx).symm⟩
        | 1, hx => exact ⟨b, (Option.some.inj hx).symm⟩
        | i + 2, hx => simp at hx
      walk_at "go"
      refine ⟨rfl, ?_⟩
      walk_at "go"
      refine g_isint ?_
      exact c_yes S e hl hi ⟨rfl, rfl, List.replicate_succ'.symm⟩
    · rintro p acc G1 L1 H1 e hl ⟨rfl, rfl, rfl⟩ S
      walk_at "go"
      refine ⟨p, [true, true], rfl, S.l0, ?_⟩
      walk_at "go"
      refine if_ff (by rfl) ?_
      walk_at "go"
      refine g_ixT (i := 0) (S.st (SqT.of ht)) rfl ?_
      walk_at "go"
      refine if_tt (dtrue hb.1) ?_
      walk_at "go"
      refine g_ixT (i := 1) (S.st (SqT.of ht)) rfl ?_
      walk_at "go"
      refine if_tt (dtrue hb.2.1) ?_
      walk_at "go"
      rw [dtrue hb.2.2]
      exact k _ S.ex
end
end NX

namespace NX
open PySem PySem.Spec PyProof.Rows L2
open Evl (Ex ex_l ex_t fresh_back)
/-! ### lists of lists: near -/
def nearL (nps : List Addr) (g : Nat → List Int) : List (Addr × HO) := nps.zipIdx.map fun x => (x.1, .lst ((g x.2).map V.int))
theorem nearL_get {nps : List Addr} {g : Nat → List Int} {i : Nat} {p : Addr} (h : nps[i]? = some p) : (nearL nps g)[i]? = some (p, .lst ((g i).map V.int)) := by
  unfold nearL
  rw [List.getElem?_map, List.getElem?_zipIdx, h]
  simp
theorem nearL_none {nps : List Addr} {g : Nat → List Int} {i : Nat} (h : nps[i]? = none) : (nearL nps g)[i]? = none := by
  unfold nearL
  rw [List.getElem?_map, List.getElem?_zipIdx, h]
  simp
theorem nearL_set {nps : List Addr} {g g' : Nat → List Int} {i : Nat} {p : Addr} (h : nps[i]? = some p) (hg : ∀ j, j ≠ i → g' j = g j) : (nearL nps g).set i (p, .lst ((g' i).map V.int)) = nearL nps g' := by
  refine List.ext_getElem? fun j => ?_
  by_cases c : i = j
  · subst c
    have hl : i < (nearL nps g).length := (List.getElem?_eq_some_iff.mp (nearL_get h)).1
    rw [List.getElem?_set_self hl, nearL_get h]
  · rw [List.getElem?_set_ne c]
    cases q : nps[j]? with
    | none => rw [nearL_none q, nearL_none q]
    | some r => rw [nearL_get q, nearL_get q, hg j (Ne.symm c)]
theorem nearL_snoc (nps : List Addr) (p : Addr) (g : Nat → List Int) : nearL (nps ++ [p]) g = nearL nps g ++ [(p, .lst ((g nps.length).map V.int))] := by
  unfold nearL
  rw [List.zipIdx_append, List.map_append]
  simp
theorem nearL_len (nps : List Addr) (g : Nat → List Int) : (nearL nps g).length = nps.length := by unfold nearL; simp
theorem nb_one_n {n : Nat} {q : Pr} {a b : Nat} (ha : q.1 = (a : Int)) (hb : q.2 = (b : Int)) (hne : a ≠ b) (ks : List Pr) (j : Nat) :
    nb (ks ++ [q]) (j : Int) = if j = a then nb ks (j : Int) ++ [(b : Int)] else if j = b then nb ks (j : Int) ++ [(a : Int)] else nb ks (j : Int) := by
  rw [nb_app, nb_one, ha, hb]
  by_cases h1 : j = a
  · subst h1; simp
  · have h1' : ¬ (a : Int) = (j : Int) := by omega
    rw [if_neg h1', if_neg h1]
    by_cases h2 : j = b
    · subst h2; simp
    · have h2' : ¬ (b : Int) = (j : Int) := by omega
      rw [if_neg h2', if_neg h2, List.append_nil]
theorem pr_take {α β : Type} {F : α → β → Prop} : ∀ {xs : List α} {ys : List β}, Paired F xs ys → ∀ i, Paired F (xs.take i) (ys.take i)
  | _, _, _, 0 => .nil
  | _, _, .nil, i + 1 => .nil
  | _, _, .cons r t, i + 1 => .cons r (pr_take t i)
theorem nodup_take {α : Type} {l : List α} (h : l.Nodup) {i : Nat} {q : α} (e : l[i]? = some q) : q ∉ l.take i := fun m => by
  obtain ⟨j, hj, e2⟩ := List.mem_iff_getElem.mp m
  have hj' : j < i ∧ j < l.length := by rw [List.length_take] at hj; omega
  have e3 : l[j]? = some q := by rw [← e2, List.getElem_take, List.getElem?_eq_getElem hj'.2]
  obtain ⟨h1, q1⟩ := List.getElem?_eq_some_iff.mp e
  obtain ⟨h2, q2⟩ := List.getElem?_eq_some_iff.mp e3
  have z := (List.getElem_inj h).mp (q1.trans q2.symm)
  omega
theorem perm_mid {α : Type} (a b c : α) (l : List α) : (b :: c :: (l ++ [a])).Perm (a :: b :: c :: l) :=
  ((List.perm_append_singleton a (b :: c :: l)))
abbrev s_Network___init__ : Stmt := inClass (top 15) 0
theorem sc_Network___init__ : FnScope ["self", "stations", "links", "index", "link", "one", "other", "station"] ["self", "stations", "links"] (defScope s_Network___init__) := ⟨rfl, rfl, rfl, by decide +kernel, rfl, by decide +kernel, by decide +kernel⟩
def spInit (C : Addr) : Sp := fun vs H Q _ => ∃ (x lp dx : Addr) (n : Nat) (xs : List V) (ps : List Pr) (G : Hp), vs = [.ref x, .int (n : Int), .ref lp] ∧ Own G [(x, .ins C dx [])] H ∧ G lp = some (.lst xs) ∧ Lks G xs ps ∧
  Okl n ps ∧ ps.Nodup ∧ 1 ≤ n ∧ n ≤ 60 ∧ ps.length ≤ 10000 ∧ ∀ H', Ex G H' → NetAt C (nw G H') x n (sortP ps) → Q .non H'
section
variable {P : Program} {w : World} {K : PySem.W.Frag} {mg : Str → Option Value} {base : Heap}
theorem ok_init {f C : Addr} {fd : FuncData} (F : Fun K "__init__" "Network.__init__" s_Network___init__ f fd) (T : Txt mg) (N : NetC K C) (c_is_int : Cal P w K mg base 1 "is_int" ["value"] [] (spIsInt K))
    (c_is_link : Cal P w K mg base 2 "is_link" ["value", "stations"] [] spIsLink) : FnOk P w K mg base CX0 3 f fd ["self", "stations", "links"] (spInit C) := by
  refine F.ok sc_Network___init__ (fun vs H Q E h => ?_) (fun cdv A outer s H vs Q E hr h => ?_)
  · obtain ⟨x, lp, dx, n, xs, ps, G, rfl, _⟩ := h
    rfl
  · obtain ⟨x, lp, dx, n, xs, ps, G, rfl, S0, hlp, hl, hok, hnd, h1, h60, hz, k⟩ := h
    have hu65 : ∀ X : Cx, X.A = A.deeper (envOfC "Network.__init__" (defScope s_Network___init__) s.heap.objs.size f cdv) → X.A.units + 65 < cLine := fun X e => by rw [e]; have := hr.un; omega
    refine ⟨_, (pss_cons (ps_if (PW.pt (pw_or (pt_not (pt_val (pe_cal c_is_int (hr.mono (by first | decide | omega)) passN (pa_cons (pv 1) pa_nil)))) (pw_or (pt_not (pt_chain op_le op_le pe_int (pv 1) (pe_cst (by rfl) T.m_MAX_STATIONS))) (pw_or1 (pt_not (pt_val (pe_callB call_isi (by rfl) T.n_isinstance (by decide +kernel) (pa_cons (pv 2) (pa_cons (pe_bltn (v := .ty "list") (by rfl) T.n_list (by decide +kernel) rfl) pa_nil))))))))) (pss_one ps_never) pss_nil)
      (pss_cons (ps_for PassesOwn.never rfl (pi_enum (by rfl) T.n_enumerate (pa_cons (pv 2) pa_nil)) (pg_tup (n := 2) rfl (pgs_cons (pg_name (i := 3) sc_Network___init__.nd rfl (Or.inl rfl)) (pgs_cons (pg_name (i := 4) sc_Network___init__.nd rfl (Or.inl rfl)) pgs_nil))) (pss_one (ps_if (PW.pt (pw_or (pt_not (pt_val (pe_cal c_is_link (hr.mono (by first | decide | omega)) passN (pa_cons (pv 4) (pa_cons (pv 1) pa_nil))))) (pw_or1 (pt_cmpR (op_inD (hu65 _ rfl)) (pv 4) (pe_slice sl_list (pv 2) po_none (po_some (pv 3))) rfl)))) (pss_one ps_never) pss_nil)))
      (pss_cons (ps_fld (pv 0) (pe_callB cr_sortedPO (by rfl) T.n_sorted (by decide +kernel) (pa_cons (pv 2) pa_nil)) rfl)
      (pss_cons (ps_fld (pv 0) (pe_lc (own := [("station", 7)]) (by rfl) sc_Network___init__.nd (pi_range1 (by rfl) T.n_range (pa_cons (pv 1) pa_nil)) (blkOk_by (own := [("station", 7)]) (N := ["self", "stations", "links", "index", "link", "one", "other", "station"]) (sc := defScope s_Network___init__) (by decide +kernel)) (fun _ _ _ _ _ => (pg_name (i := 7) sc_Network___init__.nd rfl (Or.inl rfl))) (fun _ _ _ _ _ => pts_nil) (fun _ _ _ _ _ => (pe_lst pa_nil))) rfl)
      (pss_one (ps_for PassesOwn.never rfl (pi_list (pe_fld (pv 0) rfl)) (pg_tup (n := 2) rfl (pgs_cons (pg_name (i := 5) sc_Network___init__.nd rfl (Or.inl rfl)) (pgs_cons (pg_name (i := 6) sc_Network___init__.nd rfl (Or.inl rfl)) pgs_nil))) (pss_cons (ps_expr (pe_bm PySem.F.plainAttrs_list PySem.F.slot_list_append PySem.F.type_list_append mt_append (pe_ix ix_list (pe_fld (pv 0) rfl) (pv 5) (fun _ _ => rfl)) (pa_cons (pv 6) pa_nil)))
      (pss_one (ps_expr (pe_bm PySem.F.plainAttrs_list PySem.F.slot_list_append PySem.F.type_list_append mt_append (pe_ix ix_list (pe_fld (pv 0) rfl) (pv 6) (fun _ _ => rfl)) (pa_cons (pv 5) pa_nil))))))))))), ?_⟩
    walk_at "go"
    refine g_isint ?_
    walk_at "go"
    refine if_tt (dtrue (by omega)) ?_
    walk_at "go"
    refine if_ff (ntrue (by omega)) ?_
    walk_at "go"
    refine n_isiLst (S0.ex _ _ hlp) ?_
    walk_at "go"
    refine w_enum (fun i σ' H' => (∃ x1 x2 x3 x4 x5, σ' = [some (.ref x), some (.int (n : Int)), some (.ref lp), x1, x2, x3, x4, x5]) ∧ ∃ G', Ex G G' ∧ Own G' [(x, .ins C dx [])] H') (SqL.of (S0.ex _ _ hlp)) ⟨⟨_, _, _, _, _, rfl⟩, G, Ex.refl G, S0⟩ (fun i σ' H' ⟨_, G', e, S⟩ => SqL.of (S.ex _ _ (e _ _ hlp))) ?_ ?_
    · rintro i y T σ' H' hy ⟨⟨x1, x2, x3, x4, x5, rfl⟩, G', e, S⟩ hT
      obtain ⟨q, hq, t, rfl, ht⟩ := pr_get hl hy
      have hb := hok q (List.mem_of_getElem? hq)
      have S1 := (S.still (o := .tup [.int (i : Int), .ref t]) hT).1
      have e1 := e.trans (S.still (o := .tup [.int (i : Int), .ref t]) hT).2.1
      refine s_gtup (SqT.of upd_same) rfl ?_
      walk_at "go"
      refine ⟨t, q.1, q.2, n, rfl, S1.ex _ _ (e1 _ _ ht), hb, fun H2 e2 => ?_⟩
      have S2 := S1.grow e2
      walk_at "go"
      refine n_sl S2 (SqL.of (S2.ex _ _ (e1 _ _ hlp))) fun p G3 H3 _ e3 _ hp S3 => ?_
      have e13 := e1.trans e3
      rw [cutV_to] at hp
      have hlt : Lks G (xs.take i) (ps.take i) := by
        have z := hl
        exact pr_take z i
      refine ⟨pd q, (ps.take i).map pd, dp_pr ⟨t, rfl, S3.ex _ _ (e13 _ _ ht)⟩, .lst (SqL.of (S3.ex _ _ hp)) (dp_lks (hlt.mono (e13.trans S3.ex))), shaped_pd q, shaped_lks _, ?_⟩
      rw [any_pd, dfalse (nodup_take hnd hq)]
      walk_at "go"
      exact ⟨⟨_, _, _, _, _, rfl⟩, G3, e13, S3⟩
    · rintro σ' H' ⟨⟨x1, x2, x3, x4, x5, rfl⟩, G1, e1, S1⟩
      walk_at "go"
      refine n_sortP S1 (SqL.of (S1.ex _ _ (e1 _ _ hlp))) (e1.trans S1.ex) hl fun kp ys G2 H2 hkp e2 e2' hk2 hl2 S2 => ?_
      walk_at "go"
      refine n_setF S2 N.cl N.nK (by decide) fun H3 S3 => ?_
      walk_at "go"
      refine v_rng1 (j := (n : Int)) (fun i acc G' L' => G' = G2 ∧ ∃ nps : List Addr, nps.length = i ∧ acc = nps.map V.ref ∧ L' = (x, .ins C dx (putF "kept" (.ref kp) [])) :: nearL nps fun _ => []) S3 (by omega) ⟨rfl, [], rfl, rfl, rfl⟩ ?_ ?_
      · rintro D i acc G' L' H4 hi hi' e4 hl4 ⟨rfl, nps, rfl, rfl, rfl⟩ S4
        walk_at "go"
        refine ⟨rfl, ?_⟩
        walk_at "go"
        refine n_lst S4 (by decide) fun p H5 hp S5 => ?_
        refine c_yes (acc := nps.map V.ref) (L1 := (x, .ins C dx (putF "kept" (.ref kp) [])) :: nearL (nps ++ [p]) fun _ => []) (S5.perm ?_) e4 (by rw [List.length_map]; exact Nat.le_refl _) hi' ⟨rfl, nps ++ [p], by rw [List.length_append]; rfl, by rw [List.map_append] <;> rfl, rfl⟩
        rw [nearL_snoc]
        exact (perm_mid _ _ _ _)
      · rintro np acc G' L' H4 e4 _ ⟨rfl, nps, hlen, rfl, rfl⟩ S4
        have hlen : nps.length = n := by omega
        walk_at "go"
        refine n_setF S4.swap N.cl N.nN (by show 1 < 1000; decide) fun H5 S5 => ?_
        obtain ⟨S6, e6, hnp⟩ := S5.swap.freeze
        have hnG : Ex G (upd G' np (.lst (nps.map V.ref))) := (e1.trans e2).trans e6
        generalize upd G' np (.lst (nps.map V.ref)) = G6 at S6 e6 hnp hnG
        have hkp6 := e6 _ _ hk2
        walk_at "go"
        refine n_fld S6.get0 N.cl N.nK (nf_kept kp np) ?_
        refine w_list (xs := ys) (fun i σ' H' => (∃ x1 x2 x3 x4 x5, σ' = [some (.ref x), some (.int (n : Int)), some (.ref lp), x1, x2, x3, x4, x5]) ∧ Own G6 ((x, .ins C dx (NF kp np)) :: nearL nps fun j => nb ((sortP ps).take i) (j : Int)) H') (SqL.of (S6.ex _ _ hkp6)) ⟨⟨_, _, _, _, _, rfl⟩, S6⟩ (fun i σ' H' h => SqL.of (h.2.ex _ _ hkp6)) ?_ ?_
        · rintro i y σ' H' hy ⟨⟨x1, x2, x3, x4, x5, rfl⟩, S⟩
          obtain ⟨q, hq, t, rfl, ht⟩ := pr_get hl2 hy
          have hb := (hok.sort) q (List.mem_of_getElem? hq)
          have ht6 : G6 t = some (.tup [.int q.1, .int q.2]) := hnG _ _ ht
          obtain ⟨a, ha⟩ : ∃ a : Nat, q.1 = (a : Int) := ⟨q.1.toNat, by omega⟩
          obtain ⟨b, hbq⟩ : ∃ b : Nat, q.2 = (b : Int) := ⟨q.2.toNat, by omega⟩
          have hab : a ≠ b := by omega
          obtain ⟨pa, hpa⟩ : ∃ p, nps[a]? = some p := ⟨_, List.getElem?_eq_getElem (by omega)⟩
          obtain ⟨pb, hpb⟩ : ∃ p, nps[b]? = some p := ⟨_, List.getElem?_eq_getElem (by omega)⟩
          have hz2 : ∀ j : Nat, (nb ((sortP ps).take i) (j : Int)).length ≤ 10000 := fun j => Nat.le_trans (List.length_filterMap_le _ _) (by rw [List.length_take, sortP_len]; omega)
          refine s_gtup (S.st (SqT.of ht6)) rfl ?_
          walk_at "go"
          refine n_fld S.get0 N.cl N.nN (nf_near kp np) ?_
          walk_at "go"
          rw [ha]
          refine g_ixL (SqL.of (S.ex _ _ hnp)) (atI_nat (j := a) (v := .ref pa) (by rw [List.getElem?_map, hpa] <;> rfl)) ?_
          have ea : ((x, HO.ins C dx (NF kp np)) :: nearL nps fun j => nb ((sortP ps).take i) (j : Int))[a + 1]? = some (pa, .lst ((nb ((sortP ps).take i) (a : Int)).map V.int)) := nearL_get hpa
          refine ⟨tyL (SqL.of (S.getM (List.mem_of_getElem? ea))), ?_⟩
          walk_at "go"
          refine n_appM S ea (by rw [List.length_map]; have := hz2 a; omega) fun H7 S7 => ?_
          have eset : ((x, HO.ins C dx (NF kp np)) :: nearL nps fun j => nb ((sortP ps).take i) (j : Int)).set (a + 1) (pa, .lst ((nb ((sortP ps).take i) (a : Int)).map V.int ++ [.int q.2])) =
              (x, HO.ins C dx (NF kp np)) :: nearL nps fun j => if j = a then nb ((sortP ps).take i) (j : Int) ++ [q.2] else nb ((sortP ps).take i) (j : Int) := by
            show (x, HO.ins C dx (NF kp np)) :: (nearL nps fun j => nb ((sortP ps).take i) (j : Int)).set a _ = _
            have e := nearL_set (g := fun j => nb ((sortP ps).take i) (j : Int)) (g' := fun j => if j = a then nb ((sortP ps).take i) (j : Int) ++ [q.2] else nb ((sortP ps).take i) (j : Int)) hpa (fun j hj => if_neg hj)
            rw [← e]
            simp
          rw [eset] at S7
          walk_at "go"
          refine n_fld S7.get0 N.cl N.nN (nf_near kp np) ?_
          walk_at "go"
          rw [hbq]
          refine g_ixL (SqL.of (S7.ex _ _ hnp)) (atI_nat (j := b) (v := .ref pb) (by rw [List.getElem?_map, hpb] <;> rfl)) ?_
          have eb : ((x, HO.ins C dx (NF kp np)) :: nearL nps fun j => if j = a then nb ((sortP ps).take i) (j : Int) ++ [q.2] else nb ((sortP ps).take i) (j : Int))[b + 1]? = some (pb, .lst ((nb ((sortP ps).take i) (b : Int)).map V.int)) := by
            have z := nearL_get (g := fun j => if j = a then nb ((sortP ps).take i) (j : Int) ++ [q.2] else nb ((sortP ps).take i) (j : Int)) hpb
            rw [if_neg (Ne.symm hab)] at z
            exact z
          refine ⟨tyL (SqL.of (S7.getM (List.mem_of_getElem? eb))), ?_⟩
          walk_at "go"
          refine n_appM S7 eb (by rw [List.length_map]; have := hz2 b; omega) fun H8 S8 => ?_
          have etk : (sortP ps).take (i + 1) = (sortP ps).take i ++ [q] := take_snoc hq
          have eset2 : ((x, HO.ins C dx (NF kp np)) :: nearL nps fun j => if j = a then nb ((sortP ps).take i) (j : Int) ++ [q.2] else nb ((sortP ps).take i) (j : Int)).set (b + 1) (pb, .lst ((nb ((sortP ps).take i) (b : Int)).map V.int ++ [.int q.1])) =
              (x, HO.ins C dx (NF kp np)) :: nearL nps fun j => nb ((sortP ps).take (i + 1)) (j : Int) := by
            show (x, HO.ins C dx (NF kp np)) :: (nearL nps fun j => if j = a then nb ((sortP ps).take i) (j : Int) ++ [q.2] else nb ((sortP ps).take i) (j : Int)).set b _ = _
            have e := nearL_set (g := fun j => if j = a then nb ((sortP ps).take i) (j : Int) ++ [q.2] else nb ((sortP ps).take i) (j : Int)) (g' := fun j => nb ((sortP ps).take (i + 1)) (j : Int)) hpb (fun j hj => by
              rw [etk, nb_one_n (n := n) ha hbq hab, if_neg hj, ← hbq])
            rw [← e]
            simp only [etk]
            rw [nb_one_n (n := n) ha hbq hab, if_neg (Ne.symm hab), if_pos rfl]
            simp [ha]
          rw [ha] at eset2
          rw [eset2] at S8
          walk_at "go"
          exact ⟨⟨_, _, _, _, _, rfl⟩, S8⟩
        · rintro σ' H' ⟨_, S⟩
          rw [(pr_len hl2), List.take_length] at S
          walk_at "go"
          have new : ∀ a : Addr, G a = none → nw G H' a = H' a := fun a h => nw_new h
          refine k H' (hnG.trans S.ex) ⟨⟨dx, kp, np, ys, nps, ?_⟩, hok.sort, sortP_up _, (sortP_perm ps).nodup_iff.mpr hnd, h1, h60⟩
          have hx0 : G x = none := S0.no0
          have hk0 : G kp = none := fresh_back (e1.trans S1.ex) hkp
          have hn0 : G np = none := fresh_back (e1.trans e2) S4.no0
          refine ⟨(new x hx0).trans S.get0, (new kp hk0).trans (S.ex _ _ hkp6), Paired.mapP hl2 fun y q ⟨t, e, ht⟩ => ⟨t, e, (nw_tup ht rfl).trans (S.ex _ _ (hnG _ _ ht))⟩, (new np hn0).trans (S.ex _ _ hnp), hlen, fun i p hp => ?_⟩
          have m := List.mem_cons_of_mem (x, HO.ins C dx (NF kp np)) (List.mem_of_getElem? (nearL_get (g := fun j => nb (sortP ps) (j : Int)) hp))
          exact (new p (fresh_back hnG (S.at_ _ m).1)).trans (S.at_ _ m).2
end
end NX

namespace NX
open PySem PySem.Spec PyProof.Rows L2
open Evl (Ex ex_l ex_t fresh_back)
/-! ### len, ==, != of networks -/
section
variable {X : Cx}
/-- a def runs below the running body -/
theorem run_at {A : Around} {CX : CXT} {k : Nat} {f : Addr} {fd : FuncData} {ps : List Str} {sp : Sp} {E : XK} {pins : List (Addr × Obj)} {σ : L2.St} {H : Hp} {s : Shared} {Q : VK} {us : List Value} {vs : List V} (sb : L2.Sub X k A)
    (F : FnOk X.prog X.w X.K X.mg X.base CX k f fd ps sp) (hb : Binds X.K fd ps []) (hx : Passes CX X E) (I : L2.Inv X pins σ H s) (r : Vals vs us) (h : sp vs H Q E) :
    wpAny (model X.prog X.w) A (call (.ref f) us) (EP X pins σ Q) X.xe s := by
  have e0 : Env0 X.prog X.w X.K X.mg X.base A X.stack s H := by
    have e := I.env0
    exact ⟨by rw [sb.fr]; exact e.frames, e.mod, e.bs, e.bsz, e.funs, e.frf, e.hok, e.bare⟩
  have hl := F.len _ _ _ _ h
  refine wpAny_call (codeAny_mono (F.run A X.stack s H ⟨us, []⟩ us vs Q E sb.room e0 (by
    have := hb s us I.kIn (by rw [List.append_nil, ← r.length]; exact hl)
    simpa using this) r h) fun r s' hq => ?_)
  cases r with
  | error e => exact hx pins σ H s e s' I hq
  | ok fl =>
    cases fl with
    | ret w => exact I.after hq
    | next => exact False.elim hq
    | brk => exact False.elim hq
    | cont => exact False.elim hq
def spLen (C : Addr) : Sp := fun vs H Q _ => ∃ (a : Addr) (n : Nat) (ks : List Pr), vs = [.ref a] ∧ NetAt C H a n ks ∧ Q (.int (n : Int)) H
def spEqN (C : Addr) : Sp := fun vs H Q _ => ∃ (a b : Addr) (n m : Nat) (ks ls : List Pr), vs = [.ref a, .ref b] ∧ NetAt C H a n ks ∧ NetAt C H b m ls ∧ ∀ H', Ex H H' → Q (.bl (decide (n = m ∧ ks = ls))) H'
def rLenNet (C : Addr) : List V → Hp → VK → Prop := fun xs H Q => ∃ (a : Addr) (n : Nat) (ks : List Pr), xs = [.ref a] ∧ NetAt C H a n ks ∧ Q (.int (n : Int)) H
def rEqNet (C : Addr) : R2 := fun x y H Q => ∃ (a b : Addr) (n m : Nat) (ks ls : List Pr), x = .ref a ∧ y = .ref b ∧ NetAt C H a n ks ∧ NetAt C H b m ls ∧ ∀ H', Ex H H' → Q (.bl (decide (n = m ∧ ks = ls))) H'
def rNeNet (C : Addr) : R2 := fun x y H Q => ∃ (a b : Addr) (n m : Nat) (ks ls : List Pr), x = .ref a ∧ y = .ref b ∧ NetAt C H a n ks ∧ NetAt C H b m ls ∧ ∀ H', Ex H H' → Q (.bl (!decide (n = m ∧ ks = ls))) H'
theorem inst_net {pins : List (Addr × Obj)} {σ : L2.St} {H : Hp} {s : Shared} {C a : Addr} {n : Nat} {ks : List Pr} (I : L2.Inv X pins σ H s) (N : NetAt C H a n ks) : ∃ dx od, PySem.W.InstAt s.heap a (PySem.W.instObj C dx) C od := by
  obtain ⟨dx, kp, np, xs, nps, o⟩ := N.at_
  obtain ⟨mA, J, _⟩ := ins_get I.hok o.ins
  obtain ⟨od, J, _⟩ := J.look
  exact ⟨_, _, J⟩
theorem call_lenNet {C : Addr} {k : Nat} (_NC : NetC X.K C) (M : Mth X.prog X.w X.K X.mg X.base k C "__len__" ["self"] (spLen C)) (hr : Room (k + 1) X.A) : CallR X (.builtin "len") (rLenNet C) := by
  intro pins s σ H xs us Q I r h
  obtain ⟨a, n, ks, rfl, N, q⟩ := h
  obtain ⟨f, fd, hm, F, hb⟩ := M
  obtain ⟨u, rfl, ru⟩ := vals1 r
  obtain rfl : u = Value.ref a := ru
  obtain ⟨dx, od, J⟩ := inst_net I N
  obtain ⟨m, hF⟩ := I.fr
  refine PySem.W.len_K hF I.ok.mod.kin J hm.at_ hm.fn (wpAny_mono (run_at (L2.Sub.in1 ⟨hr, rfl⟩) F hb passN I r (Q := fun v H' => v = .int (n : Int) ∧ Q (.int (n : Int)) H') ⟨a, n, ks, rfl, N, rfl, q⟩) (fun v s' z => ?_) fun _ _ z => z)
  obtain ⟨w, H', I', rv, rfl, q'⟩ := z
  obtain ⟨t, rfl⟩ := rv
  refine ⟨⟨by omega, ?_⟩, ⟨V.int (n : Int), H', I'.tok _, ⟨_, rfl⟩, q'⟩⟩
  have := N.sz.2
  omega
theorem notFirst_self {K : PySem.W.Frag} {C : Addr} : PySem.W.notFirst K C (.ref C) = true := by simp [PySem.W.notFirst]
theorem op_eqNet {C : Addr} {k : Nat} (_NC : NetC X.K C) (M : Mth X.prog X.w X.K X.mg X.base k C "__eq__" ["self", "other"] (spEqN C)) (hr : Room (k + 1) X.A) : OpR X (compareOp .Eq) (rEqNet C) := by
  intro pins s σ H x y v u Q I rx ry h
  obtain ⟨a, b, n, m, ks, ls, rfl, rfl, N1, N2, q⟩ := h
  cases rx
  cases ry
  obtain ⟨f, fd, hm, F, hb⟩ := M
  obtain ⟨dx, od, J⟩ := inst_net I N1
  obtain ⟨dy, oe, J'⟩ := inst_net I N2
  obtain ⟨mm, hF⟩ := I.fr
  show wpAny (model X.prog X.w) X.A (richCompare .Eq (.ref a) (.ref b)) (EP X pins σ Q) X.xe s
  have hr0 : Room k X.A := hr.mono (Nat.le_succ k)
  refine PySem.W.cmp_K (op := .Eq) (tb := .ref C) hr.units0 hF I.ok.mod.kin J J'.type notFirst_self hm.at_ hm.fn (wpAny_mono (run_at ⟨hr0, rfl⟩ F hb passN I (vs := [V.ref a, V.ref b]) (.cons rfl (.cons rfl .nil)) (Q := fun v H' => v = .bl (decide (n = m ∧ ks = ls)) ∧ Q v H')
    ⟨a, b, n, m, ks, ls, rfl, N1, N2, fun H' e => ⟨rfl, q H' e⟩⟩) (fun v s' z => ?_) fun _ _ z => z)
  obtain ⟨w, H', I', rv, rfl, q'⟩ := z
  cases rv
  exact ⟨V.bl (decide (n = m ∧ ks = ls)), H', I', rfl, q'⟩
theorem op_neNet {C : Addr} {k : Nat} (NC : NetC X.K C) (M : Mth X.prog X.w X.K X.mg X.base k C "__eq__" ["self", "other"] (spEqN C)) (hr : Room (k + 1) X.A) : OpR X (compareOp .NotEq) (rNeNet C) := by
  intro pins s σ H x y v u Q I rx ry h
  obtain ⟨a, b, n, m, ks, ls, rfl, rfl, N1, N2, q⟩ := h
  cases rx
  cases ry
  obtain ⟨f, fd, hm, F, hb⟩ := M
  obtain ⟨dx, od, J⟩ := inst_net I N1
  obtain ⟨dy, oe, J'⟩ := inst_net I N2
  obtain ⟨mm, hF⟩ := I.fr
  show wpAny (model X.prog X.w) X.A (richCompare .NotEq (.ref a) (.ref b)) (EP X pins σ Q) X.xe s
  refine ne_K (tb := .ref C) (hu_of hr) hF I.ok.mod.kin J J'.type notFirst_self NC.ne NC.hm hm.at_ hm.fn (wpAny_mono (run_at (L2.Sub.in1 ⟨hr, rfl⟩) F hb passN I (vs := [V.ref a, V.ref b]) (.cons rfl (.cons rfl .nil)) (Q := fun v H' => v = .bl (decide (n = m ∧ ks = ls)) ∧ Q (.bl (!decide (n = m ∧ ks = ls))) H')
    ⟨a, b, n, m, ks, ls, rfl, N1, N2, fun H' e => ⟨rfl, q H' e⟩⟩) (fun v s' z => ?_) fun _ _ z => z)
  obtain ⟨w, H', I', rv, rfl, q'⟩ := z
  cases rv
  exact ⟨_, rfl, ⟨V.bl (!decide (n = m ∧ ks = ls)), H', I', rfl, q'⟩⟩
end
section
variable {C a b lp : Addr} {n m : Nat} {ks ls ps : List Pr} {G H : Hp} {L : List (Addr × HO)} {Q : VK} {E : XK} {xs : List V}
theorem n_lenNet (N : NetAt C H a n ks) (k : Q (.int (n : Int)) H) : rLenNet C [.ref a] H Q := ⟨a, n, ks, rfl, N, k⟩
theorem n_eqNet (S : Own G L H) (N1 : NetAt C G a n ks) (N2 : NetAt C G b m ls) (k : ∀ H1, Own G L H1 → Q (.bl (decide (n = m ∧ ks = ls))) H1) : rEqNet C (.ref a) (.ref b) H Q := ⟨a, b, n, m, ks, ls, rfl, rfl, N1.mono S.ex, N2.mono S.ex, fun H' e => k H' (S.grow e)⟩
theorem n_neNet (S : Own G L H) (N1 : NetAt C G a n ks) (N2 : NetAt C G b m ls) (k : ∀ H1, Own G L H1 → Q (.bl (!decide (n = m ∧ ks = ls))) H1) : rNeNet C (.ref a) (.ref b) H Q := ⟨a, b, n, m, ks, ls, rfl, rfl, N1.mono S.ex, N2.mono S.ex, fun H' e => k H' (S.grow e)⟩
theorem NetAt.ins (N : NetAt C H a n ks) {m : Str} (h1 : ¬ m = "near") (h2 : ¬ m = "kept") : INS C m (.ref a) H := by
  obtain ⟨dx, kp, np, xs, nps, o⟩ := N.at_
  exact ⟨a, dx, _, rfl, o.ins, nf_no kp np h1 h2⟩
/-- Network(n, links) -/
theorem n_netN (hlp : H lp = some (.lst xs)) (hl : Lks H xs ps) (hok : Okl n ps) (hnd : ps.Nodup) (hn : 1 ≤ n ∧ n ≤ 60) (hz : ps.length ≤ 10000)
    (k : ∀ x H1, H x = none → Ex H H1 → NetAt C (nw H H1) x n (sortP ps) → Q (.ref x) H1) : MAKE C (spInit C) E [.int (n : Int), .ref lp] H Q := by
  intro x dx hx hdx ne
  have hx' : upd H dx (.own x) x = none := by rw [upd_ne (Ne.symm ne)]; exact hx
  have e1 : Ex H (upd H dx (.own x)) := Ex.new hdx
  exact ⟨x, lp, dx, n, xs, ps, upd H dx (.own x), rfl, (Own.start _).lay hx', e1 _ _ hlp, hl.mono e1, hok, hnd, hn.1, hn.2, hz, fun H' e N => ⟨rfl, k x H' hx (e1.trans e) (N.mono (nw_mono e1))⟩⟩
theorem n_net (S : Own G L H) (hlp : H lp = some (.lst xs)) (hl : Lks H xs ps) (hok : Okl n ps) (hnd : ps.Nodup) (hn : 1 ≤ n ∧ n ≤ 60) (hz : ps.length ≤ 10000)
    (k : ∀ x G1 H1, H x = none → Ex G G1 → Ex H H1 → Own G1 L H1 → NetAt C G1 x n (sortP ps) → Q (.ref x) H1) : MAKE C (spInit C) E [.int (n : Int), .ref lp] H Q :=
  n_netN hlp hl hok hnd hn hz fun x H1 hx e N => by
    obtain ⟨S1, e2, e3⟩ := S.absorb e
    exact k x _ H1 hx e2 e S1 (N.mono e3)
end
end NX

namespace NX
open PySem PySem.Spec PyProof.Rows L2
open Evl (Ex ex_l ex_t fresh_back)
theorem lks_nw {H H' : Hp} (e : Ex H H') {xs : List V} {ks : List Pr} (h : Lks H xs ks) : Lks (nw H H') xs ks := Paired.mapP h fun _ _ ⟨t, a, b⟩ => ⟨t, a, by rw [nw_tup b rfl]; exact e _ _ b⟩
abbrev s_Network_links : Stmt := inClass (top 15) 1
theorem sc_Network_links : FnScope ["self"] ["self"] (defScope s_Network_links) := ⟨rfl, rfl, rfl, by decide +kernel, rfl, by decide +kernel, by decide +kernel⟩
abbrev s_Network_check_station : Stmt := inClass (top 15) 5
theorem sc_Network_check_station : FnScope ["self", "station"] ["self", "station"] (defScope s_Network_check_station) := ⟨rfl, rfl, rfl, by decide +kernel, rfl, by decide +kernel, by decide +kernel⟩
def spLinks (C : Addr) : Sp := fun vs H Q _ => ∃ (a : Addr) (n : Nat) (ks : List Pr), vs = [.ref a] ∧ NetAt C H a n ks ∧ ∀ xs, Lks H xs ks → Ret (.lst xs) H Q
/-- the station is one -/
def spChk (C : Addr) : Sp := fun vs H Q _ => ∃ (a : Addr) (n : Nat) (ks : List Pr) (i : Int), vs = [.ref a, .int i] ∧ NetAt C H a n ks ∧ (0 ≤ i ∧ i < (n : Int)) ∧ ∀ H', Ex H H' → Q .non H'
section
variable {C : Addr} {G H : Hp} {L : List (Addr × HO)} {a : Addr} {n : Nat} {ks : List Pr} {Q : VK} {E : XK}
theorem n_links (S : Own G L H) (N : NetAt C G a n ks) (k : ∀ xs p G1 H1, Lks G1 xs ks → H p = none → Ex G G1 → Ex H H1 → G1 p = some (.lst xs) → Own G1 L H1 → Q (.ref p) H1) : spLinks C [.ref a] H Q E :=
  ⟨a, n, ks, rfl, N.mono S.ex, fun xs hx p H' hp e h => by
    obtain ⟨S1, e1, e2⟩ := S.absorb e
    exact k xs p _ H' ((lks_nw e hx).mono e2) hp e1 e (e2 _ _ ((nw_new hp).trans h)) S1⟩
theorem n_linksO (S : Own G L H) (N : NetAt C G a n ks) (k : ∀ xs p G1 H1, Lks G1 xs ks → H p = none → Ex G G1 → Ex H H1 → Own G1 ((p, .lst xs) :: L) H1 → Q (.ref p) H1) : spLinks C [.ref a] H Q E :=
  n_links S N fun xs p G1 H1 hl hp e1 e2 h S1 => by
    obtain ⟨S2, k2⟩ := S1.thaw h
    refine k xs p _ H1 (Paired.mapP hl fun _ _ ⟨t, b, c⟩ => ⟨t, b, k2 _ _ (fun z => ?_) c⟩) hp (fun b u hb => k2 _ _ (ne_of_none hb (fresh_back S.ex hp)) (e1 _ _ hb)) e2 S2
    rw [z, h] at c
    cases c
theorem n_chk {i : Int} (S : Own G L H) (N : NetAt C G a n ks) (h : 0 ≤ i ∧ i < (n : Int)) (k : ∀ H1, Ex H H1 → Own G L H1 → Q .non H1) : spChk C [.ref a, .int i] H Q E :=
  ⟨a, n, ks, i, rfl, N.mono S.ex, h, fun H' e => k H' e (S.grow e)⟩
end
section
variable {P : Program} {w : World} {K : PySem.W.Frag} {mg : Str → Option Value} {base : Heap} {C : Addr}
theorem ok_links {f : Addr} {fd : FuncData} (F : Fun K "links" "Network.links" s_Network_links f fd) (T : Txt mg) (NC : NetC K C) : FnOk P w K mg base CX0 1 f fd ["self"] (spLinks C) := by
  refine F.ok sc_Network_links (fun vs H Q E h => ?_) (fun cdv A outer s H vs Q E hr h => ?_)
  · obtain ⟨a, n, ks, rfl, _⟩ := h
    rfl
  · obtain ⟨a, n, ks, rfl, N, k⟩ := h
    obtain ⟨dx, kp, np, xs, nps, o⟩ := N.at_
    refine ⟨_, (pss_one (ps_ret (pe_callTy call_listN (by rfl) T.n_list (by decide +kernel) (pa_cons (pe_fld (pv 0) rfl) pa_nil)))), ?_⟩
    walk_at "go"
    refine n_fld o.ins NC.cl NC.nK (nf_kept kp np) ?_
    walk_at "go"
    exact ⟨kp, xs, rfl, .inl (SqL.of o.kept), fun p hp => k xs o.lks p _ hp (Ex.new hp) upd_same⟩
theorem ok_chk {f : Addr} {fd : FuncData} (F : Fun K "check_station" "Network.check_station" s_Network_check_station f fd) (T : Txt mg) (NC : NetC K C) (c_is_int : Cal P w K mg base 1 "is_int" ["value"] [] (spIsInt K)) : FnOk P w K mg base CX0 2 f fd ["self", "station"] (spChk C) := by
  refine F.ok sc_Network_check_station (fun vs H Q E h => ?_) (fun cdv A outer s H vs Q E hr h => ?_)
  · obtain ⟨a, n, ks, i, rfl, _⟩ := h
    rfl
  · obtain ⟨a, n, ks, i, rfl, N, hi, k⟩ := h
    obtain ⟨dx, kp, np, xs, nps, o⟩ := N.at_
    refine ⟨_, (pss_one (ps_if (PW.pt (pw_or (pt_not (pt_val (pe_cal c_is_int (hr.mono (by first | decide | omega)) passN (pa_cons (pv 1) pa_nil)))) (pw_or1 (pt_not (pt_chain op_le op_lt pe_int (pv 1) (pe_callB call_lenN (by rfl) T.n_len (by decide +kernel) (pa_cons (pe_fld (pv 0) rfl) pa_nil))))))) (pss_one ps_never) pss_nil)), ?_⟩
    walk_at "go"
    refine g_isint ?_
    walk_at "go"
    refine if_tt (dtrue (by omega)) ?_
    walk_at "go"
    refine n_fld o.ins NC.cl NC.nN (nf_near kp np) ?_
    walk_at "go"
    refine n_len (SqL.of o.near) ?_
    rw [List.length_map, o.len]
    walk_at "go"
    refine if_ff (ntrue (by omega)) ?_
    walk_at "go"
    exact k H (Ex.refl H)
end
end NX

namespace NX
/-! ### renamed, without: what becomes of the links -/
def mmP (a b : Int) : Pr := (min a b, max a b)
def renL (ns : List Int) (ks : List Pr) : List Pr := ks.map fun q => mmP (tv ns q.1) (tv ns q.2)
/-- new numbers of n stations -/
def IsNames (n : Nat) (ns : List Int) : Prop := ns.length = n ∧ ns.Nodup ∧ ∀ x ∈ ns, 0 ≤ x ∧ x < (n : Int)
theorem tv_mem {t : List Int} {j : Int} (h0 : 0 ≤ j) (h : j < (t.length : Int)) : tv t j ∈ t := by
  obtain ⟨i, rfl⟩ : ∃ i : Nat, j = (i : Int) := ⟨j.toNat, by omega⟩
  exact List.mem_of_getElem? (get_tv (by omega))
theorem tv_inj {t : List Int} (h : t.Nodup) {i j : Int} (hi : 0 ≤ i ∧ i < (t.length : Int)) (hj : 0 ≤ j ∧ j < (t.length : Int)) (e : tv t i = tv t j) : i = j := by
  obtain ⟨a, rfl⟩ : ∃ a : Nat, i = (a : Int) := ⟨i.toNat, by omega⟩
  obtain ⟨b, rfl⟩ : ∃ b : Nat, j = (b : Int) := ⟨j.toNat, by omega⟩
  have ha := get_tv (t := t) (i := a) (by omega)
  have hb := get_tv (t := t) (i := b) (by omega)
  obtain ⟨la, ea⟩ := List.getElem?_eq_some_iff.mp ha
  obtain ⟨lb, eb⟩ := List.getElem?_eq_some_iff.mp hb
  have := (List.getElem_inj h).mp (ea.trans (e.trans eb.symm))
  omega
theorem IsNames.rng {n : Nat} {ns : List Int} (h : IsNames n ns) {j : Int} (h0 : 0 ≤ j) (hj : j < (n : Int)) : 0 ≤ tv ns j ∧ tv ns j < (n : Int) := h.2.2 _ (tv_mem h0 (by rw [h.1]; exact hj))
theorem IsNames.inj {n : Nat} {ns : List Int} (h : IsNames n ns) {i j : Int} (hi : 0 ≤ i ∧ i < (n : Int)) (hj : 0 ≤ j ∧ j < (n : Int)) (e : tv ns i = tv ns j) : i = j := tv_inj h.2.1 (by rw [h.1]; exact hi) (by rw [h.1]; exact hj) e
theorem ren_ok {n : Nat} {ns : List Int} {ks : List Pr} (h : IsNames n ns) (ok : Okl n ks) : Okl n (renL ns ks) := fun q hq => by
  obtain ⟨p, hp, rfl⟩ := List.mem_map.mp hq
  have hb := ok p hp
  have h1 := h.rng (j := p.1) hb.1 (by omega)
  have h2 := h.rng (j := p.2) (by omega) hb.2.2
  have ne : tv ns p.1 ≠ tv ns p.2 := fun e => by
    have := h.inj ⟨hb.1, by omega⟩ ⟨by omega, hb.2.2⟩ e
    omega
  unfold mmP
  simp only
  omega
theorem nd_map {α β : Type} {f : α → β} : ∀ {l : List α}, l.Nodup → (∀ x ∈ l, ∀ y ∈ l, f x = f y → x = y) → (l.map f).Nodup
  | [], _, _ => List.Pairwise.nil
  | a :: l, h, inj => by
    have h' := List.nodup_cons.mp h
    rw [List.map_cons, List.nodup_cons]
    refine ⟨fun m => ?_, nd_map h'.2 fun x hx y hy => inj x (List.mem_cons_of_mem _ hx) y (List.mem_cons_of_mem _ hy)⟩
    obtain ⟨b, hb, e⟩ := List.mem_map.mp m
    have := inj b (List.mem_cons_of_mem _ hb) a List.mem_cons_self e
    rw [this] at hb
    exact h'.1 hb
theorem nd_filter {α : Type} {p : α → Bool} {l : List α} (h : l.Nodup) : (l.filter p).Nodup := h.sublist List.filter_sublist
theorem mm_eq {a b c d : Int} (h : mmP a b = mmP c d) : (a = c ∧ b = d) ∨ (a = d ∧ b = c) := by
  unfold mmP at h
  have h1 := congrArg Prod.fst h
  have h2 := congrArg Prod.snd h
  simp only at h1 h2
  omega
theorem ren_nd {n : Nat} {ns : List Int} {ks : List Pr} (h : IsNames n ns) (ok : Okl n ks) (nd : ks.Nodup) : (renL ns ks).Nodup := nd_map nd fun x hx y hy e => by
  have bx := ok x hx
  have by_ := ok y hy
  rcases mm_eq e with ⟨e1, e2⟩ | ⟨e1, e2⟩
  · have a := h.inj ⟨bx.1, by omega⟩ ⟨by_.1, by omega⟩ e1
    have b := h.inj ⟨by omega, bx.2.2⟩ ⟨by omega, by_.2.2⟩ e2
    exact Prod.ext a b
  · have a := h.inj ⟨bx.1, by omega⟩ ⟨by omega, by_.2.2⟩ e1
    have b := h.inj ⟨by omega, bx.2.2⟩ ⟨by_.1, by omega⟩ e2
    omega
def shf (s x : Int) : Int := x - (if s < x then 1 else 0)
theorem shf_inj {s x y : Int} (hx : x ≠ s) (hy : y ≠ s) (e : shf s x = shf s y) : x = y := by
  unfold shf at e
  split at e <;> split at e <;> omega
def woF (s : Int) (ks : List Pr) : List Pr := ks.filter fun q => !decide (s = q.1 ∨ s = q.2)
def woL (s : Int) (ks : List Pr) : List Pr := (woF s ks).map fun q => (shf s q.1, shf s q.2)
theorem mem_woF {s : Int} {ks : List Pr} {q : Pr} : q ∈ woF s ks ↔ q ∈ ks ∧ q.1 ≠ s ∧ q.2 ≠ s := by
  unfold woF
  rw [List.mem_filter]
  simp only [Bool.not_eq_true', decide_eq_false_iff_not, not_or]
  exact ⟨fun h => ⟨h.1, fun e => h.2.1 e.symm, fun e => h.2.2 e.symm⟩, fun h => ⟨h.1, fun e => h.2.1 e.symm, fun e => h.2.2 e.symm⟩⟩
theorem wo_ok {n : Nat} {s : Int} {ks : List Pr} (hs : 0 ≤ s ∧ s < (n : Int)) (ok : Okl n ks) : Okl (n - 1) (woL s ks) := fun q hq => by
  obtain ⟨p, hp, rfl⟩ := List.mem_map.mp hq
  obtain ⟨hp, n1, n2⟩ := mem_woF.mp hp
  have hb := ok p hp
  simp only
  unfold shf
  split <;> split <;> omega
theorem wo_nd {s : Int} {ks : List Pr} (nd : ks.Nodup) : (woL s ks).Nodup := nd_map (nd_filter nd) fun x hx y hy e => by
  obtain ⟨_, a1, a2⟩ := mem_woF.mp hx
  obtain ⟨_, b1, b2⟩ := mem_woF.mp hy
  have h1 := congrArg Prod.fst e
  have h2 := congrArg Prod.snd e
  exact Prod.ext (shf_inj a1 b1 h1) (shf_inj a2 b2 h2)
theorem wo_len {s : Int} {ks : List Pr} : (woL s ks).length ≤ ks.length := by
  unfold woL woF
  rw [List.length_map]
  exact List.length_filter_le ..
theorem ren_len {ns : List Int} {ks : List Pr} : (renL ns ks).length = ks.length := List.length_map ..
end NX

namespace NX
open PySem PySem.Spec PySem.Calls PyProof.Rows L2
open Evl (Ex ex_l ex_t fresh_back)
/-! ### min and max of a tuple of numbers -/
section
variable {prog : Program} {w : World} {A : Around} {E : Value → Shared → Prop} {s : Shared} {l : Addr} {its : List Value} {ns : List Int} {Q : Value → Shared → Prop}
theorem best_of {f : Nat → Nat → Bool} (ht : s.heap.IsTuple l its.toArray) {c : Addr} {h' : Heap}
    (hk : ∀ b o, b ∉ [s.heap.objs.size] → (s.heap.push { cls := .type "tuple_iterator", data := .fields #[.ref l, .int 0 0] }).get? b = some o → h'.get? b = some o) : ∀ b o, s.heap.get? b = some o → h'.get? b = some o := fun b o e =>
  hk b o (fun m => Nat.lt_irrefl _ ((List.mem_singleton.mp m) ▸ Heap.lt_size e)) (Heap.get?_push_of_some _ e)
theorem fp_ok (ht : s.heap.IsTuple l its.toArray) : ∀ b ∈ [s.heap.objs.size, l], b < (s.heap.push { cls := .type "tuple_iterator", data := .fields #[.ref l, .int 0 0] }).objs.size := fun b hb => by
  have hl : l < s.heap.objs.size := by obtain ⟨_, e, _⟩ := ht; exact Heap.lt_size e
  rw [Heap.size_push]
  simp only [List.mem_cons, List.not_mem_nil, or_false] at hb
  rcases hb with rfl | rfl
  · exact Nat.lt_succ_self _
  · exact Nat.lt_succ_of_lt hl
theorem minT_raw (hh : A.handled = none) (ht : s.heap.IsTuple l its.toArray) (hi : IntsAre its ns) (hne : 0 < ns.length)
    (h : ∀ h' tk M t', (∀ b o, s.heap.get? b = some o → h'.get? b = some o) → M ∈ ns → (∀ a, a ∈ ns → M ≤ a) → Q (.int M t') { s with heap := h', toks := tk }) : wpAny (model prog w) A (call (.builtin "min") [.ref l]) Q E s := by
  have hl : l ≠ s.heap.objs.size := by obtain ⟨_, e, _⟩ := ht; exact Nat.ne_of_lt (Heap.lt_size e)
  have fp := fp_ok ht
  have ht0 := ht
  obtain ⟨xs, e⟩ := (hi.allInts).items
  have hn : numsOf (intItems xs).toList = ns := e ▸ hi.numsOf
  rw [nums_intItems] at hn
  rw [e] at ht
  subst hn
  have hsz : 0 < (intItems xs).size := by unfold intItems; simpa using hne
  refine call_min_walk (wpAny_pyIter_tuple ht ⟨_, _, _, _, _, _, _, rfl, Walks.tuple (A := A.in1) hh _ l hl (intItems xs), ⟨⟨_, Heap.get?_push_size _ rfl, rfl, rfl⟩, ht.push _⟩, fp, hsz, CmpOf.ints_lt (numAt xs) (fun _ _ => intItems_at), fun v h' tk hP hk => ?_⟩)
  obtain ⟨t, rfl⟩ := intItems_at hP
  have hsz2 : (intItems xs).size = xs.size := by unfold intItems; simp
  rw [hsz2] at hsz ⊢
  have hb := argBest_lt (numAt xs) (xs.size - 1)
  refine h h' tk _ t (best_of (f := fun _ _ => true) (c := l) ht0 hk) ?_ fun a ha => ?_
  · rw [numAt_eq]
    refine PySem.getD_mem ?_
    rw [List.length_map, Array.length_toList]
    have := hb.1
    omega
  · obtain ⟨j, hj, rfl⟩ := mem_getD ha
    have hj2 : j < xs.size := by simpa using hj
    have := hb.2 j (by omega)
    rw [← numAt_eq]
    exact this
theorem maxT_raw (hh : A.handled = none) (ht : s.heap.IsTuple l its.toArray) (hi : IntsAre its ns) (hne : 0 < ns.length)
    (h : ∀ h' tk M t', (∀ b o, s.heap.get? b = some o → h'.get? b = some o) → M ∈ ns → (∀ a, a ∈ ns → a ≤ M) → Q (.int M t') { s with heap := h', toks := tk }) : wpAny (model prog w) A (call (.builtin "max") [.ref l]) Q E s := by
  have hl : l ≠ s.heap.objs.size := by obtain ⟨_, e, _⟩ := ht; exact Nat.ne_of_lt (Heap.lt_size e)
  have fp := fp_ok ht
  have ht0 := ht
  obtain ⟨xs, e⟩ := (hi.allInts).items
  have hn : numsOf (intItems xs).toList = ns := e ▸ hi.numsOf
  rw [nums_intItems] at hn
  rw [e] at ht
  subst hn
  have hsz : 0 < (intItems xs).size := by unfold intItems; simpa using hne
  refine call_max_walk (wpAny_pyIter_tuple ht ⟨_, _, _, _, _, _, _, rfl, Walks.tuple (A := A.in1) hh _ l hl (intItems xs), ⟨⟨_, Heap.get?_push_size _ rfl, rfl, rfl⟩, ht.push _⟩, fp, hsz, CmpOf.ints_gt (numAt xs) (fun _ _ => intItems_at), fun v h' tk hP hk => ?_⟩)
  obtain ⟨t, rfl⟩ := intItems_at hP
  have hsz2 : (intItems xs).size = xs.size := by unfold intItems; simp
  rw [hsz2] at hsz ⊢
  have hb := argBest_gt (numAt xs) (xs.size - 1)
  refine h h' tk _ t (best_of (f := fun _ _ => true) (c := l) ht0 hk) ?_ fun a ha => ?_
  · rw [numAt_eq]
    refine PySem.getD_mem ?_
    rw [List.length_map, Array.length_toList]
    have := hb.1
    omega
  · obtain ⟨j, hj, rfl⟩ := mem_getD ha
    have hj2 : j < xs.size := by simpa using hj
    have := hb.2 j (by omega)
    rw [← numAt_eq]
    exact this
end
def rMinT (K : PySem.W.Frag) : List V → Hp → VK → Prop := fun vs H Q => ∃ (a : Addr) (ns : List Int), vs = [V.ref a] ∧ SqT K H a (ns.map V.int) ∧ 0 < ns.length ∧ ∀ m, m ∈ ns → (∀ y, y ∈ ns → m ≤ y) → Q (.int m) H
def rMaxT (K : PySem.W.Frag) : List V → Hp → VK → Prop := fun vs H Q => ∃ (a : Addr) (ns : List Int), vs = [V.ref a] ∧ SqT K H a (ns.map V.int) ∧ 0 < ns.length ∧ ∀ m, m ∈ ns → (∀ y, y ∈ ns → y ≤ m) → Q (.int m) H
section
variable {X : Cx} {K : PySem.W.Frag}
theorem cr_minT (hc : X.calm = true) (e : X.K = K := by rfl) : CallR X (.builtin "min") (rMinT K) := by
  subst e
  intro pins s σ H vs us Q I r h
  obtain ⟨a, ns, rfl, hs, hne, q⟩ := h
  obtain ⟨its, rv, ht, _⟩ := I.tuple hs
  rw [Vals.ref1 r]
  exact minT_raw (I.ok.hd hc) ht rv.ints hne fun h' tk m t' hk h1 h2 => ⟨.int _, H, I.kept hk, ⟨_, rfl⟩, q m h1 h2⟩
theorem cr_maxT (hc : X.calm = true) (e : X.K = K := by rfl) : CallR X (.builtin "max") (rMaxT K) := by
  subst e
  intro pins s σ H vs us Q I r h
  obtain ⟨a, ns, rfl, hs, hne, q⟩ := h
  obtain ⟨its, rv, ht, _⟩ := I.tuple hs
  rw [Vals.ref1 r]
  exact maxT_raw (I.ok.hd hc) ht rv.ints hne fun h' tk m t' hk h1 h2 => ⟨.int _, H, I.kept hk, ⟨_, rfl⟩, q m h1 h2⟩
end
theorem n_minT2 {K : PySem.W.Frag} {H : Hp} {t : Addr} {a b : Int} {Q : VK} (h : H t = some (.tup [.int a, .int b])) (k : Q (.int (min a b)) H) : rMinT K [.ref t] H Q :=
  ⟨t, [a, b], rfl, SqT.of h, Nat.succ_pos _, fun m hm hy => by
    have h1 := hy a (by simp)
    have h2 := hy b (by simp)
    simp only [List.mem_cons, List.not_mem_nil, or_false] at hm
    have e : m = min a b := by omega
    rw [e]
    exact k⟩
theorem n_maxT2 {K : PySem.W.Frag} {H : Hp} {t : Addr} {a b : Int} {Q : VK} (h : H t = some (.tup [.int a, .int b])) (k : Q (.int (max a b)) H) : rMaxT K [.ref t] H Q :=
  ⟨t, [a, b], rfl, SqT.of h, Nat.succ_pos _, fun m hm hy => by
    have h1 := hy a (by simp)
    have h2 := hy b (by simp)
    simp only [List.mem_cons, List.not_mem_nil, or_false] at hm
    have e : m = max a b := by omega
    rw [e]
    exact k⟩
/-! ### set(a list of numbers) -/
/-- an empty set -/
def eSet (w : World) : Obj := { cls := .type "set", dict := none, data := .set #[] 0 (.fresh 0 0 (!w.params.followText "set-order")) }
def lIt (l : Addr) : Obj := { cls := .type "list_iterator", data := .fields #[.ref l, .int 0 0] }
section
variable {P : Program} {w : World} {A : Around} {E : Value → Shared → Prop} {s : Shared}
theorem setL_init {l : Addr} {items : Array Value} (ns : List Int) (hh : A.handled = none) (hl : s.heap.IsList l items) (hit : IntsAre items.toList ns) (hb : ns.length + 1 < scanBound) {R : Value → Shared → Prop}
    (h : ∀ (h' : Heap) (tk c : Nat), SetR w h' s.heap.objs.size (fun j => decide (j ∈ ns)) c → c ≤ ns.length → (∀ b o, s.heap.get? b = some o → h'.get? b = some o) → R .none { s with heap := h', toks := tk }) :
    wpAny (model P w) A (Builtin.«set.__init__» ⟨[.ref s.heap.objs.size, .ref l], []⟩) (fun r s' => ∃ v, r = .done (.ret v) ∧ R v s') E { s with heap := s.heap.push (eSet w) } := by
  have hisz : items.size = ns.length := by
    rw [← Array.length_toList]
    exact IntsAre.length hit
  have hlS : l < s.heap.objs.size := by obtain ⟨_, e, _⟩ := hl; exact Heap.lt_size e
  have hS : (s.heap.push (eSet w)).get? s.heap.objs.size = some (eSet w) := Heap.get?_push_size _ rfl
  have hl1 : (s.heap.push (eSet w)).IsList l items := hl.push _
  have hz1 : (s.heap.push (eSet w)).objs.size = s.heap.objs.size + 1 := Heap.size_push ..
  obtain ⟨ol, hol, hcl, nl, hdl⟩ := hl1
  obtain ⟨oc, od, odt, osl⟩ := ol
  simp only at hcl hdl
  subst hcl; subst hdl
  have hl1 : (s.heap.push (eSet w)).IsList l items := hl.push _
  have q1 := F.sub_list_set
  have q2 := F.sub_list_frozenset
  have q3 : (Value.type "list" == Value.type "dict") = false := by decide
  have hS' := hS
  unfold eSet at hS' hol
  have hh3 : A.in1.handled = none := hh
  unfold Builtin.«set.__init__»; unfold noKeywords Builtin.Frozenset.updateFrom
  generalize hPI : pyIter = PI
  unfold eSet
  wp_walk
  subst hPI
  have hneI : l ≠ (s.heap.push (eSet w)).objs.size := by
    rw [hz1]
    exact Nat.ne_of_lt (Nat.lt_succ_of_lt hlS)
  have hSf : s.heap.objs.size ∉ [(s.heap.push (eSet w)).objs.size, l] := fun m => by
    rw [hz1] at m
    simp only [List.mem_cons, List.not_mem_nil, or_false] at m
    rcases m with m | m
    · exact absurd m (by omega)
    · exact absurd m (Nat.ne_of_gt hlS)
  have hval : ∀ (i : Nat) (v : Value), items[i]? = some v → ∃ k t, ns[i]? = some k ∧ v = .int k t := fun i v hv => by
    obtain ⟨lt, _⟩ := Array.getElem?_eq_some_iff.mp hv
    rw [hisz] at lt
    obtain ⟨t, e⟩ := IntsAre.int_at hit i v ((Array.getElem?_toList ..).trans hv)
    have z : ns[i]? = some (ns.getD i 0) := by rw [List.getD_eq_getElem?_getD, List.getElem?_eq_getElem lt] <;> rfl
    exact ⟨_, t, z, e⟩
  have hp2 : ((s.heap.push (eSet w)).push (lIt l)).get? s.heap.objs.size = some (eSet w) := Heap.get?_push_of_some _ hS
  refine wpAny_pyIter_list hl1 (wpAny_bind (wpAny_runValue (set_update_ints ((Walks.list (A := A.in1) hh _ l hneI items).toS) s.heap.objs.size hSf ns hisz hb hval (items.size - 0) 0 _ rfl (Nat.zero_le _) ⟨⟨_, Heap.get?_push_size _ rfl, rfl, rfl⟩, hl1.push _⟩
    ⟨0, Nat.le_refl 0, setR_new_at hp2⟩ fun s' c hm hc hR => ?_)))
  obtain ⟨h1, g1, d1, k1, o1⟩ := s'
  have z1 : g1 = s.gens := hm.gens
  have z2 : d1 = s.drawn := hm.drawn
  have z3 : o1 = s.os := hm.os
  subst z1; subst z2; subst z3
  refine wpAny_pure (wpAny_pure ⟨_, rfl, h h1 k1 c hR (by rw [← hisz]; exact hc) fun b o e => ?_⟩)
  have lt := Heap.lt_size e
  have kk := hm.heap b o
  refine kk (fun m => ?_) (Heap.get?_push_of_some _ (Heap.get?_push_of_some _ e))
  simp only [List.mem_cons, List.not_mem_nil, or_false] at m
  rcases m with m | m
  · exact absurd m (Nat.ne_of_lt lt)
  · rw [hz1] at m
    exact absurd m (Nat.ne_of_lt (Nat.lt_succ_of_lt lt))
/-- set(a list of numbers) -/
theorem setL_call {l : Addr} {items : Array Value} (ns : List Int) {Q : Value → Shared → Prop} (hh : A.handled = none) (hl : s.heap.IsList l items) (hit : IntsAre items.toList ns) (hb : ns.length + 1 < scanBound)
    (h : ∀ (h' : Heap) (tk c : Nat), SetR w h' s.heap.objs.size (fun j => decide (j ∈ ns)) c → c ≤ ns.length → (∀ b o, s.heap.get? b = some o → h'.get? b = some o) → Q (.ref s.heap.objs.size) { s with heap := h', toks := tk }) :
    wpAny (model P w) A (call (.type "set") [.ref l]) Q E s := by
  have k1 := F.called_set.mro
  have k2 := F.called_set.made
  have k3 := F.called_set.sub
  have k4 := F.called_set.notType
  have k5 := F.called_set.canCreate
  have k6 := F.typeCall_set_1 (.ref l)
  have k7 := F.called_set.init.lookup
  have k8 := F.called_set.init.bind (.ref s.heap.objs.size)
  obtain ⟨c0, tl, k1⟩ := k1
  refine wpAny_call (codeAny_of_tree ?_); show wpAny _ _ (callAny (.type "set") _) _ _ _; refine wpAny_pure ⟨Code.quiet_builtin _ (by decide +kernel), codeAny_builtin F.entry_type_call ?_⟩; rw [Around.under_plain (weight_type_call_type "set" [.ref l] []) rfl]
  repeat any_goals (first | assumption | wp_step)
  refine codeAny_mono (code_set_led1 (.ref l) (E := E) (Q₁ := fun obj s₁ => obj = .ref s.heap.objs.size ∧ s₁ = { s with heap := s.heap.push (eSet w) }) ⟨rfl, rfl⟩) fun r s₁ hr => ?_
  have hT : Shared.TypeIs { s with heap := s.heap.push (eSet w) } (.ref s.heap.objs.size) "set" := ⟨_, Heap.get?_push_size _ rfl, rfl⟩
  match r, hr with
  | .error e, hr => exact hr
  | .ok .next, hr => exact hr.elim
  | .ok .brk, hr => exact hr.elim
  | .ok .cont, hr => exact hr.elim
  | .ok (.ret obj), hr =>
    obtain ⟨rfl, rfl⟩ := hr
    repeat any_goals (first | assumption | wp_step)
    refine codeAny_mono (codeAny_call_builtin (R := wants (fun r s₂ => r = .none ∧ ∃ h' tk c, s₂ = { s with heap := h', toks := tk } ∧ SetR w h' s.heap.objs.size (fun j => decide (j ∈ ns)) c ∧ c ≤ ns.length ∧ (∀ b o, s.heap.get? b = some o → h'.get? b = some o)) E)
      F.called_set.init.plain F.entry_set_init (check_set_init_1 hT (wpAny_mono (setL_init (R := fun r s₂ => r = .none ∧ ∃ h' tk c, s₂ = { s with heap := h', toks := tk } ∧ SetR w h' s.heap.objs.size (fun j => decide (j ∈ ns)) c ∧ c ≤ ns.length ∧ (∀ b o, s.heap.get? b = some o → h'.get? b = some o)) ns (A := _) (by exact hh) hl hit hb fun h' tk c R1 hc hk => ⟨rfl, h', tk, c, rfl, R1, hc, hk⟩) (fun fin s' hf => ?_) fun _ _ z => z))) fun r₂ s₂ h2 => ?_
    · obtain ⟨v, rfl, hv⟩ := hf
      exact hv
    · match r₂, h2 with
      | .error e, h2 => exact h2
      | .ok .next, h2 => exact h2.elim
      | .ok .brk, h2 => exact h2.elim
      | .ok .cont, h2 => exact h2.elim
      | .ok (.ret v), h2 =>
        obtain ⟨rfl, h', tk, c, rfl, R1, hc, hk⟩ := h2
        repeat any_goals (first | assumption | wp_step)
        exact h _ _ _ R1 hc hk
end
def rSetOf (K : PySem.W.Frag) (w : World) : List V → Hp → VK → Prop := fun vs H Q => ∃ (a : Addr) (ns : List Int), vs = [V.ref a] ∧ SqL K H a (ns.map V.int) ∧ ns.length + 1 < scanBound ∧ ∀ p c, H p = none → c ≤ ns.length → Q (.ref p) (upd H p (SetO w p (fun j => decide (j ∈ ns)) c))
theorem cr_setL {X : Cx} {K : PySem.W.Frag} (hc : X.calm = true) (e : X.K = K := by rfl) : CallR X (.type "set") (rSetOf K X.w) := by
  subst e
  intro pins s σ H vs us Q I r h
  obtain ⟨a, ns, rfl, hs, hb, q⟩ := h
  obtain ⟨its, rv, hl, _⟩ := I.list hs
  rw [Vals.ref1 r]
  refine setL_call ns (I.ok.hd hc) hl.isList (by simpa using rv.ints) hb fun h' tk c R1 hc' hk => ?_
  have lt := R1.lt
  exact ⟨.ref _, _, I.laid (t' := tk) hk (Nat.le_refl _) (setO_new R1), rfl, q _ c (I.hok.fresh (Nat.le_refl _)) hc'⟩
/-- sorted(set(a list)) -/
theorem n_setL {K : PySem.W.Frag} {w : World} {G H : Hp} {L : List (Addr × HO)} {p : Addr} {ns : List Int} {Q : VK} (S : Own G L H) (h : SqL K H p (ns.map V.int)) (hb : ns.length < 60)
    (k : ∀ q c H1, H q = none → c ≤ ns.length → Own G ((q, SetO w q (fun j => decide (j ∈ ns)) c) :: L) H1 → Q (.ref q) H1) : rSetOf K w [.ref p] H Q :=
  ⟨p, ns, rfl, h, by unfold scanBound; omega, fun q c hq hc => k q c _ hq hc (S.lay hq)⟩
theorem n_sortSet {w : World} {G H : Hp} {L : List (Addr × HO)} {p : Addr} {ns : List Int} {c : Nat} {Q : VK} (S : Own G ((p, SetO w p (fun j => decide (j ∈ ns)) c) :: L) H) (hb : c < 64)
    (k : ∀ (ms : List Int) q G1 H1, ms.Pairwise (· < ·) → (∀ x, x ∈ ms ↔ x ∈ ns) → H q = none → Ex G G1 → Ex H H1 → G1 q = some (.lst (ms.map V.int)) → Own G1 L H1 → Q (.ref q) H1) : rSortedSet w [.ref p] H Q :=
  ⟨p, _, c, rfl, S.get0, hb, fun ms q h1 h2 h3 hq => by
    have T := S.forget.still (o := .lst (ms.map V.int)) hq
    exact k ms q _ _ h1 (fun x => by rw [h2, decide_eq_true_eq]) hq T.2.1 (Ex.new hq) T.2.2 T.1⟩
end NX

namespace NX
open PySem PySem.Spec PyProof.Rows L2
open Evl (Ex ex_l ex_t fresh_back)
theorem all_flat (ns : List Int) : (ns.map V.int).all flatV = true := by
  rw [List.all_eq_true]
  intro x hx
  obtain ⟨n, _, rfl⟩ := List.mem_map.mp hx
  rfl
theorem inV_ints (x : Int) (ns : List Int) : inV (.int x) (ns.map V.int) = decide (x ∈ ns) := by
  unfold inV
  rw [List.any_map, Bool.eq_iff_iff, List.any_eq_true]
  simp only [Function.comp, eqV, beq_iff_eq, decide_eq_true_eq]
  exact ⟨fun ⟨y, hy, e⟩ => e ▸ hy, fun h => ⟨x, h, rfl⟩⟩
section
variable {K : PySem.W.Frag} {H : Hp} {p : Addr} {ns : List Int} {x : Int} {Q : VK}
theorem n_inIL (h : SqL K H p (ns.map V.int)) (k : Q (.bl (decide (x ∈ ns))) H) : rIn K false (.int x) (.ref p) H Q := ⟨p, _, rfl, .inl h, rfl, all_flat ns, by rw [inV_ints]; exact k⟩
theorem n_ninIL (h : SqL K H p (ns.map V.int)) (k : Q (.bl (!decide (x ∈ ns))) H) : rIn K true (.int x) (.ref p) H Q := ⟨p, _, rfl, .inl h, rfl, all_flat ns, by rw [inV_ints]; exact k⟩
theorem n_inIT (h : SqT K H p (ns.map V.int)) (k : Q (.bl (decide (x ∈ ns))) H) : rIn K false (.int x) (.ref p) H Q := ⟨p, _, rfl, .inr h, rfl, all_flat ns, by rw [inV_ints]; exact k⟩
theorem n_ninIT (h : SqT K H p (ns.map V.int)) (k : Q (.bl (!decide (x ∈ ns))) H) : rIn K true (.int x) (.ref p) H Q := ⟨p, _, rfl, .inr h, rfl, all_flat ns, by rw [inV_ints]; exact k⟩
end
def spNet (C : Addr) (n : Nat) (ls : List Pr) (H : Hp) (Q : VK) : Prop := ∀ x H', H x = none → Ex H H' → NetAt C (nw H H') x n (sortP ls) → Q (.ref x) H'
theorem n_spNet {C : Addr} {G H : Hp} {L : List (Addr × HO)} {n : Nat} {ls : List Pr} {Q : VK} (S : Own G L H) (k : ∀ x G1 H1, H x = none → Ex G G1 → Ex H H1 → Own G1 L H1 → NetAt C G1 x n (sortP ls) → Q (.ref x) H1) : spNet C n ls H Q := fun x H' hx e N => by
  obtain ⟨S1, e2, e3⟩ := S.absorb e
  exact k x _ H' hx e2 e S1 (N.mono e3)
def spWo (C : Addr) : Sp := fun vs H Q _ => ∃ (a : Addr) (n : Nat) (ks : List Pr) (i : Int), vs = [.ref a, .int i] ∧ NetAt C H a n ks ∧ (0 ≤ i ∧ i < (n : Int)) ∧ 2 ≤ n ∧ spNet C (n - 1) (woL i ks) H Q
def spRen (K : PySem.W.Frag) (C : Addr) : Sp := fun vs H Q _ => ∃ (a p : Addr) (n : Nat) (ks : List Pr) (ns : List Int), vs = [.ref a, .ref p] ∧ NetAt C H a n ks ∧ H p = some (.lst (ns.map V.int)) ∧ IsNames n ns ∧ spNet C n (renL ns ks) H Q
theorem n_wo {C : Addr} {G H : Hp} {L : List (Addr × HO)} {a : Addr} {n : Nat} {ks : List Pr} {i : Int} {Q : VK} {E : XK} (S : Own G L H) (N : NetAt C G a n ks) (hi : 0 ≤ i ∧ i < (n : Int)) (hn : 2 ≤ n)
    (k : ∀ x G1 H1, H x = none → Ex G G1 → Ex H H1 → Own G1 L H1 → NetAt C G1 x (n - 1) (sortP (woL i ks)) → Q (.ref x) H1) : spWo C [.ref a, .int i] H Q E := ⟨a, n, ks, i, rfl, N.mono S.ex, hi, hn, n_spNet S k⟩
theorem n_ren {K : PySem.W.Frag} {C : Addr} {G H : Hp} {L : List (Addr × HO)} {a p : Addr} {n : Nat} {ks : List Pr} {ns : List Int} {Q : VK} {E : XK} (S : Own G L H) (N : NetAt C G a n ks) (hp : H p = some (.lst (ns.map V.int))) (hn : IsNames n ns)
    (k : ∀ x G1 H1, H x = none → Ex G G1 → Ex H H1 → Own G1 L H1 → NetAt C G1 x n (sortP (renL ns ks)) → Q (.ref x) H1) : spRen K C [.ref a, .ref p] H Q E := ⟨a, p, n, ks, ns, rfl, N.mono S.ex, hp, hn, n_spNet S k⟩
theorem ks_len2 {n : Nat} {ks : List Pr} (ok : Okl n ks) (u : Up ks) (d : ks.Nodup) (hn : n ≤ 60) : ks.length ≤ 4000 := by
  -- the links as numbers, all different, below 3600
  have h : (ks.map fun q => q.1 * 60 + q.2).Pairwise (· < ·) := by
    rw [List.pairwise_map]
    have hh := List.pairwise_iff_getElem.mp u
    refine List.pairwise_iff_getElem.mpr fun i j hi hj hij => ?_
    have c := leP_iff.mp (hh i j hi hj hij)
    have b1 := ok _ (List.getElem_mem hi)
    have b2 := ok _ (List.getElem_mem hj)
    have ne : ks[i] ≠ ks[j] := fun e => by have := (List.getElem_inj d).mp e; omega
    have ne' : ¬ (ks[i].1 = ks[j].1 ∧ ks[i].2 = ks[j].2) := fun e => ne (Prod.ext e.1 e.2)
    omega
  have := up_len (lo := 0) (hi := 3660) h fun x hx => by
    obtain ⟨q, hq, rfl⟩ := List.mem_map.mp hx
    have := ok q hq
    omega
  rcases this with e | e
  · have z := congrArg List.length e
    rw [List.length_map] at z
    simp only [List.length_nil] at z
    omega
  · rw [List.length_map] at e
    omega
theorem ks_len {n : Nat} {ks : List Pr} (ok : Okl n ks) (u : Up ks) (d : ks.Nodup) (hn : n ≤ 60) : ks.length ≤ 10000 := Nat.le_trans (ks_len2 ok u d hn) (by decide)
theorem NetAt.len {C : Addr} {H : Hp} {a : Addr} {n : Nat} {ks : List Pr} (N : NetAt C H a n ks) : ks.length ≤ 10000 := ks_len N.ok N.up N.nd N.sz.2
end NX

namespace NX
open PySem PySem.Spec PyProof.Rows L2
open Evl (Ex ex_l ex_t fresh_back)
abbrev s_without : Stmt := top 22
theorem sc_without : FnScope ["network", "station", "kept", "links", "link", "one", "other"] ["network", "station"] (defScope s_without) := ⟨rfl, rfl, rfl, by decide +kernel, rfl, by decide +kernel, by decide +kernel⟩
abbrev s_renamed : Stmt := top 21
theorem sc_renamed : FnScope ["network", "names", "index", "name", "links", "one", "other", "link"] ["network", "names"] (defScope s_renamed) := ⟨rfl, rfl, rfl, by decide +kernel, rfl, by decide +kernel, by decide +kernel⟩
section
variable {P : Program} {w : World} {K : PySem.W.Frag} {mg : Str → Option Value} {base : Heap} {C : Addr}
theorem ok_wo {f : Addr} {fd : FuncData} (F : Fun K "without" "without" s_without f fd) (T : Txt mg) (NC : NetC K C) (M_len : Mth P w K mg base 1 C "__len__" ["self"] (spLen C)) (M_links : Mth P w K mg base 1 C "links" ["self"] (spLinks C))
    (M_check_station : Mth P w K mg base 2 C "check_station" ["self", "station"] (spChk C)) (c_Network : Cnw P w K mg base 3 "Network" C ["self", "stations", "links"] (spInit C)) : FnOk P w K mg base CX0 5 f fd ["network", "station"] (spWo C) := by
  refine F.ok sc_without (fun vs H Q E h => ?_) (fun cdv A outer s H vs Q E hr h => ?_)
  · obtain ⟨a, n, ks, i, rfl, _⟩ := h
    rfl
  · obtain ⟨a, n, ks, i, rfl, N, hi, hn2, k⟩ := h
    have hz := N.len
    refine ⟨_, (pss_cons (ps_expr (pe_mth (pv 0) M_check_station NC.cl (hr.mono (by first | decide | omega)) passN (pa_cons (pv 1) pa_nil)))
      (pss_cons (ps_if (pt_cmpR op_eq (pe_callB (call_lenNet NC M_len (hr.mono (by first | decide | omega))) (by rfl) T.n_len (by decide +kernel) (pa_cons (pv 0) pa_nil)) pe_int (nomark _)) (pss_one ps_never) pss_nil)
      (pss_cons (ps_setLc (i := 2) (own := [("link", 4)]) (by rfl) sc_without.nd rfl rfl (sw_true rfl rfl rfl (by decide +kernel)) (pi_list (pe_mth0 (pv 0) M_links NC.cl (hr.mono (by first | decide | omega)) passN)) (blkOk_by (own := [("link", 4)]) (N := ["network", "station", "kept", "links", "link", "one", "other"]) (sc := defScope s_without) (by decide +kernel)) (fun _ _ _ _ _ => (pg_name (i := 4) sc_without.nd rfl (Or.inl rfl))) (fun _ _ _ _ _ => (pts_one (pt_cmpR (op_notIn_seqK (K := K)) (pv 1) (pv 4) rfl))) (fun _ _ _ _ _ => (pv 4)))
      (pss_cons (ps_setLc (i := 3) (own := [("one", 5), ("other", 6)]) (by rfl) sc_without.nd rfl rfl (sw_true rfl rfl rfl (by decide +kernel)) (pi_list (pv 2)) (blkOk_by (own := [("one", 5), ("other", 6)]) (N := ["network", "station", "kept", "links", "link", "one", "other"]) (sc := defScope s_without) (by decide +kernel)) (fun _ _ _ _ _ => (pg_tupK (K := K) (n := 2) rfl (pgs_cons (pg_name (i := 5) sc_without.nd rfl (Or.inl rfl)) (pgs_cons (pg_name (i := 6) sc_without.nd rfl (Or.inl rfl)) pgs_nil)))) (fun _ _ _ _ _ => pts_nil) (fun _ _ _ _ _ => (pe_tup (pa_cons (pe_op op_sub (pv 5) (pe_callTy call_intN (by rfl) T.n_int (by decide +kernel) (pa_cons (pe_cmpR op_gt (pv 5) (pv 1) (nomark _)) pa_nil))) (pa_cons (pe_op op_sub (pv 6) (pe_callTy call_intN (by rfl) T.n_int (by decide +kernel) (pa_cons (pe_cmpR op_gt (pv 6) (pv 1) (nomark _)) pa_nil))) pa_nil)))))
      (pss_one (ps_ret (pe_new c_Network (hr.mono (by first | decide | omega)) passN (pa_cons (pe_op op_sub (pe_callB (call_lenNet NC M_len (hr.mono (by first | decide | omega))) (by rfl) T.n_len (by decide +kernel) (pa_cons (pv 0) pa_nil)) pe_int) (pa_cons (pv 3) pa_nil))))))))), ?_⟩
    walk_at "go"
    refine ⟨N.ins (by decide) (by decide), ?_⟩
    walk_at "go"
    refine n_chk (Own.start H) N hi fun H1 e1 S1 => ?_
    walk_at "go"
    refine n_lenNet (N.mono e1) ?_
    walk_at "go"
    refine if_ff (dfalse (by omega)) ?_
    walk_at "go"
    refine ⟨(N.mono e1).ins (by decide) (by decide), ?_⟩
    walk_at "go"
    refine n_links S1 N fun xs p G2 H2 hl _ e2 _ hp S2 => ?_
    walk_at "go"
    refine v_list (xs := xs) (fun j acc G' L' => L' = [] ∧ Lks G' acc (woF i (ks.take j))) S2 (SqL.of hp) (by rw [pr_len hl]; omega) ⟨rfl, .nil⟩ ?_ ?_
    · rintro D j x acc G' L' H' hx hj e' hl' ⟨rfl, ha⟩ S'
      obtain ⟨q, hq, t, rfl, ht⟩ := pr_get hl hx
      walk_at "go"
      refine ⟨rfl, ?_⟩
      walk_at "go"
      refine n_ninIT (ns := [q.1, q.2]) (SqT.of (S'.ex _ _ (e' _ _ ht))) ?_
      have e3 : decide (i ∈ [q.1, q.2]) = decide (i = q.1 ∨ i = q.2) := by simp
      have e4 : woF i (ks.take (j + 1)) = woF i (ks.take j) ++ woF i [q] := by unfold woF; rw [take_snoc hq, List.filter_append]
      walk_at "go"
      rw [e3]
      refine if_2 (fun c => ?_) (fun c => ?_)
      · have e5 : woF i [q] = [q] := by unfold woF; rw [List.filter_cons, if_pos c] <;> rfl
        walk_at "go"
        refine c_yes S' e' hl' hj ⟨rfl, ?_⟩
        rw [e4, e5]
        exact pr_snoc ha ⟨t, rfl, e' _ _ ht⟩
      · have e5 : woF i [q] = [] := by unfold woF; rw [List.filter_cons, if_neg (by rw [c]; exact Bool.false_ne_true)] <;> rfl
        refine c_no S' e' hl' ⟨rfl, ?_⟩
        rw [e4, e5, List.append_nil]
        exact ha
    · rintro p3 acc G3 L3 H3 e3 hl3 ⟨rfl, ha⟩ S3
      rw [pr_len hl, List.take_length] at ha
      obtain ⟨S4, e4, hp4⟩ := S3.freeze
      generalize upd G3 p3 (.lst acc) = G4 at S4 e4 hp4
      have ha4 := ha.mono e4
      have hlen : (woF i ks).length ≤ ks.length := List.length_filter_le ..
      walk_at "go"
      refine v_list (xs := acc) (fun j acc5 G' L' => L' = [] ∧ Lks G' acc5 (((woF i ks).take j).map fun q => (shf i q.1, shf i q.2))) S4 (SqL.of hp4) (by rw [pr_len ha]; omega) ⟨rfl, .nil⟩ ?_ ?_
      · rintro D j x acc5 G' L' H' hx hj e' hl' ⟨rfl, h5⟩ S'
        obtain ⟨q, hq, t, rfl, ht⟩ := pr_get ha4 hx
        refine s_gtup (SqT.of (S'.ex _ _ (e' _ _ ht))) rfl ?_
        walk_at "go"
        refine ⟨rfl, ?_⟩
        walk_at "go"
        refine n_tup S' (by show 2 ≤ 10000000; decide) fun t2 G6 H6 _ e6 _ ht2 S6 => ?_
        refine c_yes S6 (e'.trans e6) hl' hj ⟨rfl, ?_⟩
        rw [take_snoc hq, List.map_append]
        refine pr_snoc (h5.mono e6) ⟨t2, rfl, ?_⟩
        rw [ht2]
        unfold shf
        simp only [gt_iff_lt, decide_eq_true_eq]
      · rintro p5 acc5 G5 L5 H5 e5 hl5 ⟨rfl, h5⟩ S5
        rw [pr_len ha4, List.take_length] at h5
        walk_at "go"
        have eG : Ex H G5 := (e2.trans (e3.trans e4)).trans e5
        refine n_lenNet (N.mono (eG.trans S5.ex)) ?_
        walk_at "go"
        have en : (n : Int) - 1 = ((n - 1 : Nat) : Int) := by omega
        rw [en]
        have hs := N.sz
        refine n_netN S5.get0 (h5.mono S5.ex) (wo_ok hi N.ok) (wo_nd N.nd) ⟨by omega, by omega⟩ (Nat.le_trans wo_len hz) fun x H6 hx e6 N6 => ?_
        exact k x H6 (fresh_back (eG.trans S5.ex) hx) ((eG.trans S5.ex).trans e6) (N6.mono (nw_mono (eG.trans S5.ex)))
theorem ok_ren {f : Addr} {fd : FuncData} (F : Fun K "renamed" "renamed" s_renamed f fd) (T : Txt mg) (NC : NetC K C) (c_is_int : Cal P w K mg base 1 "is_int" ["value"] [] (spIsInt K)) (M_len : Mth P w K mg base 1 C "__len__" ["self"] (spLen C))
    (M_links : Mth P w K mg base 1 C "links" ["self"] (spLinks C)) (c_Network : Cnw P w K mg base 3 "Network" C ["self", "stations", "links"] (spInit C)) : FnOk P w K mg base CX0 5 f fd ["network", "names"] (spRen K C) := by
  refine F.ok sc_renamed (fun vs H Q E h => ?_) (fun cdv A outer s H vs Q E hr h => ?_)
  · obtain ⟨a, p, n, ks, ns, rfl, _⟩ := h
    rfl
  · obtain ⟨a, p, n, ks, ns, rfl, N, hp, hns, k⟩ := h
    have hz := N.len
    refine ⟨_, (pss_cons (ps_if (PW.pt (pw_or (pt_not (pt_val (pe_callB call_isi (by rfl) T.n_isinstance (by decide +kernel) (pa_cons (pv 1) (pa_cons (pe_bltn (v := .ty "list") (by rfl) T.n_list (by decide +kernel) rfl) pa_nil))))) (pw_or1 (pt_cmpR op_ne (pe_callB call_lenN (by rfl) T.n_len (by decide +kernel) (pa_cons (pv 1) pa_nil)) (pe_callB (call_lenNet NC M_len (hr.mono (by first | decide | omega))) (by rfl) T.n_len (by decide +kernel) (pa_cons (pv 0) pa_nil)) (nomark _))))) (pss_one ps_never) pss_nil)
      (pss_cons (ps_for PassesOwn.never rfl (pi_enum (by rfl) T.n_enumerate (pa_cons (pv 1) pa_nil)) (pg_tup (n := 2) rfl (pgs_cons (pg_name (i := 2) sc_renamed.nd rfl (Or.inl rfl)) (pgs_cons (pg_name (i := 3) sc_renamed.nd rfl (Or.inl rfl)) pgs_nil))) (pss_one (ps_if (PW.pt (pw_or (pt_not (pt_val (pe_cal c_is_int (hr.mono (by first | decide | omega)) passN (pa_cons (pv 3) pa_nil)))) (pw_or (pt_not (pt_chain op_le op_lt pe_int (pv 3) (pe_callB (call_lenNet NC M_len (hr.mono (by first | decide | omega))) (by rfl) T.n_len (by decide +kernel) (pa_cons (pv 0) pa_nil)))) (pw_or1 (pt_cmpR op_in_seq (pv 3) (pe_slice sl_list (pv 1) po_none (po_some (pv 2))) rfl))))) (pss_one ps_never) pss_nil)))
      (pss_cons (ps_setLc (i := 4) (own := [("one", 5), ("other", 6)]) (by rfl) sc_renamed.nd rfl rfl (sw_true rfl rfl rfl (by decide +kernel)) (pi_list (pe_mth0 (pv 0) M_links NC.cl (hr.mono (by first | decide | omega)) passN)) (blkOk_by (own := [("one", 5), ("other", 6)]) (N := ["network", "names", "index", "name", "links", "one", "other", "link"]) (sc := defScope s_renamed) (by decide +kernel)) (fun _ _ _ _ _ => (pg_tupK (K := K) (n := 2) rfl (pgs_cons (pg_name (i := 5) sc_renamed.nd rfl (Or.inl rfl)) (pgs_cons (pg_name (i := 6) sc_renamed.nd rfl (Or.inl rfl)) pgs_nil)))) (fun _ _ _ _ _ => pts_nil) (fun _ _ _ _ _ => (pe_tup (pa_cons (pe_ix (ix_listK (K := K)) (pv 1) (pv 5) (fun _ _ => rfl)) (pa_cons (pe_ix (ix_listK (K := K)) (pv 1) (pv 6) (fun _ _ => rfl)) pa_nil)))))
      (pss_one (ps_ret (pe_new c_Network (hr.mono (by first | decide | omega)) passN (pa_cons (pe_callB (call_lenNet NC M_len (hr.mono (by first | decide | omega))) (by rfl) T.n_len (by decide +kernel) (pa_cons (pv 0) pa_nil)) (pa_cons (pe_lc (own := [("link", 7)]) (by rfl) sc_renamed.nd (pi_list (pv 4)) (blkOk_by (own := [("link", 7)]) (N := ["network", "names", "index", "name", "links", "one", "other", "link"]) (sc := defScope s_renamed) (by decide +kernel)) (fun _ _ _ _ _ => (pg_name (i := 7) sc_renamed.nd rfl (Or.inl rfl))) (fun _ _ _ _ _ => pts_nil) (fun _ _ _ _ _ => (pe_tup (pa_cons (pe_callB (cr_minT (K := K) rfl) (by rfl) T.n_min (by decide +kernel) (pa_cons (pv 7) pa_nil)) (pa_cons (pe_callB (cr_maxT (K := K) rfl) (by rfl) T.n_max (by decide +kernel) (pa_cons (pv 7) pa_nil)) pa_nil))))) pa_nil)))))))), ?_⟩
    walk_at "go"
    refine n_isiLst hp ?_
    walk_at "go"
    refine n_len (SqL.of hp) ?_
    walk_at "go"
    refine n_lenNet N ?_
    rw [List.length_map, hns.1]
    walk_at "go"
    refine if_ff (ntrue rfl) ?_
    walk_at "go"
    refine w_enum (fun i σ' H' => (∃ x1 x2 x3 x4 x5 x6, σ' = [some (.ref a), some (.ref p), x1, x2, x3, x4, x5, x6]) ∧ Own H [] H') (SqL.of hp) ⟨⟨_, _, _, _, _, _, rfl⟩, Own.start H⟩ (fun i σ' H' h => SqL.of (h.2.ex _ _ hp)) ?_ ?_
    · rintro i y T' σ' H' hy ⟨⟨x1, x2, x3, x4, x5, x6, rfl⟩, S⟩ hT
      obtain ⟨z, hz', rfl⟩ := get_map hy
      have hzr := hns.2.2 z (List.mem_of_getElem? hz')
      have S1 := S.grow (Ex.new (o := .tup [.int (i : Int), .int z]) hT)
      refine s_gtup (SqT.of upd_same) rfl ?_
      walk_at "go"
      refine g_isint ?_
      walk_at "go"
      refine if_tt (dtrue (by omega)) ?_
      walk_at "go"
      refine n_lenNet (N.mono S1.ex) ?_
      walk_at "go"
      refine if_ff (ntrue (by omega)) ?_
      walk_at "go"
      refine n_sl S1 (SqL.of (S1.ex _ _ hp)) fun p2 G2 H2 _ e2 _ hp2 S2 => ?_
      rw [cutV_to, ← List.map_take] at hp2
      refine n_inIL (SqL.of (S2.ex _ _ hp2)) ?_
      rw [dfalse (nodup_take hns.2.1 hz')]
      walk_at "go"
      exact ⟨⟨_, _, _, _, _, _, rfl⟩, (Own.start H).grow (e2.trans S2.ex)⟩
    · rintro σ' H' ⟨⟨x1, x2, x3, x4, x5, x6, rfl⟩, S1⟩
      walk_at "go"
      refine ⟨(N.mono S1.ex).ins (by decide) (by decide), ?_⟩
      walk_at "go"
      refine n_links S1 N fun xs p2 G2 H2 hl _ e2 _ hp2 S2 => ?_
      walk_at "go"
      refine v_list (xs := xs) (fun j acc G' L' => L' = [] ∧ Lks G' acc ((ks.take j).map fun q => (tv ns q.1, tv ns q.2))) S2 (SqL.of hp2) (by rw [pr_len hl]; omega) ⟨rfl, .nil⟩ ?_ ?_
      · rintro D j x acc G' L' H' hx hj e' hl' ⟨rfl, ha⟩ S'
        obtain ⟨q, hq, t, rfl, ht⟩ := pr_get hl hx
        have hb := N.ok q (List.mem_of_getElem? hq)
        have hp' := S'.ex _ _ (e' _ _ (e2 _ _ hp))
        refine s_gtup (SqT.of (S'.ex _ _ (e' _ _ ht))) rfl ?_
        walk_at "go"
        refine ⟨rfl, ?_⟩
        walk_at "go"
        refine g_ixL (SqL.of hp') (at_tv hb.1 (by rw [hns.1]; omega)) ?_
        walk_at "go"
        refine g_ixL (SqL.of hp') (at_tv (by omega) (by rw [hns.1]; omega)) ?_
        walk_at "go"
        refine n_tup S' (by show 2 ≤ 10000000; decide) fun t2 G6 H6 _ e6 _ ht2 S6 => ?_
        refine c_yes S6 (e'.trans e6) hl' hj ⟨rfl, ?_⟩
        rw [take_snoc hq, List.map_append]
        exact pr_snoc (ha.mono e6) ⟨t2, rfl, ht2⟩
      · rintro p3 acc G3 L3 H3 e3 hl3 ⟨rfl, ha⟩ S3
        rw [pr_len hl, List.take_length] at ha
        obtain ⟨S4, e4, hp4⟩ := S3.freeze
        generalize upd G3 p3 (.lst acc) = G4 at S4 e4 hp4
        have ha4 := ha.mono e4
        have eG4 : Ex H G4 := (e2.trans e3).trans e4
        walk_at "go"
        refine n_lenNet (N.mono (eG4.trans S4.ex)) ?_
        walk_at "go"
        refine v_list (xs := acc) (fun j acc5 G' L' => L' = [] ∧ Lks G' acc5 ((renL ns ks).take j)) S4 (SqL.of hp4) (by rw [pr_len ha, List.length_map]; omega) ⟨rfl, .nil⟩ ?_ ?_
        · rintro D j x acc5 G' L' H' hx hj e' hl' ⟨rfl, h5⟩ S'
          obtain ⟨q, hq, t, rfl, ht⟩ := pr_get ha4 hx
          obtain ⟨q0, hq0, rfl⟩ := get_map hq
          have ht' := S'.ex _ _ (e' _ _ ht)
          walk_at "go"
          refine ⟨rfl, ?_⟩
          walk_at "go"
          refine n_minT2 ht' ?_
          walk_at "go"
          refine n_maxT2 ht' ?_
          walk_at "go"
          refine n_tup S' (by show 2 ≤ 10000000; decide) fun t2 G6 H6 _ e6 _ ht2 S6 => ?_
          refine c_yes S6 (e'.trans e6) hl' hj ⟨rfl, ?_⟩
          have eq : (renL ns ks)[j]? = some (mmP (tv ns q0.1) (tv ns q0.2)) := by unfold renL; rw [List.getElem?_map, hq0] <;> rfl
          rw [take_snoc eq]
          exact pr_snoc (h5.mono e6) ⟨t2, rfl, ht2⟩
        · rintro p5 acc5 G5 L5 H5 e5 hl5 ⟨rfl, h5⟩ S5
          have el : acc.length = (renL ns ks).length := by rw [pr_len ha, List.length_map, ren_len]
          rw [el, List.take_length] at h5
          walk_at "go"
          have eG := eG4.trans (e5.trans S5.ex)
          have hs := N.sz
          refine n_netN S5.get0 (h5.mono S5.ex) (ren_ok hns N.ok) (ren_nd hns N.ok N.nd) ⟨by omega, by omega⟩ (by rw [ren_len]; exact hz) fun x H6 hx e6 N6 => ?_
          exact k x H6 (fresh_back eG hx) (eG.trans e6) (N6.mono (nw_mono eG))
end
end NX

namespace NX
open PySem PySem.Spec PyProof.Rows L2
open Evl (Ex ex_l ex_t fresh_back)
abbrev s_NoLink___init__ : Stmt := inClass (top 9) 0
theorem sc_NoLink___init__ : FnScope ["self", "link"] ["self", "link"] (defScope s_NoLink___init__) := ⟨rfl, rfl, rfl, by decide +kernel, rfl, by decide +kernel, by decide +kernel⟩
abbrev s_link_of : Stmt := top 17
theorem sc_link_of : FnScope ["network", "one", "other"] ["network", "one", "other"] (defScope s_link_of) := ⟨rfl, rfl, rfl, by decide +kernel, rfl, by decide +kernel, by decide +kernel⟩
abbrev s_linked : Stmt := top 18
theorem sc_linked : FnScope ["network", "one", "other", "link"] ["network", "one", "other"] (defScope s_linked) := ⟨rfl, rfl, rfl, by decide +kernel, rfl, by decide +kernel, by decide +kernel⟩
abbrev s_unlinked : Stmt := top 19
theorem sc_unlinked : FnScope ["network", "one", "other", "link", "kept"] ["network", "one", "other"] (defScope s_unlinked) := ⟨rfl, rfl, rfl, by decide +kernel, rfl, by decide +kernel, by decide +kernel⟩
/-- NoLink((i, j)) gets out -/
def ThrL (E : XK) (CL : Addr) (i j : Int) (H : Hp) : Prop := ∀ d t H', Ex H H' → H' d = some (.xd [("link", .ref t)]) → H' t = some (.tup [.int i, .int j]) → E (.ref CL) (some d) H'
theorem ThrL.mono {E : XK} {CL : Addr} {i j : Int} {H H1 : Hp} (h : ThrL E CL i j H) (e : Ex H H1) : ThrL E CL i j H1 := fun d t H' e' => h d t H' (e.trans e')
def spLinkOf (C CL : Addr) : Sp := fun vs H Q E => ∃ (a : Addr) (n : Nat) (ks : List Pr) (i j : Int), vs = [.ref a, .int i, .int j] ∧ NetAt C H a n ks ∧ (0 ≤ i ∧ i < (n : Int)) ∧ (0 ≤ j ∧ j < (n : Int)) ∧
  (i = j → ThrL E CL i j H) ∧ (i ≠ j → ∀ t H', Ex H H' → H' t = some (.tup [.int (min i j), .int (max i j)]) → Q (.ref t) H')
def spLinked (C CL : Addr) : Sp := fun vs H Q E => ∃ (a : Addr) (n : Nat) (ks : List Pr) (i j : Int), vs = [.ref a, .int i, .int j] ∧ NetAt C H a n ks ∧ (0 ≤ i ∧ i < (n : Int)) ∧ (0 ≤ j ∧ j < (n : Int)) ∧
  (i = j ∨ mmP i j ∈ ks → ThrL E CL i j H) ∧ (i ≠ j → mmP i j ∉ ks → spNet C n (ks ++ [mmP i j]) H Q)
def spUnlinked (C CL : Addr) : Sp := fun vs H Q E => ∃ (a : Addr) (n : Nat) (ks : List Pr) (i j : Int), vs = [.ref a, .int i, .int j] ∧ NetAt C H a n ks ∧ (0 ≤ i ∧ i < (n : Int)) ∧ (0 ≤ j ∧ j < (n : Int)) ∧
  (mmP i j ∉ ks → ThrL E CL i j H) ∧ (mmP i j ∈ ks → spNet C n (ks.filter fun q => !decide (q = mmP i j)) H Q)
theorem okl_lenN {C : Addr} {H : Hp} {a : Addr} {n : Nat} {ks : List Pr} (N : NetAt C H a n ks) : ks.length ≤ 9000 := by
  have := ks_len2 N.ok N.up N.nd N.sz.2
  omega
theorem n_inP {K : PySem.W.Frag} {H : Hp} {t p : Addr} {q : Pr} {xs : List V} {ps : List Pr} {Q : VK} (ht : H t = some (.tup [.int q.1, .int q.2])) (hp : SqL K H p xs) (hl : Lks H xs ps) (k : Q (.bl (decide (q ∈ ps))) H) : rInD K (.ref t) (.ref p) H Q :=
  ⟨pd q, ps.map pd, dp_pr ⟨t, rfl, ht⟩, .lst hp (dp_lks hl), shaped_pd q, shaped_lks ps, by rw [any_pd]; exact k⟩
theorem n_ninP {K : PySem.W.Frag} {H : Hp} {t p : Addr} {q : Pr} {xs : List V} {ps : List Pr} {Q : VK} (ht : H t = some (.tup [.int q.1, .int q.2])) (hp : SqL K H p xs) (hl : Lks H xs ps) (k : Q (.bl (!decide (q ∈ ps))) H) : rNotInD K (.ref t) (.ref p) H Q :=
  ⟨pd q, ps.map pd, dp_pr ⟨t, rfl, ht⟩, .lst hp (dp_lks hl), shaped_pd q, shaped_lks ps, by rw [any_pd]; exact k⟩
theorem n_nePr {K : PySem.W.Frag} {H : Hp} {t u : Addr} {q r : Pr} {Q : VK} (ht : H t = some (.tup [.int q.1, .int q.2])) (hu : H u = some (.tup [.int r.1, .int r.2])) (k : Q (.bl (!decide (q = r))) H) : rNeD K (.ref t) (.ref u) H Q :=
  ⟨pd q, pd r, dp_pr ⟨t, rfl, ht⟩, dp_pr ⟨u, rfl, hu⟩, shaped_pd q, shaped_pd r, by rw [eqv_pd]; exact k⟩
section
variable {P : Program} {w : World} {K : PySem.W.Frag} {mg : Str → Option Value} {base : Heap} {C CL C0 : Addr}
theorem ok_ini_NoLink {f : Addr} {fd : FuncData} (F : Fun K "__init__" "NoLink.__init__" s_NoLink___init__ f fd) (m_ChannelError : mg "ChannelError" = some (.ref C0)) (BC : BaseC K C0) (hno : PySem.W.findIn K (.ref CL) "link" = some none) : FnOk P w K mg base CX0 1 f fd ["self", "link"] (spExInit K CL "link") := by
  refine F.ok sc_NoLink___init__ (fun vs H Q E h => ?_) (fun cdv A outer s H vs Q E hr h => ?_)
  · obtain ⟨a, v, rfl, _⟩ := h
    rfl
  · obtain ⟨a, v, rfl, ha, T, k⟩ := h
    refine ⟨_, (pss_cons (ps_expr (pe_oeinit (K := K) m_ChannelError BC (pa_cons (pv 0) (pa_cons pe_str pa_nil))))
      (pss_one (ps_ost (pv 0) (pv 1) rfl))), ?_⟩
    walk_at "go"
    refine n_vei ?_
    walk_at "go"
    refine ⟨a, CL, _, rfl, by simp, T, ha, ?_⟩
    refine s_ost ?_
    walk_at "go"
    exact ⟨a, CL, rfl, T, hno, .inl ⟨ha, fun dx h1 h2 => k dx h1 h2⟩⟩
theorem ok_linkOf {f : Addr} {fd : FuncData} (F : Fun K "link_of" "link_of" s_link_of f fd) (T : Txt mg) (NC : NetC K C) (M_check_station : Mth P w K mg base 2 C "check_station" ["self", "station"] (spChk C)) (X_NoLink : Exn P w K mg base "NoLink" CL "link") : FnOk P w K mg base (L2.CX P w) 4 f fd ["network", "one", "other"] (spLinkOf C CL) := by
  refine F.okX sc_link_of (fun vs H Q E h => ?_) (fun cdv A outer s H vs Q E hr h => ?_)
  · obtain ⟨a, n, ks, i, j, rfl, _⟩ := h
    rfl
  · obtain ⟨a, n, ks, i, j, rfl, N, hi, hj, kE, k⟩ := h
    refine ⟨_, (pss_cons (ps_expr (pe_mth (pv 0) M_check_station NC.cl (hr.mono (by first | decide | omega)) passN (pa_cons (pv 1) pa_nil)))
      (pss_cons (ps_expr (pe_mth (pv 0) M_check_station NC.cl (hr.mono (by first | decide | omega)) passN (pa_cons (pv 2) pa_nil)))
      (pss_cons (ps_if (pt_cmpR op_eq (pv 1) (pv 2) (nomark _)) (pss_one (ps_raiseE (K := K) rfl (takes_of rfl rfl rfl rfl) X_NoLink (hr.mono (by first | decide | omega)) (pa_cons (pe_tup (pa_cons (pv 1) (pa_cons (pv 2) pa_nil))) pa_nil))) pss_nil)
      (pss_one (ps_ret (pe_tup (pa_cons (pe_callB (call_minN rfl) (by rfl) T.n_min (by decide +kernel) (pa_cons (pv 1) (pa_cons (pv 2) pa_nil))) (pa_cons (pe_callB (call_maxN rfl) (by rfl) T.n_max (by decide +kernel) (pa_cons (pv 1) (pa_cons (pv 2) pa_nil))) pa_nil)))))))), ?_⟩
    walk_at "go"
    refine ⟨N.ins (by decide) (by decide), ?_⟩
    walk_at "go"
    refine n_chk (Own.start H) N hi fun H1 e1 S1 => ?_
    walk_at "go"
    refine ⟨(N.mono e1).ins (by decide) (by decide), ?_⟩
    walk_at "go"
    refine n_chk S1 N hj fun H2 e2 S2 => ?_
    walk_at "go"
    refine if_2 (fun c => ?_) (fun c => ?_)
    · have c := of_decide_eq_true c
      refine s_raiseE ?_
      walk_at "go"
      refine n_tup S2 (by show 2 ≤ 10000000; decide) fun t G3 H3 _ _ e3 ht S3 => ?_
      walk_at "go"
      refine n_raise X_NoLink.oex fun d H4 _ e4 hd => ?_
      exact kE c d t H4 (((e1.trans e2).trans e3).trans e4) hd (e4 _ _ (S3.ex _ _ ht))
    · have c := of_decide_eq_false c
      walk_at "go"
      refine n_tup S2 (by show 2 ≤ 10000000; decide) fun t G3 H3 _ _ e3 ht S3 => ?_
      exact k c t H3 ((e1.trans e2).trans e3) (S3.ex _ _ ht)
theorem ok_linked {f : Addr} {fd : FuncData} (F : Fun K "linked" "linked" s_linked f fd) (T : Txt mg) (NC : NetC K C) (M_len : Mth P w K mg base 1 C "__len__" ["self"] (spLen C)) (M_links : Mth P w K mg base 1 C "links" ["self"] (spLinks C))
    (c_Network : Cnw P w K mg base 3 "Network" C ["self", "stations", "links"] (spInit C)) (c_link_of : Cal P w K mg base 4 "link_of" ["network", "one", "other"] [] (spLinkOf C CL)) (X_NoLink : Exn P w K mg base "NoLink" CL "link") : FnOk P w K mg base (L2.CX P w) 5 f fd ["network", "one", "other"] (spLinked C CL) := by
  refine F.okX sc_linked (fun vs H Q E h => ?_) (fun cdv A outer s H vs Q E hr h => ?_)
  · obtain ⟨a, n, ks, i, j, rfl, _⟩ := h
    rfl
  · obtain ⟨a, n, ks, i, j, rfl, N, hi, hj, kE, k⟩ := h
    have hu65 : ∀ X : Cx, X.A = A.deeper (envOfC "linked" (defScope s_linked) s.heap.objs.size f cdv) → X.A.units + 65 < cLine := fun X e => by rw [e]; have := hr.un; omega
    have hz := okl_lenN N
    refine ⟨_, (pss_cons (ps_set (i := 3) sc_linked.nd rfl (Or.inl rfl) (pe_cal c_link_of (hr.mono (by first | decide | omega)) (passE (takes_of rfl rfl rfl rfl) fun _ _ _ _ z => z) (pa_cons (pv 0) (pa_cons (pv 1) (pa_cons (pv 2) pa_nil)))))
      (pss_cons (ps_if (pt_cmpR (op_inD (hu65 _ rfl)) (pv 3) (pe_mth0 (pv 0) M_links NC.cl (hr.mono (by first | decide | omega)) passN) rfl) (pss_one (ps_raiseE (K := K) rfl (takes_of rfl rfl rfl rfl) X_NoLink (hr.mono (by first | decide | omega)) (pa_cons (pe_tup (pa_cons (pv 1) (pa_cons (pv 2) pa_nil))) pa_nil))) pss_nil)
      (pss_one (ps_ret (pe_new c_Network (hr.mono (by first | decide | omega)) passN (pa_cons (pe_callB (call_lenNet NC M_len (hr.mono (by first | decide | omega))) (by rfl) T.n_len (by decide +kernel) (pa_cons (pv 0) pa_nil)) (pa_cons (pe_op op_catL (pe_mth0 (pv 0) M_links NC.cl (hr.mono (by first | decide | omega)) passN) (pe_lst (pa_cons (pv 3) pa_nil))) pa_nil))))))), ?_⟩
    walk_at "go"
    refine ⟨a, n, ks, i, j, rfl, N, hi, hj, fun e => kE (.inl e), fun ne t H1 e1 ht => ?_⟩
    walk_at "go"
    have S1 := (Own.start H).grow e1
    obtain ⟨S1, ez, ey⟩ := (Own.start H).absorb e1
    have ht1 := ey _ _ (nw_tup' e1 ht)
    generalize cut H1 ([] : List (Addr × HO)) = G1 at S1 ez ey ht1
    refine ⟨(N.mono e1).ins (by decide) (by decide), ?_⟩
    walk_at "go"
    refine n_links S1 (N.mono ez) fun xs p G2 H2 hl _ e2 e2' hp S2 => ?_
    refine n_inP (q := mmP i j) (S2.ex _ _ (e2 _ _ ht1)) (SqL.of (S2.ex _ _ hp)) (hl.mono S2.ex) ?_
    walk_at "go"
    refine if_2 (fun c => ?_) (fun c => ?_)
    · have c := of_decide_eq_true c
      refine s_raiseE ?_
      walk_at "go"
      refine n_tup S2 (by show 2 ≤ 10000000; decide) fun t G3 H3 _ _ e3 ht S3 => ?_
      walk_at "go"
      refine n_raise X_NoLink.oex fun d H4 _ e4 hd => ?_
      exact kE (.inr c) d t H4 (((e1.trans e2').trans e3).trans e4) hd (e4 _ _ (S3.ex _ _ ht))
    · have c := of_decide_eq_false c
      walk_at "go"
      refine n_lenNet (N.mono (e1.trans e2')) ?_
      walk_at "go"
      have N2 := N.mono (ez.trans e2)
      refine ⟨(N2.mono S2.ex).ins (by decide) (by decide), ?_⟩
      walk_at "go"
      refine n_links S2 N2 fun xs5 p5 G5 H5 hl5 _ e5 e5' hp5 S5 => ?_
      walk_at "go"
      refine n_lst S5 (by show 1 ≤ 10000000; decide) fun q6 H6 _ S6 => ?_
      refine n_cat S6 (SqL.of (S6.ex _ _ hp5)) S6.l0 (by rw [pr_len hl5, List.length_singleton]; omega) fun q7 H7 _ S7 => ?_
      walk_at "go"
      have eH7 : Ex H H7 := (ez.trans (e2.trans e5)).trans S7.ex
      have b1 : 0 ≤ min i j ∧ min i j < max i j ∧ max i j < (n : Int) := by omega
      refine n_netN (ps := ks ++ [mmP i j]) S7.get0 (pr_app (hl5.mono S7.ex) (.cons ⟨t, rfl, S7.ex _ _ (e5 _ _ (e2 _ _ ht1))⟩ .nil)) (fun q hq => ?_) ?_ N.sz (by rw [List.length_append, List.length_singleton]; omega) fun x H8 hx e8 N8 => ?_
      · rcases List.mem_append.mp hq with hq | hq
        · exact N.ok q hq
        · have hq : q = mmP i j := by simpa using hq
          subst hq
          exact b1
      · refine List.nodup_append.mpr ⟨N.nd, by simp, fun x hx y hy e => ?_⟩
        have hy : y = mmP i j := by simpa using hy
        rw [e, hy] at hx
        exact c hx
      · exact k ne c x H8 (fresh_back eH7 hx) (eH7.trans e8) (N8.mono (nw_mono eH7))
theorem ok_unlinked {f : Addr} {fd : FuncData} (F : Fun K "unlinked" "unlinked" s_unlinked f fd) (T : Txt mg) (NC : NetC K C) (M_len : Mth P w K mg base 1 C "__len__" ["self"] (spLen C)) (M_links : Mth P w K mg base 1 C "links" ["self"] (spLinks C))
    (c_Network : Cnw P w K mg base 3 "Network" C ["self", "stations", "links"] (spInit C)) (c_link_of : Cal P w K mg base 4 "link_of" ["network", "one", "other"] [] (spLinkOf C CL)) (X_NoLink : Exn P w K mg base "NoLink" CL "link") : FnOk P w K mg base (L2.CX P w) 5 f fd ["network", "one", "other"] (spUnlinked C CL) := by
  refine F.okX sc_unlinked (fun vs H Q E h => ?_) (fun cdv A outer s H vs Q E hr h => ?_)
  · obtain ⟨a, n, ks, i, j, rfl, _⟩ := h
    rfl
  · obtain ⟨a, n, ks, i, j, rfl, N, hi, hj, kE, k⟩ := h
    have hu65 : ∀ X : Cx, X.A = A.deeper (envOfC "unlinked" (defScope s_unlinked) s.heap.objs.size f cdv) → X.A.units + 65 < cLine := fun X e => by rw [e]; have := hr.un; omega
    have hz := N.len
    have hself : i = j → mmP i j ∉ ks := fun e m => by
      have := N.ok _ m
      subst e
      unfold mmP at this
      simp only at this
      omega
    refine ⟨_, (pss_cons (ps_set (i := 3) sc_unlinked.nd rfl (Or.inr rfl) (pe_cal c_link_of (hr.mono (by first | decide | omega)) (passE (takes_of rfl rfl rfl rfl) fun _ _ _ _ z => z) (pa_cons (pv 0) (pa_cons (pv 1) (pa_cons (pv 2) pa_nil)))))
      (pss_cons (ps_if (pt_cmpR (op_notInD (hu65 _ rfl)) (pv 3) (pe_mth0 (pv 0) M_links NC.cl (hr.mono (by first | decide | omega)) passN) rfl) (pss_one (ps_raiseE (K := K) rfl (takes_of rfl rfl rfl rfl) X_NoLink (hr.mono (by first | decide | omega)) (pa_cons (pe_tup (pa_cons (pv 1) (pa_cons (pv 2) pa_nil))) pa_nil))) pss_nil)
      (pss_one (ps_ret (pe_new c_Network (hr.mono (by first | decide | omega)) passN (pa_cons (pe_callB (call_lenNet NC M_len (hr.mono (by first | decide | omega))) (by rfl) T.n_len (by decide +kernel) (pa_cons (pv 0) pa_nil)) (pa_cons (pe_lc (own := [("kept", 4)]) (by rfl) sc_unlinked.nd (pi_list (pe_mth0 (pv 0) M_links NC.cl (hr.mono (by first | decide | omega)) passN)) (blkOk_by (own := [("kept", 4)]) (N := ["network", "one", "other", "link", "kept"]) (sc := defScope s_unlinked) (by decide +kernel)) (fun _ _ _ _ _ => (pg_name (i := 4) sc_unlinked.nd rfl (Or.inl rfl))) (fun _ _ _ _ _ => (pts_one (pt_cmpR (op_neDK (K := K) (Nat.lt_of_succ_lt (hu65 _ rfl))) (pv 4) (pv 3) (nomark _)))) (fun _ _ _ _ _ => (pv 4))) pa_nil))))))), ?_⟩
    walk_at "go"
    refine ⟨a, n, ks, i, j, rfl, N, hi, hj, fun e => kE (hself e), fun ne t H1 e1 ht => ?_⟩
    walk_at "go"
    obtain ⟨S1, ez, ey⟩ := (Own.start H).absorb e1
    have ht1 := ey _ _ (nw_tup' e1 ht)
    generalize cut H1 ([] : List (Addr × HO)) = G1 at S1 ez ey ht1
    refine ⟨(N.mono e1).ins (by decide) (by decide), ?_⟩
    walk_at "go"
    refine n_links S1 (N.mono ez) fun xs p G2 H2 hl _ e2 e2' hp S2 => ?_
    refine n_ninP (q := mmP i j) (S2.ex _ _ (e2 _ _ ht1)) (SqL.of (S2.ex _ _ hp)) (hl.mono S2.ex) ?_
    walk_at "go"
    refine if_2 (fun c => ?_) (fun c => ?_)
    · have c : mmP i j ∉ ks := fun m => by rw [dtrue m] at c; cases c
      refine s_raiseE ?_
      walk_at "go"
      refine n_tup S2 (by show 2 ≤ 10000000; decide) fun t G3 H3 _ _ e3 ht S3 => ?_
      walk_at "go"
      refine n_raise X_NoLink.oex fun d H4 _ e4 hd => ?_
      exact kE c d t H4 (((e1.trans e2').trans e3).trans e4) hd (e4 _ _ (S3.ex _ _ ht))
    · have c : mmP i j ∈ ks := Classical.byContradiction fun m => by rw [dfalse m] at c; cases c
      walk_at "go"
      refine n_lenNet (N.mono (e1.trans e2')) ?_
      walk_at "go"
      have N2 := N.mono (ez.trans e2)
      refine ⟨(N2.mono S2.ex).ins (by decide) (by decide), ?_⟩
      walk_at "go"
      refine n_links S2 N2 fun xs5 p5 G5 H5 hl5 _ e5 e5' hp5 S5 => ?_
      walk_at "go"
      refine v_list (xs := xs5) (fun m acc G' L' => L' = [] ∧ Lks G' acc ((ks.take m).filter fun q => !decide (q = mmP i j))) S5 (SqL.of hp5) (by rw [pr_len hl5]; omega) ⟨rfl, .nil⟩ ?_ ?_
      · rintro D m x acc G' L' H' hx hm e' hl' ⟨rfl, ha⟩ S'
        obtain ⟨q, hq, u, rfl, hu⟩ := pr_get hl5 hx
        walk_at "go"
        refine ⟨rfl, ?_⟩
        walk_at "go"
        refine n_nePr (q := q) (r := mmP i j) (S'.ex _ _ (e' _ _ hu)) (S'.ex _ _ (e' _ _ (e5 _ _ (e2 _ _ ht1)))) ?_
        walk_at "go"
        have e4 : (ks.take (m + 1)).filter (fun q => !decide (q = mmP i j)) = (ks.take m).filter (fun q => !decide (q = mmP i j)) ++ [q].filter (fun q => !decide (q = mmP i j)) := by rw [take_snoc hq, List.filter_append]
        refine if_2 (fun c => ?_) (fun c => ?_)
        · walk_at "go"
          refine c_yes S' e' hl' hm ⟨rfl, ?_⟩
          rw [e4, List.filter_cons, if_pos c]
          exact pr_snoc ha ⟨u, rfl, e' _ _ hu⟩
        · refine c_no S' e' hl' ⟨rfl, ?_⟩
          rw [e4, List.filter_cons, if_neg (by rw [c]; exact Bool.false_ne_true)]
          show Lks G' acc (_ ++ [])
          rw [List.append_nil]
          exact ha
      · rintro p6 acc G6 L6 H6 e6 hl6 ⟨rfl, ha⟩ S6
        rw [pr_len hl5, List.take_length] at ha
        walk_at "go"
        have eH6 : Ex H H6 := (ez.trans (e2.trans (e5.trans e6))).trans S6.ex
        refine n_netN S6.get0 (ha.mono S6.ex) (fun q hq => N.ok q (List.mem_filter.mp hq).1) (nd_filter N.nd) N.sz (Nat.le_trans (List.length_filter_le ..) hz) fun x H8 hx e8 N8 => ?_
        exact k c x H8 (fresh_back eH6 hx) (eH6.trans e8) (N8.mono (nw_mono eH6))
end
end NX

namespace NX
open PySem PySem.Spec PyProof.Rows L2
open Evl (Ex ex_l ex_t fresh_back)
abbrev s_NoStation___init__ : Stmt := inClass (top 4) 0
theorem sc_NoStation___init__ : FnScope ["self", "station"] ["self", "station"] (defScope s_NoStation___init__) := ⟨rfl, rfl, rfl, by decide +kernel, rfl, by decide +kernel, by decide +kernel⟩
theorem ok_ini_NoStation {P : Program} {w : World} {K : PySem.W.Frag} {mg : Str → Option Value} {base : Heap} {CL C0 : Addr} {f : Addr} {fd : FuncData} (F : Fun K "__init__" "NoStation.__init__" s_NoStation___init__ f fd) (m_ChannelError : mg "ChannelError" = some (.ref C0)) (BC : BaseC K C0) (hno : PySem.W.findIn K (.ref CL) "station" = some none) : FnOk P w K mg base CX0 1 f fd ["self", "station"] (spExInit K CL "station") := by
  refine F.ok sc_NoStation___init__ (fun vs H Q E h => ?_) (fun cdv A outer s H vs Q E hr h => ?_)
  · obtain ⟨a, v, rfl, _⟩ := h
    rfl
  · obtain ⟨a, v, rfl, ha, T, k⟩ := h
    refine ⟨_, (pss_cons (ps_expr (pe_oeinit (K := K) m_ChannelError BC (pa_cons (pv 0) (pa_cons pe_str pa_nil))))
      (pss_one (ps_ost (pv 0) (pv 1) rfl))), ?_⟩
    walk_at "go"
    refine n_vei ?_
    walk_at "go"
    refine ⟨a, CL, _, rfl, by simp, T, ha, ?_⟩
    refine s_ost ?_
    walk_at "go"
    exact ⟨a, CL, rfl, T, hno, .inl ⟨ha, fun dx h1 h2 => k dx h1 h2⟩⟩
/-- no station of n -/
def OddSt (H : Hp) (n : Nat) (v : V) : Prop := ∃ t, OddV H v t ∧ NoIn 0 ((n : Int) - 1) v t
/-- no channel -/
def OddCh (H : Hp) (v : V) : Prop := ∃ t, OddV H v t ∧ (t = "int" → ∃ i, v = .int i ∧ i < 1)
def OkSt (n : Nat) (v : V) : Prop := ∃ i : Int, v = .int i ∧ 0 ≤ i ∧ i < (n : Int)
def spChkX (C CS : Addr) : Sp := fun vs H Q E => ∃ (a : Addr) (n : Nat) (ks : List Pr) (v : V), vs = [.ref a, v] ∧ NetAt C H a n ks ∧ ((OkSt n v ∧ ∀ H', Ex H H' → Q .non H') ∨ (OddSt H n v ∧ Thr E CS "station" v H))
section
variable {P : Program} {w : World} {K : PySem.W.Frag} {mg : Str → Option Value} {base : Heap} {C CS : Addr}
theorem ok_chkX {f : Addr} {fd : FuncData} (F : Fun K "check_station" "Network.check_station" s_Network_check_station f fd) (T : Txt mg) (NC : NetC K C) (c_is_int : Cal P w K mg base 1 "is_int" ["value"] [] (spIsInt K)) (X_NoStation : Exn P w K mg base "NoStation" CS "station") : FnOk P w K mg base (L2.CX P w) 3 f fd ["self", "station"] (spChkX C CS) := by
  refine F.okX sc_Network_check_station (fun vs H Q E h => ?_) (fun cdv A outer s H vs Q E hr h => ?_)
  · obtain ⟨a, n, ks, v, rfl, _⟩ := h
    rfl
  · obtain ⟨a, n, ks, v, rfl, N, h⟩ := h
    obtain ⟨dx, kp, np, xs, nps, o⟩ := N.at_
    refine ⟨_, (pss_one (ps_if (PW.pt (pw_or (pt_not (pt_val (pe_cal c_is_int (hr.mono (by first | decide | omega)) passN (pa_cons (pv 1) pa_nil)))) (pw_or1 (pt_not (pt_chain op_le op_lt pe_int (pv 1) (pe_callB call_lenN (by rfl) T.n_len (by decide +kernel) (pa_cons (pe_fld (pv 0) rfl) pa_nil))))))) (pss_one (ps_raiseE (K := K) rfl (takes_of rfl rfl rfl rfl) X_NoStation (hr.mono (by first | decide | omega)) (pa_cons (pv 1) pa_nil))) pss_nil)), ?_⟩
    rcases h with ⟨⟨i, rfl, h0, h1⟩, k⟩ | ⟨⟨t, ho, hno⟩, kE⟩
    · walk_at "go"
      refine g_isint ?_
      walk_at "go"
      refine if_tt (dtrue (by omega)) ?_
      walk_at "go"
      refine n_fld o.ins NC.cl NC.nN (nf_near kp np) ?_
      walk_at "go"
      refine n_len (SqL.of o.near) ?_
      rw [List.length_map, o.len]
      walk_at "go"
      refine if_ff (ntrue (by omega)) ?_
      walk_at "go"
      exact k H (Ex.refl H)
    · walk_at "go"
      refine ⟨v, t, rfl, ho.isT, ?_⟩
      walk_at "go"
      have fin : ∀ H1, Ex H H1 → RAISE K CS "station" (fun cls d _ H => E cls d H) (L2.start ["self", "station"] [.ref a, v]) [v] H1 := fun H1 e1 => n_raise X_NoStation.oex fun d H4 _ e4 hd => kE d H4 (e1.trans e4) hd
      by_cases c : t = "int"
      · subst c
        obtain ⟨i, rfl, hi⟩ := hno rfl
        refine if_ff (by decide +kernel) ?_
        walk_at "go"
        refine if_2 (fun e1 => ?_) (fun e1 => ?_)
        · have e1 := of_decide_eq_true e1
          walk_at "go"
          refine n_fld o.ins NC.cl NC.nN (nf_near kp np) ?_
          walk_at "go"
          refine n_len (SqL.of o.near) ?_
          rw [List.length_map, o.len]
          walk_at "go"
          refine if_tt (nfalse (by omega)) ?_
          refine s_raiseE ?_
          walk_at "go"
          exact n_raise X_NoStation.oex fun d H4 _ e4 hd => kE d H4 e4 hd
        · walk_at "go"
          refine s_raiseE ?_
          walk_at "go"
          exact n_raise X_NoStation.oex fun d H4 _ e4 hd => kE d H4 e4 hd
      · have e : (t == "int") = false := by simp [c]
        rw [e]
        walk_at "go"
        refine s_raiseE ?_
        walk_at "go"
        exact n_raise X_NoStation.oex fun d H4 _ e4 hd => kE d H4 e4 hd
end
end NX

namespace NX
open PySem PySem.Spec PyProof.Rows L2
open Evl (Ex ex_l ex_t fresh_back)
abbrev s_NoNames___init__ : Stmt := inClass (top 10) 0
theorem sc_NoNames___init__ : FnScope ["self", "index"] ["self", "index"] (defScope s_NoNames___init__) := ⟨rfl, rfl, rfl, by decide +kernel, rfl, by decide +kernel, by decide +kernel⟩
theorem ok_ini_NoNames {P : Program} {w : World} {K : PySem.W.Frag} {mg : Str → Option Value} {base : Heap} {CL C0 : Addr} {f : Addr} {fd : FuncData} (F : Fun K "__init__" "NoNames.__init__" s_NoNames___init__ f fd) (m_ChannelError : mg "ChannelError" = some (.ref C0)) (BC : BaseC K C0) (hno : PySem.W.findIn K (.ref CL) "index" = some none) : FnOk P w K mg base CX0 1 f fd ["self", "index"] (spExInit K CL "index") := by
  refine F.ok sc_NoNames___init__ (fun vs H Q E h => ?_) (fun cdv A outer s H vs Q E hr h => ?_)
  · obtain ⟨a, v, rfl, _⟩ := h
    rfl
  · obtain ⟨a, v, rfl, ha, T, k⟩ := h
    refine ⟨_, (pss_cons (ps_expr (pe_oeinit (K := K) m_ChannelError BC (pa_cons (pv 0) (pa_cons pe_str pa_nil))))
      (pss_one (ps_ost (pv 0) (pv 1) rfl))), ?_⟩
    walk_at "go"
    refine n_vei ?_
    walk_at "go"
    refine ⟨a, CL, _, rfl, by simp, T, ha, ?_⟩
    refine s_ost ?_
    walk_at "go"
    exact ⟨a, CL, rfl, T, hno, .inl ⟨ha, fun dx h1 h2 => k dx h1 h2⟩⟩
/-- one of two stations is none -/
def spBad2 (C CS : Addr) : Sp := fun vs H Q E => ∃ (a : Addr) (n : Nat) (ks : List Pr) (v u : V), vs = [.ref a, v, u] ∧ NetAt C H a n ks ∧ ((OddSt H n v ∧ Thr E CS "station" v H) ∨ (OkSt n v ∧ OddSt H n u ∧ Thr E CS "station" u H))
def spWoX (C CS CN : Addr) : Sp := fun vs H Q E => ∃ (a : Addr) (n : Nat) (ks : List Pr) (v : V), vs = [.ref a, v] ∧ NetAt C H a n ks ∧ ((OddSt H n v ∧ Thr E CS "station" v H) ∨ (OkSt n v ∧ n = 1 ∧ Thr E CN "index" (.int (-1)) H))
/-- no list of n items -/
def BadL (H : Hp) (n : Nat) (v : V) : Prop := ∃ ty, OddV H v ty ∧ (ty = "list" → ∃ t xs, v = .ref t ∧ H t = some (.lst xs) ∧ xs.length ≠ n)
def spRenX (C CM : Addr) : Sp := fun vs H Q E => ∃ (a : Addr) (n : Nat) (ks : List Pr) (v : V), vs = [.ref a, v] ∧ NetAt C H a n ks ∧ ((BadL H n v ∧ Thr E CM "index" (.int (-1)) H) ∨
  ∃ (p : Addr) (xs : List V) (ns : List Int) (x : V) (ty : String), v = .ref p ∧ H p = some (.lst xs) ∧ xs.length = n ∧ xs.take ns.length = ns.map V.int ∧ xs[ns.length]? = some x ∧ (∀ i ∈ ns, 0 ≤ i ∧ i < (n : Int)) ∧ ns.Nodup ∧ OddV H x ty ∧ (ty = "int" → ∃ i, x = .int i ∧ (¬ (0 ≤ i ∧ i < (n : Int)) ∨ i ∈ ns)) ∧ Thr E CM "index" (.int (ns.length : Int)) H)
section
variable {P : Program} {w : World} {K : PySem.W.Frag} {mg : Str → Option Value} {base : Heap} {C CS CN CM CL : Addr}
theorem ok_linkOfX {f : Addr} {fd : FuncData} (F : Fun K "link_of" "link_of" s_link_of f fd) (T : Txt mg) (NC : NetC K C) (M_check_station : Mth P w K mg base 3 C "check_station" ["self", "station"] (spChkX C CS)) (X_NoLink : Exn P w K mg base "NoLink" CL "link") : FnOk P w K mg base (L2.CX P w) 4 f fd ["network", "one", "other"] (spBad2 C CS) := by
  refine F.okX sc_link_of (fun vs H Q E h => ?_) (fun cdv A outer s H vs Q E hr h => ?_)
  · obtain ⟨a, n, ks, v, u, rfl, _⟩ := h
    rfl
  · obtain ⟨a, n, ks, v, u, rfl, N, h⟩ := h
    refine ⟨_, (pss_cons (ps_expr (pe_mth (pv 0) M_check_station NC.cl (hr.mono (by first | decide | omega)) (passE (takes_of rfl rfl rfl rfl) fun _ _ _ _ z => z) (pa_cons (pv 1) pa_nil)))
      (pss_cons (ps_expr (pe_mth (pv 0) M_check_station NC.cl (hr.mono (by first | decide | omega)) (passE (takes_of rfl rfl rfl rfl) fun _ _ _ _ z => z) (pa_cons (pv 2) pa_nil)))
      (pss_cons (ps_if (pt_cmpR op_eq (pv 1) (pv 2) (nomark _)) (pss_one (ps_raiseE (K := K) rfl (takes_of rfl rfl rfl rfl) X_NoLink (hr.mono (by first | decide | omega)) (pa_cons (pe_tup (pa_cons (pv 1) (pa_cons (pv 2) pa_nil))) pa_nil))) pss_nil)
      (pss_one (ps_ret (pe_tup (pa_cons (pe_callB (call_minN rfl) (by rfl) T.n_min (by decide +kernel) (pa_cons (pv 1) (pa_cons (pv 2) pa_nil))) (pa_cons (pe_callB (call_maxN rfl) (by rfl) T.n_max (by decide +kernel) (pa_cons (pv 1) (pa_cons (pv 2) pa_nil))) pa_nil)))))))), ?_⟩
    walk_at "go"
    refine ⟨N.ins (by decide) (by decide), ?_⟩
    walk_at "go"
    rcases h with ⟨ho, kE⟩ | ⟨hk, ho, kE⟩
    · exact ⟨a, n, ks, v, rfl, N, .inr ⟨ho, fun d H' e hd => kE d H' e hd⟩⟩
    · refine ⟨a, n, ks, v, rfl, N, .inl ⟨hk, fun H1 e1 => ?_⟩⟩
      walk_at "go"
      refine ⟨(N.mono e1).ins (by decide) (by decide), ?_⟩
      walk_at "go"
      obtain ⟨t, o1, o2⟩ := ho
      exact ⟨a, n, ks, u, rfl, N.mono e1, .inr ⟨⟨t, o1.mono e1, o2⟩, fun d H' e hd => kE d H' (e1.trans e) hd⟩⟩
theorem ok_linkedX {f : Addr} {fd : FuncData} (F : Fun K "linked" "linked" s_linked f fd) (T : Txt mg) (NC : NetC K C) (M_len : Mth P w K mg base 1 C "__len__" ["self"] (spLen C)) (M_links : Mth P w K mg base 1 C "links" ["self"] (spLinks C))
    (c_Network : Cnw P w K mg base 3 "Network" C ["self", "stations", "links"] (spInit C)) (c_link_of : Cal P w K mg base 4 "link_of" ["network", "one", "other"] [] (spBad2 C CS)) (X_NoLink : Exn P w K mg base "NoLink" CL "link") : FnOk P w K mg base (L2.CX P w) 5 f fd ["network", "one", "other"] (spBad2 C CS) := by
  refine F.okX sc_linked (fun vs H Q E h => ?_) (fun cdv A outer s H vs Q E hr h => ?_)
  · obtain ⟨a, n, ks, v, u, rfl, _⟩ := h
    rfl
  · obtain ⟨a, n, ks, v, u, rfl, N, h⟩ := h
    have hu65 : ∀ X : Cx, X.A = A.deeper (envOfC "linked" (defScope s_linked) s.heap.objs.size f cdv) → X.A.units + 65 < cLine := fun X e => by rw [e]; have := hr.un; omega
    refine ⟨_, (pss_cons (ps_set (i := 3) sc_linked.nd rfl (Or.inl rfl) (pe_cal c_link_of (hr.mono (by first | decide | omega)) (passE (takes_of rfl rfl rfl rfl) fun _ _ _ _ z => z) (pa_cons (pv 0) (pa_cons (pv 1) (pa_cons (pv 2) pa_nil)))))
      (pss_cons (ps_if (pt_cmpR (op_inD (hu65 _ rfl)) (pv 3) (pe_mth0 (pv 0) M_links NC.cl (hr.mono (by first | decide | omega)) passN) rfl) (pss_one (ps_raiseE (K := K) rfl (takes_of rfl rfl rfl rfl) X_NoLink (hr.mono (by first | decide | omega)) (pa_cons (pe_tup (pa_cons (pv 1) (pa_cons (pv 2) pa_nil))) pa_nil))) pss_nil)
      (pss_one (ps_ret (pe_new c_Network (hr.mono (by first | decide | omega)) passN (pa_cons (pe_callB (call_lenNet NC M_len (hr.mono (by first | decide | omega))) (by rfl) T.n_len (by decide +kernel) (pa_cons (pv 0) pa_nil)) (pa_cons (pe_op op_catL (pe_mth0 (pv 0) M_links NC.cl (hr.mono (by first | decide | omega)) passN) (pe_lst (pa_cons (pv 3) pa_nil))) pa_nil))))))), ?_⟩
    walk_at "go"
    exact ⟨a, n, ks, v, u, rfl, N, h⟩
theorem ok_unlinkedX {f : Addr} {fd : FuncData} (F : Fun K "unlinked" "unlinked" s_unlinked f fd) (T : Txt mg) (NC : NetC K C) (M_len : Mth P w K mg base 1 C "__len__" ["self"] (spLen C)) (M_links : Mth P w K mg base 1 C "links" ["self"] (spLinks C))
    (c_Network : Cnw P w K mg base 3 "Network" C ["self", "stations", "links"] (spInit C)) (c_link_of : Cal P w K mg base 4 "link_of" ["network", "one", "other"] [] (spBad2 C CS)) (X_NoLink : Exn P w K mg base "NoLink" CL "link") : FnOk P w K mg base (L2.CX P w) 5 f fd ["network", "one", "other"] (spBad2 C CS) := by
  refine F.okX sc_unlinked (fun vs H Q E h => ?_) (fun cdv A outer s H vs Q E hr h => ?_)
  · obtain ⟨a, n, ks, v, u, rfl, _⟩ := h
    rfl
  · obtain ⟨a, n, ks, v, u, rfl, N, h⟩ := h
    have hu65 : ∀ X : Cx, X.A = A.deeper (envOfC "unlinked" (defScope s_unlinked) s.heap.objs.size f cdv) → X.A.units + 65 < cLine := fun X e => by rw [e]; have := hr.un; omega
    refine ⟨_, (pss_cons (ps_set (i := 3) sc_unlinked.nd rfl (Or.inr rfl) (pe_cal c_link_of (hr.mono (by first | decide | omega)) (passE (takes_of rfl rfl rfl rfl) fun _ _ _ _ z => z) (pa_cons (pv 0) (pa_cons (pv 1) (pa_cons (pv 2) pa_nil)))))
      (pss_cons (ps_if (pt_cmpR (op_notInD (hu65 _ rfl)) (pv 3) (pe_mth0 (pv 0) M_links NC.cl (hr.mono (by first | decide | omega)) passN) rfl) (pss_one (ps_raiseE (K := K) rfl (takes_of rfl rfl rfl rfl) X_NoLink (hr.mono (by first | decide | omega)) (pa_cons (pe_tup (pa_cons (pv 1) (pa_cons (pv 2) pa_nil))) pa_nil))) pss_nil)
      (pss_one (ps_ret (pe_new c_Network (hr.mono (by first | decide | omega)) passN (pa_cons (pe_callB (call_lenNet NC M_len (hr.mono (by first | decide | omega))) (by rfl) T.n_len (by decide +kernel) (pa_cons (pv 0) pa_nil)) (pa_cons (pe_lc (own := [("kept", 4)]) (by rfl) sc_unlinked.nd (pi_list (pe_mth0 (pv 0) M_links NC.cl (hr.mono (by first | decide | omega)) passN)) (blkOk_by (own := [("kept", 4)]) (N := ["network", "one", "other", "link", "kept"]) (sc := defScope s_unlinked) (by decide +kernel)) (fun _ _ _ _ _ => (pg_name (i := 4) sc_unlinked.nd rfl (Or.inl rfl))) (fun _ _ _ _ _ => (pts_one (pt_cmpR (op_neDK (K := K) (Nat.lt_of_succ_lt (hu65 _ rfl))) (pv 4) (pv 3) (nomark _)))) (fun _ _ _ _ _ => (pv 4))) pa_nil))))))), ?_⟩
    walk_at "go"
    exact ⟨a, n, ks, v, u, rfl, N, h⟩
theorem ok_woX {f : Addr} {fd : FuncData} (F : Fun K "without" "without" s_without f fd) (T : Txt mg) (NC : NetC K C) (M_len : Mth P w K mg base 1 C "__len__" ["self"] (spLen C)) (M_links : Mth P w K mg base 1 C "links" ["self"] (spLinks C))
    (M_check_station : Mth P w K mg base 3 C "check_station" ["self", "station"] (spChkX C CS)) (c_Network : Cnw P w K mg base 3 "Network" C ["self", "stations", "links"] (spInit C)) (X_NoNetwork : Exn P w K mg base "NoNetwork" CN "index") : FnOk P w K mg base (L2.CX P w) 5 f fd ["network", "station"] (spWoX C CS CN) := by
  refine F.okX sc_without (fun vs H Q E h => ?_) (fun cdv A outer s H vs Q E hr h => ?_)
  · obtain ⟨a, n, ks, v, rfl, _⟩ := h
    rfl
  · obtain ⟨a, n, ks, v, rfl, N, h⟩ := h
    refine ⟨_, (pss_cons (ps_expr (pe_mth (pv 0) M_check_station NC.cl (hr.mono (by first | decide | omega)) (passE (takes_of rfl rfl rfl rfl) fun _ _ _ _ z => z) (pa_cons (pv 1) pa_nil)))
      (pss_cons (ps_if (pt_cmpR op_eq (pe_callB (call_lenNet NC M_len (hr.mono (by first | decide | omega))) (by rfl) T.n_len (by decide +kernel) (pa_cons (pv 0) pa_nil)) pe_int (nomark _)) (pss_one (ps_raiseE (K := K) rfl (takes_of rfl rfl rfl rfl) X_NoNetwork (hr.mono (by first | decide | omega)) (pa_cons (pe_un un_neg pe_int) pa_nil))) pss_nil)
      (pss_cons (ps_setLc (i := 2) (own := [("link", 4)]) (by rfl) sc_without.nd rfl rfl (sw_true rfl rfl rfl (by decide +kernel)) (pi_list (pe_mth0 (pv 0) M_links NC.cl (hr.mono (by first | decide | omega)) passN)) (blkOk_by (own := [("link", 4)]) (N := ["network", "station", "kept", "links", "link", "one", "other"]) (sc := defScope s_without) (by decide +kernel)) (fun _ _ _ _ _ => (pg_name (i := 4) sc_without.nd rfl (Or.inl rfl))) (fun _ _ _ _ _ => (pts_one (pt_cmpR (op_notIn_seqK (K := K)) (pv 1) (pv 4) rfl))) (fun _ _ _ _ _ => (pv 4)))
      (pss_cons (ps_setLc (i := 3) (own := [("one", 5), ("other", 6)]) (by rfl) sc_without.nd rfl rfl (sw_true rfl rfl rfl (by decide +kernel)) (pi_list (pv 2)) (blkOk_by (own := [("one", 5), ("other", 6)]) (N := ["network", "station", "kept", "links", "link", "one", "other"]) (sc := defScope s_without) (by decide +kernel)) (fun _ _ _ _ _ => (pg_tupK (K := K) (n := 2) rfl (pgs_cons (pg_name (i := 5) sc_without.nd rfl (Or.inl rfl)) (pgs_cons (pg_name (i := 6) sc_without.nd rfl (Or.inl rfl)) pgs_nil)))) (fun _ _ _ _ _ => pts_nil) (fun _ _ _ _ _ => (pe_tup (pa_cons (pe_op op_sub (pv 5) (pe_callTy call_intN (by rfl) T.n_int (by decide +kernel) (pa_cons (pe_cmpR op_gt (pv 5) (pv 1) (nomark _)) pa_nil))) (pa_cons (pe_op op_sub (pv 6) (pe_callTy call_intN (by rfl) T.n_int (by decide +kernel) (pa_cons (pe_cmpR op_gt (pv 6) (pv 1) (nomark _)) pa_nil))) pa_nil)))))
      (pss_one (ps_ret (pe_new c_Network (hr.mono (by first | decide | omega)) passN (pa_cons (pe_op op_sub (pe_callB (call_lenNet NC M_len (hr.mono (by first | decide | omega))) (by rfl) T.n_len (by decide +kernel) (pa_cons (pv 0) pa_nil)) pe_int) (pa_cons (pv 3) pa_nil))))))))), ?_⟩
    walk_at "go"
    refine ⟨N.ins (by decide) (by decide), ?_⟩
    walk_at "go"
    rcases h with ⟨ho, kE⟩ | ⟨hk, hn, kE⟩
    · exact ⟨a, n, ks, v, rfl, N, .inr ⟨ho, fun d H' e hd => kE d H' e hd⟩⟩
    · refine ⟨a, n, ks, v, rfl, N, .inl ⟨hk, fun H1 e1 => ?_⟩⟩
      walk_at "go"
      refine n_lenNet (N.mono e1) ?_
      walk_at "go"
      refine if_tt (dtrue (by omega)) ?_
      refine s_raiseE ?_
      walk_at "go"
      exact n_raise X_NoNetwork.oex fun d H4 _ e4 hd => kE d H4 (e1.trans e4) hd
theorem ok_renX {f : Addr} {fd : FuncData} (F : Fun K "renamed" "renamed" s_renamed f fd) (T : Txt mg) (NC : NetC K C) (c_is_int : Cal P w K mg base 1 "is_int" ["value"] [] (spIsInt K)) (M_len : Mth P w K mg base 1 C "__len__" ["self"] (spLen C))
    (M_links : Mth P w K mg base 1 C "links" ["self"] (spLinks C)) (c_Network : Cnw P w K mg base 3 "Network" C ["self", "stations", "links"] (spInit C)) (X_NoNames : Exn P w K mg base "NoNames" CM "index") : FnOk P w K mg base (L2.CX P w) 5 f fd ["network", "names"] (spRenX C CM) := by
  refine F.okX sc_renamed (fun vs H Q E h => ?_) (fun cdv A outer s H vs Q E hr h => ?_)
  · obtain ⟨a, n, ks, v, rfl, _⟩ := h
    rfl
  · obtain ⟨a, n, ks, v, rfl, N, h⟩ := h
    refine ⟨_, (pss_cons (ps_if (PW.pt (pw_or (pt_not (pt_val (pe_callB call_isi (by rfl) T.n_isinstance (by decide +kernel) (pa_cons (pv 1) (pa_cons (pe_bltn (v := .ty "list") (by rfl) T.n_list (by decide +kernel) rfl) pa_nil))))) (pw_or1 (pt_cmpR op_ne (pe_callB call_lenN (by rfl) T.n_len (by decide +kernel) (pa_cons (pv 1) pa_nil)) (pe_callB (call_lenNet NC M_len (hr.mono (by first | decide | omega))) (by rfl) T.n_len (by decide +kernel) (pa_cons (pv 0) pa_nil)) (nomark _))))) (pss_one (ps_raiseE (K := K) rfl (takes_of rfl rfl rfl rfl) X_NoNames (hr.mono (by first | decide | omega)) (pa_cons (pe_un un_neg pe_int) pa_nil))) pss_nil)
      (pss_cons (ps_for (passes_of rfl) rfl (pi_enum (by rfl) T.n_enumerate (pa_cons (pv 1) pa_nil)) (pg_tup (n := 2) rfl (pgs_cons (pg_name (i := 2) sc_renamed.nd rfl (Or.inl rfl)) (pgs_cons (pg_name (i := 3) sc_renamed.nd rfl (Or.inl rfl)) pgs_nil))) (pss_one (ps_if (PW.pt (pw_or (pt_not (pt_val (pe_cal c_is_int (hr.mono (by first | decide | omega)) passN (pa_cons (pv 3) pa_nil)))) (pw_or (pt_not (pt_chain op_le op_lt pe_int (pv 3) (pe_callB (call_lenNet NC M_len (hr.mono (by first | decide | omega))) (by rfl) T.n_len (by decide +kernel) (pa_cons (pv 0) pa_nil)))) (pw_or1 (pt_cmpR op_in_seq (pv 3) (pe_slice sl_list (pv 1) po_none (po_some (pv 2))) rfl))))) (pss_one (ps_raiseE (K := K) rfl (takes_of rfl rfl rfl rfl) X_NoNames (hr.mono (by first | decide | omega)) (pa_cons (pv 2) pa_nil))) pss_nil)))
      (pss_cons (ps_setLc (i := 4) (own := [("one", 5), ("other", 6)]) (by rfl) sc_renamed.nd rfl rfl (sw_true rfl rfl rfl (by decide +kernel)) (pi_list (pe_mth0 (pv 0) M_links NC.cl (hr.mono (by first | decide | omega)) passN)) (blkOk_by (own := [("one", 5), ("other", 6)]) (N := ["network", "names", "index", "name", "links", "one", "other", "link"]) (sc := defScope s_renamed) (by decide +kernel)) (fun _ _ _ _ _ => (pg_tupK (K := K) (n := 2) rfl (pgs_cons (pg_name (i := 5) sc_renamed.nd rfl (Or.inl rfl)) (pgs_cons (pg_name (i := 6) sc_renamed.nd rfl (Or.inl rfl)) pgs_nil)))) (fun _ _ _ _ _ => pts_nil) (fun _ _ _ _ _ => (pe_tup (pa_cons (pe_ix (ix_listK (K := K)) (pv 1) (pv 5) (fun _ _ => rfl)) (pa_cons (pe_ix (ix_listK (K := K)) (pv 1) (pv 6) (fun _ _ => rfl)) pa_nil)))))
      (pss_one (ps_ret (pe_new c_Network (hr.mono (by first | decide | omega)) passN (pa_cons (pe_callB (call_lenNet NC M_len (hr.mono (by first | decide | omega))) (by rfl) T.n_len (by decide +kernel) (pa_cons (pv 0) pa_nil)) (pa_cons (pe_lc (own := [("link", 7)]) (by rfl) sc_renamed.nd (pi_list (pv 4)) (blkOk_by (own := [("link", 7)]) (N := ["network", "names", "index", "name", "links", "one", "other", "link"]) (sc := defScope s_renamed) (by decide +kernel)) (fun _ _ _ _ _ => (pg_name (i := 7) sc_renamed.nd rfl (Or.inl rfl))) (fun _ _ _ _ _ => pts_nil) (fun _ _ _ _ _ => (pe_tup (pa_cons (pe_callB (cr_minT (K := K) rfl) (by rfl) T.n_min (by decide +kernel) (pa_cons (pv 7) pa_nil)) (pa_cons (pe_callB (cr_maxT (K := K) rfl) (by rfl) T.n_max (by decide +kernel) (pa_cons (pv 7) pa_nil)) pa_nil))))) pa_nil)))))))), ?_⟩
    rcases h with ⟨⟨ty, ho, hb⟩, kE⟩ | ⟨p, xs, ns, x, ty, rfl, hp, hxl, htk, hx, hin, hnd, ho, hi, kE⟩
    · obtain ⟨k1, k2⟩ := (ho.isT : IsT K H v ty)
      walk_at "go"
      refine ⟨_, _, _, _, _, rfl, .ty _, k1, kit_ty (kit_int k2).2.2.2, ?_⟩
      walk_at "go"
      by_cases c : ty = "list"
      · subst c
        obtain ⟨t, xs, rfl, ht, hl⟩ := hb rfl
        refine if_ff (by decide +kernel) ?_
        walk_at "go"
        refine n_len (SqL.of ht) ?_
        walk_at "go"
        refine n_lenNet N ?_
        walk_at "go"
        refine if_tt (nfalse (by omega)) ?_
        refine s_raiseE ?_
        walk_at "go"
        exact n_raise X_NoNames.oex fun d H4 _ e4 hd => kE d H4 e4 hd
      · have e : (ty == "list") = false := by simp [c]
        rw [e]
        walk_at "go"
        refine s_raiseE ?_
        walk_at "go"
        exact n_raise X_NoNames.oex fun d H4 _ e4 hd => kE d H4 e4 hd
    · have hnl : ns.length < n := by
        have := (List.getElem?_eq_some_iff.mp hx).1
        omega
      walk_at "go"
      refine n_isiLst hp ?_
      walk_at "go"
      refine n_len (SqL.of hp) ?_
      walk_at "go"
      refine n_lenNet N ?_
      walk_at "go"
      refine if_ff (ntrue (by omega)) ?_
      walk_at "go"
      refine w_enum (fun i σ' H' => (∃ x1 x2 x3 x4 x5 x6, σ' = [some (.ref a), some (.ref p), x1, x2, x3, x4, x5, x6]) ∧ Own H [] H' ∧ i ≤ ns.length) (SqL.of hp) ⟨⟨_, _, _, _, _, _, rfl⟩, Own.start H, Nat.zero_le _⟩ (fun i σ' H' h => SqL.of (h.2.1.ex _ _ hp)) ?_ ?_
      · rintro i y T' σ' H' hy ⟨⟨x1, x2, x3, x4, x5, x6, rfl⟩, S, hil⟩ hT
        have S1 := S.grow (Ex.new (o := .tup [.int (i : Int), y]) hT)
        refine s_gtup (SqT.of upd_same) rfl ?_
        walk_at "go"
        have fin : ∀ (σ2 : L2.St) (H2 : Hp), Ex H H2 → i = ns.length → RAISE K CM "index" (fun cls d _ H => E cls d H) σ2 [.int (i : Int)] H2 := fun σ2 H2 e2 hjl => n_raise X_NoNames.oex fun d H4 _ e4 hd => by
          subst hjl
          exact kE d H4 (e2.trans e4) hd
        have hz : ∀ z : Int, y = .int z → (i < ns.length ∧ 0 ≤ z ∧ z < (n : Int) ∧ z ∉ ns.take i) ∨ (i = ns.length ∧ (¬ (0 ≤ z ∧ z < (n : Int)) ∨ z ∈ ns)) := fun z ez => by
          subst ez
          by_cases c : i < ns.length
          · have h1 : (ns.map V.int)[i]? = some (.int z) := by rw [← htk, List.getElem?_take, if_pos c]; exact hy
            obtain ⟨z', hz', e⟩ := get_map h1
            cases e
            have := hin z (List.mem_of_getElem? hz')
            exact .inl ⟨c, this.1, this.2, nodup_take hnd hz'⟩
          · have hi' : i = ns.length := by omega
            subst hi'
            rw [hx] at hy
            cases hy
            refine .inr ⟨rfl, ?_⟩
            by_cases c2 : ty = "int"
            · obtain ⟨i2, e2, h2⟩ := hi c2
              cases e2
              exact h2
            · cases ho
              exact absurd rfl c2
        have hcase : (∃ z, y = .int z) ∨ (i = ns.length ∧ y = x ∧ ty ≠ "int") := by
          by_cases c : i < ns.length
          · have h1 : (ns.map V.int)[i]? = some y := by rw [← htk, List.getElem?_take, if_pos c]; exact hy
            obtain ⟨z', hz', e⟩ := get_map h1
            exact .inl ⟨z', e⟩
          · have hi' : i = ns.length := by omega
            subst hi'
            rw [hx] at hy
            cases hy
            by_cases c2 : ty = "int"
            · obtain ⟨i2, e2, h2⟩ := hi c2
              exact .inl ⟨i2, e2⟩
            · exact .inr ⟨rfl, rfl, c2⟩
        rcases hcase with ⟨z, rfl⟩ | ⟨hil2, rfl, hne⟩
        · have hz := hz z rfl
          refine g_isint ?_
          walk_at "go"
          by_cases c0 : 0 ≤ z
          · refine if_tt (dtrue c0) ?_
            walk_at "go"
            refine n_lenNet (N.mono S1.ex) ?_
            walk_at "go"
            by_cases c1 : z < (n : Int)
            · refine if_ff (ntrue c1) ?_
              walk_at "go"
              refine n_sl S1 (SqL.of (S1.ex _ _ hp)) fun p2 G2 H2 _ e2 _ hp2 S2 => ?_
              have hcut : cutV xs none (some ((i : Nat) : Int)) = (ns.take i).map V.int := by
                rw [cutV_to, List.map_take, ← htk, List.take_take, Nat.min_eq_left hil]
              rw [hcut] at hp2
              refine n_inIL (SqL.of (S2.ex _ _ hp2)) ?_
              rcases hz with ⟨hl, _, _, hni⟩ | ⟨hl, hbad⟩
              · rw [dfalse hni]
                walk_at "go"
                exact ⟨⟨_, _, _, _, _, _, rfl⟩, (Own.start H).grow (e2.trans S2.ex), by omega⟩
              · have hm : z ∈ ns := by
                  rcases hbad with h | h
                  · exact absurd ⟨c0, c1⟩ h
                  · exact h
                subst hl
                rw [List.take_length, dtrue hm]
                walk_at "go"
                refine s_raiseE ?_
                walk_at "go"
                exact fin _ _ (e2.trans S2.ex) rfl
            · refine if_tt (nfalse c1) ?_
              rw [if_pos rfl]
              refine s_raiseE ?_
              walk_at "go"
              exact fin _ _ S1.ex (by rcases hz with ⟨_, _, h, _⟩ | ⟨h, _⟩ <;> first | exact h | omega)
          · refine if_ff (dfalse c0) ?_
            walk_at "go"
            refine s_raiseE ?_
            walk_at "go"
            exact fin _ _ S1.ex (by rcases hz with ⟨_, h, _⟩ | ⟨h, _⟩ <;> first | exact h | omega)
        · refine ⟨y, ty, rfl, (ho.mono S1.ex).isT, ?_⟩
          walk_at "go"
          have e : (ty == "int") = false := by simp [hne]
          rw [e]
          walk_at "go"
          refine s_raiseE ?_
          walk_at "go"
          exact fin _ _ S1.ex hil2
      · rintro σ' H' ⟨_, _, hil⟩
        omega
end
end NX

namespace NX
open PySem PySem.Spec PyProof.Rows L2
open LamX (TabB)
/-! ### the end of a law that makes lambdas and shows values -/
section
variable {P : Program} {w : World} {K : PySem.W.Frag} {mg : Str → Option Value} {base : Heap}
theorem okGC {x qual : Str} {st : Stmt} {f : Addr} {fd : FuncData} {c : Addr} {N ps : List Str} {k : Nat} {sp : Sp} (F : FunC K x qual st f fd c) (S : FnScope N ps (defScope st)) (len : ∀ vs H Q E, sp vs H Q E → vs.length = ps.length)
    (hbody : ∀ (A : Around) (outer : List Env) (s : Shared) (H : Hp) (vs : List V) (Q : VK) (E : XK), A.guards = some [] → Room k (A.deeper (envOfC qual (defScope st) s.heap.objs.size f (.ref c))) → sp vs H Q E →
      ∃ t, PSs (cxOf CX0 P w K mg base N qual (defScope st) f (.ref c) A outer s H E).nox (defBody st) t ∧ t { nx := fun _ H' => Q .non H', rt := Q } (L2.start N vs) H) : FnOkG P w K mg base (k + 1) f fd ps sp := by
  obtain ⟨oc, od, kV, doc, pm, an, ct, osl, rfl, lk, hcd⟩ := F.ex
  exact okG0 lk hcd S len hbody
end
/-- the tables' addresses -/
abbrev tbs (cs : List (Addr × Addr)) : List Addr := cs.map Prod.snd
theorem call_tabsG {P : Program} {w : World} {K : PySem.W.Frag} {mg mb : Str → Option Value} {k : Nat} {fa a : Addr} {cs : List (Addr × Addr)} {fd : FuncData} {x : Str} {sp : Sp} {s1 : Shared} {vs : List Value} {ns : List Int}
    (inK : K.In s1.heap) (nsG : s1.heap.Ns mainGlobals mg) (nsB : s1.heap.Ns builtinsNs mb) (boot : ∀ x : Str, x ≠ "__name__" → mb x = bootBuiltins x) (lim : s1.heap.NoLimit) (gens : s1.gens = #[])
    (tab : ∀ p ∈ cs, s1.heap.get? p.2 = some { cls := .none, data := .fields #[] }) (tabK : ∀ p ∈ cs, K.lookup p.2 = none) (code : ∀ p ∈ cs, PySem.W.CodeHd s1.heap p.1 p.2)
    (bmod : ∃ (bm : Addr) (ob : Obj), mg "__builtins__" = some (.ref bm) ∧ bm ≠ builtinsNs ∧ s1.heap.get? bm = some ob ∧ ob.cls = .type "module" ∧ ob.dict = some builtinsNs ∧ ob.data = .plain)
    (script : s1.heap.get? a = some { cls := .type "list", data := .seq vs.toArray }) (nums : IntsAre vs ns) (few : ns.length ≤ sizeLine) (room : Room k callerA)
    (F : ∀ base : Heap, K.In base → base.Ns mainGlobals mg → (∀ p ∈ cs, TabB base mg p.1 p.2) → FnOkG P w K mg base k fa fd [x] sp) (hbind : ∀ (s : Shared) (u : Value), BindsTo s fd ⟨[u], []⟩ [(x, u)])
    (ask : ∀ H : Hp, (∀ p ∈ cs, H p.2 = some (.tbl #[])) → SqL K H a (ns.map V.int) → sp [.ref a] H (fun v _ => v = .bl true) fun _ _ _ => False) :
    codeAny (model P w) callerA (.call (.ref fa) ⟨[.ref a], []⟩) (fun r s' => r = .ok (.ret (.bool true)) ∧ OldK s1.heap s'.heap ∧ s'.os = s1.os ∧ AllBare s'.gens) s1 := by
  have tabA : ∀ b ∈ tbs cs, s1.heap.get? b = some { cls := .none, data := .fields #[] } := by
    intro b hb
    obtain ⟨p, hp, rfl⟩ := List.mem_map.mp hb
    exact tab p hp
  have aOut : a ∉ tbs cs := by
    intro m
    have z := (tabA a m).symm.trans script
    injection z with z
    injection z with _ _ z
    cases z
  -- H: the tables, and it may be the script
  have go : ∀ H : Hp, (∀ b u, H b = some u → (b ∈ tbs cs ∧ u = .tbl #[]) ∨ (b = a ∧ K.lookup a = none ∧ ∃ o xs, u = .frz o (.lst xs))) → (∀ b ∈ tbs cs, H b = some (.tbl #[])) → SqL K H a (ns.map V.int) → HOk P w H s1.heap →
      codeAny (model P w) callerA (.call (.ref fa) ⟨[.ref a], []⟩) (fun r s' => r = .ok (.ret (.bool true)) ∧ OldK s1.heap s'.heap ∧ s'.os = s1.os ∧ AllBare s'.gens) s1 := by
    intro H kinds hT hS ok
    have free : ∀ {b : Addr} {o : Obj}, s1.heap.get? b = some o → (∀ us m, o.data = .seq us m → False) → (o.data = .fields #[] → False) → H b = none := by
      intro b o e n1 n2
      rcases q : H b with _ | u
      · rfl
      · exfalso
        rcases kinds b u q with ⟨m, _⟩ | ⟨rfl, _⟩
        · have z := (tabA b m).symm.trans e
          injection z with z
          exact n2 (by rw [← z])
        · have z := script.symm.trans e
          injection z with z
          exact n1 _ _ (by rw [← z])
    have freeD : ∀ {b : Addr} {o : Obj} {es : Array DictEntry} {ep : Nat}, s1.heap.get? b = some o → o.data = .dict es ep → H b = none := by
      intro b o es ep e d
      exact free e (fun us m z => by rw [d] at z; exact nomatch z) (fun z => by rw [d] at z; exact nomatch z)
    have names : ∀ {b : Addr} {m : Str → Option Value}, s1.heap.Ns b m → (hidT s1.heap H).Ns b m := by
      rintro b m ⟨o, es, ep, e, d, r⟩
      exact ⟨o, es, ep, hidT_get e (freeD e d), d, r⟩
    have inB : K.In (hidT s1.heap H) := by
      intro b o e
      refine hidT_get (inK b o e) ?_
      rcases q : H b with _ | u
      · rfl
      · exfalso
        rcases kinds b u q with ⟨m, _⟩ | ⟨rfl, z, _⟩
        · obtain ⟨p, hp, rfl⟩ := List.mem_map.mp m
          exact nomatch (tabK p hp).symm.trans e
        · exact nomatch z.symm.trans e
    have mod : L2.Mod K mg (hidT s1.heap H) := by
      obtain ⟨mc, l1, l2⟩ := lim
      exact ⟨inB, names nsG, ⟨mb, names nsB, boot⟩, mc, names l1, l2⟩
    have tabs : ∀ p ∈ cs, TabB (hidT s1.heap H) mg p.1 p.2 := by
      intro p hp
      have own := tab p hp
      refine ⟨?_, ?_, ?_⟩
      · obtain ⟨o, us, file, tf, flags, tg, inF, text, tt, e1, r1, r2, r3, rest⟩ := code p hp
        refine ⟨o, us, file, tf, flags, tg, inF, text, tt, hidT_get e1 (free e1 (fun vs n z => ?_) fun z => ?_), r1, r2, r3, rest⟩
        · exact nomatch r2.symm.trans z
        · have z := r2.symm.trans z
          injection z with z
          rw [z] at r3
          exact nomatch r3
      · obtain ⟨bm, ob, b1, b2, b3, b4, b5, b6⟩ := bmod
        refine ⟨bm, ob, b1, b2, ?_, ?_, hidT_get b3 (free b3 (fun vs n z => nomatch b6.symm.trans z) fun z => nomatch b6.symm.trans z), b4, b5, b6⟩
        · rintro rfl
          obtain ⟨o, es, ep, e, hd, _⟩ := nsG
          have z := b3.symm.trans e
          injection z with z
          exact nomatch b6.symm.trans ((congrArg Obj.data z).trans hd)
        · rintro rfl
          have z := b3.symm.trans own
          injection z with z
          exact nomatch b6.symm.trans (congrArg Obj.data z)
      · intro z
        obtain ⟨o, es, ep, e, hd, _⟩ := nsG
        rw [← z] at own
        have z := own.symm.trans e
        injection z with z
        exact nomatch (congrArg Obj.data z).trans hd
    have env : Env0 P w K mg (hidT s1.heap H) callerA [] s1 H := ⟨rfl, mod, fun _ _ e => of_hidT e, Nat.le_of_eq (hidT_size _ _), trivial, fun _ m => absurd m List.not_mem_nil, ok, .of_eq gens⟩
    refine codeAny_mono ((F _ inB (names nsG) tabs).run callerA [] s1 H ⟨[.ref a], []⟩ [.ref a] [.ref a] _ _ rfl room env (hbind s1 (.ref a)) (.cons rfl .nil) (ask H (fun p hp => hT _ (List.mem_map_of_mem hp)) hS)) ?_
    rintro (e | (_ | _ | _ | u)) s' h
    · exact h.elim
    · exact h.elim
    · exact h.elim
    · exact h.elim
    · obtain ⟨v, H', os, bare, un, ok', r', q⟩ := h
      obtain rfl : v = .bl true := q
      obtain rfl : u = Value.bool true := r'
      have old : ∀ b o, b ∉ tbs cs → s1.heap.get? b = some o → s'.heap.get? b = some o := by
        intro b o out e
        rcases q : H b with _ | u
        · exact un.keep b o e q (fun m => absurd m List.not_mem_nil) fun m => absurd m List.not_mem_nil
        · rcases kinds b u q with ⟨m, _⟩ | ⟨rfl, _, ob, xs, rfl⟩
          · exact absurd m out
          · have e1 := (ok b _ q).1
            have e2 := (ok' b _ (un.frzs b ob _ q)).1
            rw [e] at e1
            cases e1
            exact e2
      have more : ∀ b ∈ tbs cs, ∃ ps : Array Value, s'.heap.get? b = some { cls := .none, data := .fields ps } := by
        intro b m
        obtain ⟨ps, z⟩ := un.tbls b #[] (hT b m)
        exact ⟨_, ok' b _ z⟩
      refine ⟨rfl, ⟨fun b o e => ?_, fun b o e => ?_⟩, os, bare⟩
      · by_cases m : b ∈ tbs cs
        · obtain ⟨ps, z⟩ := more b m
          obtain ⟨p, hp, rfl⟩ := List.mem_map.mp m
          have z2 := (tab p hp).symm.trans e
          injection z2 with z2
          subst z2
          exact .inr (.inl ⟨((code p hp).tab (tab p hp)).isCodeTable, rfl, #[], ps, rfl, by rw [Array.empty_append]; exact z⟩)
        · exact .inl (old b o m e)
      · by_cases m : b ∈ tbs cs
        · obtain ⟨ps, z⟩ := more b m
          exact ⟨_, z⟩
        · exact ⟨o, old b o m e⟩
  have vals := vals_ints nums
  rcases hk : K.lookup a with _ | o
  · refine go (fun b => if b ∈ tbs cs then some (.tbl #[]) else if b = a then some (.frz { cls := .type "list", data := .seq vs.toArray } (.lst (ns.map V.int))) else none) ?_ ?_ ?_ ?_
    · intro b u z
      by_cases m : b ∈ tbs cs
      · simp only [if_pos m] at z
        exact .inl ⟨m, (Option.some.inj z).symm⟩
      · simp only [if_neg m] at z
        by_cases e : b = a
        · simp only [if_pos e] at z
          exact .inr ⟨e, hk, _, _, (Option.some.inj z).symm⟩
        · simp only [if_neg e] at z
          cases z
    · intro b m
      exact if_pos m
    · exact .inl (.inr ⟨{ cls := .type "list", data := .seq vs.toArray }, (if_neg aOut).trans (if_pos rfl)⟩)
    · intro b u z
      by_cases m : b ∈ tbs cs
      · simp only [if_pos m] at z
        cases z
        exact tabA b m
      · simp only [if_neg m] at z
        by_cases e : b = a
        · simp only [if_pos e] at z
          cases z
          subst e
          exact ⟨script, by rw [List.length_map]; exact few, vs, _, vals, script⟩
        · simp only [if_neg e] at z
          cases z
  · have e := (inK a o hk).symm.trans script
    injection e with e
    subst e
    refine go (fun b => if b ∈ tbs cs then some (.tbl #[]) else none) ?_ (fun b m => if_pos m) (.inr ⟨_, vs.toArray, _, hk, rfl, rfl, rfl, by rw [List.size_toArray, nums.length]; exact few, by simpa using vals⟩) ?_
    · intro b u z
      by_cases m : b ∈ tbs cs
      · simp only [if_pos m] at z
        exact .inl ⟨m, (Option.some.inj z).symm⟩
      · simp only [if_neg m] at z
        cases z
    · intro b u z
      by_cases m : b ∈ tbs cs
      · simp only [if_pos m] at z
        cases z
        exact tabA b m
      · simp only [if_neg m] at z
        cases z
/-- what is known of such a law's promise at the head's heap h -/
def LawTG (l : PySem.W.OpenLaw) (w : World) (K : PySem.W.Frag) (k : Nat) (mg : Str → Option Value) (fa : Addr) (h : Heap) : Prop :=
  ∃ (fd : FuncData) (cs : List (Addr × Addr)) (sp : Sp), (∀ p ∈ cs, h.get? p.2 = some { cls := .none, data := .fields #[] }) ∧ (∀ p ∈ cs, K.lookup p.2 = none) ∧ (∀ p ∈ cs, PySem.W.CodeHd h p.1 p.2) ∧ (∀ (s : Shared) (u : Value), BindsTo s fd ⟨[u], []⟩ [("_law_script", u)]) ∧
    (∀ (H : Hp) (a : Addr) (ns : List Int), ns.length ≤ 63 → (∀ p ∈ cs, H p.2 = some (.tbl #[])) → SqL K H a (ns.map V.int) → sp [.ref a] H (fun v _ => v = .bl true) fun _ _ _ => False) ∧
    ∀ base : Heap, K.In base → base.Ns mainGlobals mg → (∀ p ∈ cs, TabB base mg p.1 p.2) → FnOkG l.prog w K mg base k fa fd ["_law_script"] sp
theorem walkTG {l : PySem.W.OpenLaw} {q : Program} {loose : List Str} {XP : (Str → Option Value) → Heap → Prop} {YP : World → Heap → Prop} {d : DefRec} {K : Params → PySem.W.Frag} {k : Nat} (hn : l.most = some 63) (hdf : d.params.defaults = []) (hr : Room k callerA)
    (hY : ∀ (w : World) (h : Heap), YP w h → (K w.params).In h) (F : ∀ (w : World) (mg : Str → Option Value) (fa : Addr) (h : Heap), YP w h → (K w.params).In h → h.Ns mainGlobals mg → mg d.name = some (.ref fa) → LawTG l w (K w.params) k mg fa h) :
    PySem.W.WalkO q loose XP YP l.row.toRowW d [] (fun f vs => PySem.call f vs) := by
  refine Att.attach_callB hn hdf fun w s₀ s₁ mg mb fa o pm cd doc a vs ns G Y ho hd hcd hmg hobj hints hlen hbits hg => ?_
  have KX := hY w _ Y
  obtain ⟨fd, cs, sp, hT, nT, C, hb, hsp, hF⟩ := F w mg fa _ Y KX G.T.g hmg
  exact call_tabsG KX G.T.g G.T.b G.T.builtins G.T.nolimit hg hT nT C G.T.bmain hobj hints (Nat.le_trans hlen (by decide)) hr hF hb fun H hH hS => hsp H a ns hlen hH hS
end NX

namespace NX
open PySem PySem.Spec PyProof.Rows L2
open Evl (Ex ex_l ex_t fresh_back)
/-! ### odd values, their reprs; what is told of outcomes, compared -/
mutual
theorem dp_noT {K : PySem.W.Frag} {G : Hp} : ∀ (d : PyData) (v : V), Dp K G v d → Dp K (noT G) v d
  | .none, _, .non => .non
  | .bool _, _, .bl b => .bl b
  | .int _, _, .int i => .int i
  | .str _, _, .str x => .str x
  | .list ds, _, .lst h1 h2 => .lst (by
      rcases h1 with (h | ⟨o, h⟩) | h
      · exact .inl (.inl (noT_of h fun ps z => by cases z))
      · exact .inl (.inr ⟨o, noT_of h fun ps z => by cases z⟩)
      · exact .inr h) (dp_noTA ds _ h2)
  | .tuple ds, _, .tup h1 h2 => .tup (by
      rcases h1 with (h | ⟨o, h⟩) | h
      · exact .inl (.inl (noT_of h fun ps z => by cases z))
      · exact .inl (.inr ⟨o, noT_of h fun ps z => by cases z⟩)
      · exact .inr h) (dp_noTA ds _ h2)
theorem dp_noTA {K : PySem.W.Frag} {G : Hp} : ∀ (ds : List PyData) (vs : List V), DpAll K G vs ds → DpAll K (noT G) vs ds
  | [], _, .nil => .nil
  | d :: ds, _, .cons h1 h2 => .cons (dp_noT d _ h1) (dp_noTA ds _ h2)
end
/-- no station of n, its repr t -/
structure OdS (K : PySem.W.Frag) (H : Hp) (n : Nat) (v : V) (t : Str) : Prop where
  odd : OddSt H n v
  sh : ShV K H v t
  ok : PyData.strOk t = true
theorem OdS.mono {K : PySem.W.Frag} {G H : Hp} {n : Nat} {v : V} {t : Str} (h : OdS K G n v t) (e : Ex G H) : OdS K H n v t := by
  obtain ⟨⟨ty, o1, o2⟩, h2, h3⟩ := h
  exact ⟨⟨ty, o1.mono e, o2⟩, h2.mono e fun d => dp_mono e d _, h3⟩
theorem ok_int {i : Nat} (h : i ≤ 60) : PyData.strOk (toString ((i : Int))) = true ∧ ((i : Int)).natAbs.log2 < 1920 := by
  have z : ∀ j : Fin 61, PyData.strOk (toString (((j : Nat) : Int))) = true ∧ (((j : Nat) : Int)).natAbs.log2 < 1920 := by decide +kernel
  exact z ⟨i, by omega⟩
def big20 : Int := 10 ^ (20 : Int).toNat
theorem odS_at {K : PySem.W.Frag} {G : Hp} {n : Nat} {pl pd : Addr} (hn : n ≤ 60) (h1 : G pl = some (.lst [.int 0])) (h2 : G pd = some (.dT [])) {r : Int} (h0 : 0 ≤ r) (h8 : r < 8) :
    ∃ v t, atI [V.int (n : Int), V.int (-1), V.non, V.bl true, V.str (Str.ofString "0"), V.ref pl, V.ref pd, V.int (10 ^ (20 : Int).toNat)] r = some v ∧ OdS K G n v t := by
  have : r = 0 ∨ r = 1 ∨ r = 2 ∨ r = 3 ∨ r = 4 ∨ r = 5 ∨ r = 6 ∨ r = 7 := by omega
  rcases this with rfl | rfl | rfl | rfl | rfl | rfl | rfl | rfl
  · exact ⟨_, _, rfl, ⟨"int", .int _, fun _ => ⟨_, rfl, by omega⟩⟩, .int _ (ok_int hn).2, (ok_int hn).1⟩
  · exact ⟨_, _, rfl, ⟨"int", .int _, fun _ => ⟨_, rfl, by omega⟩⟩, .int (-1) (by decide +kernel), by decide +kernel⟩
  · exact ⟨_, _, rfl, ⟨"NoneType", .non, fun h => absurd h (by decide)⟩, .non, by decide +kernel⟩
  · exact ⟨_, _, rfl, ⟨"bool", .bl true, fun h => absurd h (by decide)⟩, .bl true, by decide +kernel⟩
  · exact ⟨_, _, rfl, ⟨"str", .str _, fun h => absurd h (by decide)⟩, .str _ (by decide +kernel), by decide +kernel⟩
  · exact ⟨_, _, rfl, ⟨"list", .lst h1, fun h => absurd h (by decide)⟩, .dat (.list [.int 0]) (.lst (.inl (.inl h1)) (.cons (.int 0) .nil)) (by decide +kernel) (by decide +kernel) (by decide +kernel) (by decide +kernel), by decide +kernel⟩
  · exact ⟨_, _, rfl, ⟨"dict", .dct h2, fun h => absurd h (by decide)⟩, .dct h2, by decide +kernel⟩
  · refine ⟨_, _, rfl, ⟨"int", .int _, fun _ => ⟨_, rfl, ?_⟩⟩, .int _ (by decide +kernel), by decide +kernel⟩
    have e : (10 : Int) ^ (20 : Int).toNat = 100000000000000000000 := by decide
    rw [e]
    omega
/-- p holds (w, t) -/
def WT (H : Hp) (p : Addr) (w t : Str) : Prop := H p = some (.tup [.str w, .str t])
theorem dp_wt {K : PySem.W.Frag} {H : Hp} {p : Addr} {w t : Str} (h : WT H p w t) : Dp K H (.ref p) (.tuple [.str w, .str t]) := .tup (SqT.of h) (.cons (.str w) (.cons (.str t) .nil))
section
variable {K : PySem.W.Frag} {H : Hp} {a b p1 p2 p3 q : Addr} {w t : Str} {Q : VK}
theorem sh_wt2 (hw : PyData.strOk w = true) (ht : PyData.strOk t = true) : SeqAt.shaped (.list [.tuple [.str w, .str t], .tuple [.str w, .str t]]) = true := by
  unfold SeqAt.shaped
  simp [PyData.canLay0, PyData.canLayAll0, PyData.depth, PyData.depthAll, hw, ht]
theorem sh_wt3 (hw : PyData.strOk w = true) (ht : PyData.strOk t = true) : SeqAt.shaped (.list [.tuple [.str w, .str t], .tuple [.str w, .str t], .tuple [.str w, .str t]]) = true := by
  unfold SeqAt.shaped
  simp [PyData.canLay0, PyData.canLayAll0, PyData.depth, PyData.depthAll, hw, ht]
theorem n_neWT2 (hw : PyData.strOk w = true) (ht : PyData.strOk t = true) (ha : SqL K H a [.ref p1, .ref p2]) (hb : SqL K H b [.ref q, .ref q]) (h1 : WT H p1 w t) (h2 : WT H p2 w t) (hq : WT H q w t) (k : Q (.bl false) H) : rNeD K (.ref a) (.ref b) H Q :=
  ⟨_, _, .lst ha (.cons (dp_wt h1) (.cons (dp_wt h2) .nil)), .lst hb (.cons (dp_wt hq) (.cons (dp_wt hq) .nil)), sh_wt2 hw ht, sh_wt2 hw ht, by simpa [PyData.eqv, PyData.eqvAll] using k⟩
theorem n_neWT3 (hw : PyData.strOk w = true) (ht : PyData.strOk t = true) (ha : SqL K H a [.ref p1, .ref p2, .ref p3]) (hb : SqL K H b [.ref q, .ref q, .ref q]) (h1 : WT H p1 w t) (h2 : WT H p2 w t) (h3 : WT H p3 w t) (hq : WT H q w t) (k : Q (.bl false) H) : rNeD K (.ref a) (.ref b) H Q :=
  ⟨_, _, .lst ha (.cons (dp_wt h1) (.cons (dp_wt h2) (.cons (dp_wt h3) .nil))), .lst hb (.cons (dp_wt hq) (.cons (dp_wt hq) (.cons (dp_wt hq) .nil))), sh_wt3 hw ht, sh_wt3 hw ht, by simpa [PyData.eqv, PyData.eqvAll] using k⟩
theorem n_eqWT3 (hw : PyData.strOk w = true) (ht : PyData.strOk t = true) (ha : SqL K H a [.ref p1, .ref p2, .ref p3]) (hb : SqL K H b [.ref q, .ref q, .ref q]) (h1 : WT H p1 w t) (h2 : WT H p2 w t) (h3 : WT H p3 w t) (hq : WT H q w t) (k : Q (.bl true) H) : rEqD K (.ref a) (.ref b) H Q :=
  ⟨_, _, .lst ha (.cons (dp_wt h1) (.cons (dp_wt h2) (.cons (dp_wt h3) .nil))), .lst hb (.cons (dp_wt hq) (.cons (dp_wt hq) (.cons (dp_wt hq) .nil))), sh_wt3 hw ht, sh_wt3 hw ht, by simpa [PyData.eqv, PyData.eqvAll] using k⟩
end
/-- a list of one item, some times -/
theorem n_repV {G H : Hp} {L : List (Addr × HO)} {p : Addr} {v : V} {m : Nat} {Q : VK} (S : Own G L H) (hp : H p = some (.lst [v])) (hz : m ≤ 1000) (k : ∀ q G1 H1, Ex G G1 → G1 q = some (.lst (List.replicate m v)) → Own G1 L H1 → Q (.ref q) H1) : rRep (.ref p) (.int (m : Int)) H Q := by
  refine ⟨p, (m : Int), [v], rfl, rfl, hp, by omega, by omega, ?_, fun q hq => ?_⟩
  · have := sizeLine_eq
    simp
    omega
  · have e : (List.replicate (m : Int).toNat [v]).flatten = List.replicate m v := by
      rw [Int.toNat_natCast]
      clear hz hp k S
      induction m with
      | zero => rfl
      | succ m ih => rw [List.replicate_succ, List.flatten_cons, ih, List.replicate_succ] <;> rfl
    rw [e]
    exact k q _ _ (S.still hq).2.1 (S.still hq).2.2 (S.still hq).1
theorem NetAt.noT {C : Addr} {G : Hp} {a : Addr} {n : Nat} {ks : List Pr} (h : NetAt C G a n ks) : NetAt C (NX.noT G) a n ks := by
  obtain ⟨⟨dx, kp, np, xs, nps, o⟩, h1, h2, h3, h4⟩ := h
  have ne : ∀ {b : Addr} {u : HO}, G b = some u → (∀ ps, u ≠ .tbl ps) → NX.noT G b = some u := fun h n => noT_of h n
  refine ⟨⟨dx, kp, np, xs, nps, ⟨ne o.ins (fun ps z => by cases z), ne o.kept (fun ps z => by cases z), ?_, ne o.near (fun ps z => by cases z), o.len, fun i p q => ne (o.each i p q) (fun ps z => by cases z)⟩⟩, h1, h2, h3, h4⟩
  have hl := o.lks
  clear o h1 h2 h3
  unfold Lks at *
  induction hl with
  | nil => exact .nil
  | cons h _ ih =>
    obtain ⟨t, e1, e2⟩ := h
    exact .cons ⟨t, e1, ne e2 (fun ps z => by cases z)⟩ ih
theorem n_dnewG' {G H : Hp} {L : List (Addr × HO)} {σ : L2.St} {Q : VK} (S : Own G L H) (k : ∀ p G1 H1, Ex G G1 → G1 p = some (.dT []) → Own G1 L H1 → Q (.ref p) H1) : tDNewT σ H Q :=
  fun p hp => k p _ _ (S.lay hp).freeze.2.1 (S.lay hp).freeze.2.2 (S.lay hp).freeze.1
theorem ex_step {B G G1 : Hp} (c : Ex (noT B) G) (e : Ex (noT G) G1) : Ex (noT B) G1 := fun a o h => e _ _ (noT_of (c _ _ h) (of_noT h).2)
theorem WT.noT {G : Hp} {p : Addr} {w t : Str} (h : WT G p w t) : WT (NX.noT G) p w t := noT_of h fun ps z => by cases z
theorem WT.mono {G H : Hp} {p : Addr} {w t : Str} (h : WT G p w t) (e : Ex G H) : WT H p w t := e _ _ h
theorem WT.lam {G G1 : Hp} {p : Addr} {w t : Str} (h : WT G p w t) (e : Ex (NX.noT G) G1) : WT G1 p w t := h.noT.mono e
theorem lst1 {W : Addr} {xs : List V} : ∀ p ∈ [(W, HO.lst xs)], ∃ ys, p.2 = HO.lst ys := fun p hp => by
  rw [List.mem_singleton.mp hp]
  exact ⟨_, rfl⟩
theorem lst2 {W p : Addr} {xs ys : List V} : ∀ q ∈ [(p, HO.lst ys), (W, HO.lst xs)], ∃ zs, q.2 = HO.lst zs := fun q hq => by
  rcases List.mem_cons.mp hq with rfl | hq
  · exact ⟨_, rfl⟩
  · exact lst1 q hq
theorem ex_nn {B G : Hp} (c : Ex (noT B) G) : Ex (noT B) (noT G) := fun a o h => noT_of (c _ _ h) (of_noT h).2
/-- behind a call that may only change the first -/
theorem Own.pass {G H H' : Hp} {L : List (Addr × HO)} {p : Addr} {o : HO} (S : Own G ((p, o) :: L) H) (e : Ex (cut H [(p, o)]) H') : Own G L H' :=
  ⟨S.keep.trans e, fun x hx => ⟨(S.forget.at_ x hx).1, e _ _ (by
    rw [cut_out (fun m => S.nin (by
      rw [← show x.1 = p by simpa using m]
      exact List.mem_map_of_mem hx))]
    exact (S.forget.at_ x hx).2)⟩, S.forget.nd, S.forget.nt⟩
theorem own_tabs {H : Hp} {T : List (Addr × Str)} (h : ∀ p ∈ T, H p.1 = some (.tbl #[])) (nd : (T.map Prod.fst).Nodup) : Own (cut H (tl T fun _ => #[])) (tl T fun _ => #[]) H :=
  ⟨fun a u e => by
    by_cases m : a ∈ (tl T fun _ => #[]).map Prod.fst
    · rw [cut_in m] at e
      cases e
    · rw [cut_out m] at e
      exact e, fun x hx => ⟨cut_in (List.mem_map_of_mem hx), by
    obtain ⟨p, hp, rfl⟩ := tl_mem hx
    exact h p hp⟩, by rw [tl_fst]; exact nd, fun x hx => by
    obtain ⟨p, hp, rfl⟩ := tl_mem hx
    rfl⟩
theorem sq_tabs {K : PySem.W.Frag} {H : Hp} {T : List (Addr × Str)} {a : Addr} {xs : List V} (h : ∀ p ∈ T, H p.1 = some (.tbl #[])) (hs : SqL K H a xs) : SqL K (noT (cut H (tl T fun _ => #[]))) a xs := by
  have ne : ∀ o, H a = some o → (∀ qs, o ≠ .tbl qs) → noT (cut H (tl T fun _ => #[])) a = some o := fun o e n => by
    refine noT_of ?_ n
    rw [cut_out]
    · exact e
    · intro m
      rw [tl_fst] at m
      obtain ⟨p, hp, rfl⟩ := List.mem_map.mp m
      rw [h p hp] at e
      exact n _ (Option.some.inj e).symm
  rcases hs with (hs | ⟨o, hs⟩) | hs
  · exact .inl (.inl (ne _ hs fun qs z => by cases z))
  · exact .inl (.inr ⟨o, ne _ hs fun qs z => by cases z⟩)
  · exact .inr hs
end NX

namespace NX
open PySem PySem.Spec PyProof.Rows L2
open Evl (Ex ex_l ex_t fresh_back)
/-- a well of draws -/
def wl (a b c : Int) : HO := .lst [.int a, .int b, .int c]
theorem n_setLi {H : Hp} {W : Addr} {xs : List V} {i : Int} {j : Nat} {v : V} {Q : Hp → Prop} (h : H W = some (.lst xs)) (hi : ixN xs.length i = some j) (k : Q (upd H W (.lst (xs.set j v)))) : rSetL (.ref W) (.int i) v H Q := ⟨W, xs, i, j, rfl, rfl, h, hi, k⟩
theorem mod_rng {a m : Int} (h : 0 < m) : 0 ≤ a % m ∧ a % m < m := ⟨Int.emod_nonneg a (by omega), Int.emod_lt_of_pos a h⟩
theorem Own.weak {G G' H : Hp} {L : List (Addr × HO)} (e : Ex G G') (S : Own G' L H) : Own G L H := ⟨e.trans S.ex, fun p hp => ⟨fresh_back e (S.at_ p hp).1, (S.at_ p hp).2⟩, S.nd, S.nt⟩
/-- xs.pop(i) -/
theorem n_popAt {G H : Hp} {L : List (Addr × HO)} {p : Addr} {xs : List V} {i : Int} {Q : VK} (S : Own G ((p, .lst xs) :: L) H) (h0 : 0 ≤ i) (h1 : i < (xs.length : Int)) (hz : xs.length ≤ 1000000)
    (k : ∀ y H1, xs[i.toNat]? = some y → Own G ((p, .lst (xs.eraseIdx i.toNat)) :: L) H1 → Q y H1) : rPopAt (.ref p) [.int i] H Q := by
  have hl : i.toNat < xs.length := by omega
  have hy : xs[i.toNat]? = some xs[i.toNat] := List.getElem?_eq_getElem hl
  refine ⟨p, xs, i, i.toNat, _, rfl, rfl, S.get0, by omega, by omega, ?_, hy, k _ _ hy S.put0⟩
  unfold seqIndex?
  have h3 : ¬ i < 0 := by omega
  simp [h3, h1]
  try omega
/-- a list whose items are data: for == and != -/
def DataOk (K : PySem.W.Frag) (G : Hp) (xs : List V) : Prop := ∀ H, Ex G H → ∀ ys : List V, (∀ y ∈ ys, y ∈ xs) → ∃ ds, DpAll K H ys ds ∧ SeqAt.shaped (.list ds) = true ∧ ds.length = ys.length
theorem ints_of_sub {ns : List Int} : ∀ {ys : List V}, (∀ y ∈ ys, y ∈ ns.map V.int) → ∃ ms : List Int, ys = ms.map V.int
  | [], _ => ⟨[], rfl⟩
  | y :: ys, h => by
    obtain ⟨ms, rfl⟩ := ints_of_sub (ys := ys) fun y hy => h y (List.mem_cons_of_mem _ hy)
    obtain ⟨m, _, rfl⟩ := List.mem_map.mp (h y List.mem_cons_self)
    exact ⟨m :: ms, rfl⟩
theorem data_ints (K : PySem.W.Frag) (G : Hp) (ns : List Int) : DataOk K G (ns.map V.int) := fun H _ ys h => by
  obtain ⟨ms, rfl⟩ := ints_of_sub h
  exact ⟨_, dp_ints ms, shaped_ints ms, by simp⟩
theorem data_lks {K : PySem.W.Frag} {G : Hp} {xs : List V} {ps : List Pr} (h : Lks G xs ps) : DataOk K G xs := fun H e ys hy => by
  have z : Lks G ys (ys.map (kOf G)) := lks_of fun x hx => (lks_k h).2 x (hy x hx)
  exact ⟨_, dp_lks (z.mono e), shaped_lks _, by simp⟩
theorem eqv_nil (ds : List PyData) : PyData.eqv (.list ds) (.list []) = decide (ds = []) := by
  cases ds with
  | nil => simp [PyData.eqv, PyData.eqvAll]
  | cons d ds => simp [PyData.eqv, PyData.eqvAll]
theorem n_neNil {K : PySem.W.Frag} {G H : Hp} {p q : Addr} {xs ys : List V} {Q : VK} (d : DataOk K G xs) (e : Ex G H) (sub : ∀ y ∈ ys, y ∈ xs) (h1 : SqL K H p ys) (h2 : SqL K H q []) (k : Q (.bl (!decide (ys = []))) H) : rNeD K (.ref p) (.ref q) H Q := by
  obtain ⟨ds, h3, h4, h5⟩ := d H e ys sub
  refine ⟨_, _, .lst h1 h3, .lst h2 .nil, h4, shaped_ints [], ?_⟩
  rw [eqv_nil]
  have z : decide (ds = []) = decide (ys = []) := by
    rw [Bool.eq_iff_iff, decide_eq_true_eq, decide_eq_true_eq, ← List.length_eq_zero_iff, ← List.length_eq_zero_iff, h5]
  rw [z]
  exact k
theorem erase_perm {α : Type} : ∀ {l : List α} {i : Nat} (h : i < l.length), (l[i] :: l.eraseIdx i).Perm l
  | [], _, h => absurd h (Nat.not_lt_zero _)
  | a :: l, 0, _ => List.Perm.refl _
  | a :: l, i + 1, h => by
    have ih := erase_perm (l := l) (i := i) (by simpa using h)
    exact (List.Perm.swap a _ _).trans (ih.cons a)
theorem DataOk.mono {K : PySem.W.Frag} {G H : Hp} {xs : List V} (h : DataOk K G xs) (e : Ex G H) : DataOk K H xs := fun H' e' => h H' (e.trans e')
def spMixed (K : PySem.W.Frag) : Sp := fun vs H Q _ => ∃ (W p : Addr) (a b c : Int) (xs : List V), vs = [.ref W, .ref p] ∧ H W = some (wl a b c) ∧ SqL K (cut H [(W, wl a b c)]) p xs ∧ DataOk K (cut H [(W, wl a b c)]) xs ∧ xs.length ≤ 100000 ∧
  ∀ ys q H' a' b' c', ys.Perm xs → H q = none → Own (cut H [(W, wl a b c)]) [(W, wl a' b' c'), (q, .lst ys)] H' → Q (.ref q) H'
theorem n_mixed {K : PySem.W.Frag} {H G : Hp} {L : List (Addr × HO)} {W p : Addr} {a b c : Int} {xs : List V} {Q : VK} {E : XK} (S : Own G ((W, wl a b c) :: L) H) (hp : SqL K G p xs) (hd : DataOk K G xs) (hz : xs.length ≤ 100000)
    (k : ∀ ys q H1 a' b' c', ys.Perm xs → H q = none → Own G ((W, wl a' b' c') :: (q, .lst ys) :: L) H1 → Q (.ref q) H1) : spMixed K [.ref W, .ref p] H Q E :=
  ⟨W, p, a, b, c, xs, rfl, S.get0, ex_l S.keep hp, hd.mono S.keep, hz, fun ys q H' a' b' c' hy hq T => k ys q H' a' b' c' hy hq (S.back T)⟩
end NX

namespace NX
open PySem PySem.Spec PyProof.Rows L2
open Evl (Ex ex_l ex_t fresh_back)
abbrev s__law_well : Stmt := top 24
theorem sc__law_well : FnScope ["_law_cell", "_law_turn"] ["_law_cell", "_law_turn"] (defScope s__law_well) := ⟨rfl, rfl, rfl, by decide +kernel, rfl, by decide +kernel, by decide +kernel⟩
abbrev s__law_take : Stmt := top 25
theorem sc__law_take : FnScope ["_law_well_here", "_law_bound", "_law_drawn", "_law_value"] ["_law_well_here", "_law_bound"] (defScope s__law_take) := ⟨rfl, rfl, rfl, by decide +kernel, rfl, by decide +kernel, by decide +kernel⟩
abbrev s__law_mixed : Stmt := top 26
theorem sc__law_mixed : FnScope ["_law_well_here", "_law_some", "_law_left", "_law_found"] ["_law_well_here", "_law_some"] (defScope s__law_mixed) := ⟨rfl, rfl, rfl, by decide +kernel, rfl, by decide +kernel, by decide +kernel⟩
/-- a draw below n: some number, the well in some other state -/
def spTake : Sp := fun vs H Q _ => ∃ (W : Addr) (a b c n : Int), vs = [.ref W, .int n] ∧ H W = some (wl a b c) ∧ 0 < n ∧ n < 1073741824 ∧ ∀ r a' b' c', 0 ≤ r → r < n → Q (.int r) (upd H W (wl a' b' c'))
def spWell : Sp := fun vs H Q _ => ∃ (x t : Int), vs = [.int x, .int t] ∧ ∀ a b c, Ret (wl a b c) H Q
theorem n_take {H G : Hp} {L : List (Addr × HO)} {W : Addr} {a b c n : Int} {Q : VK} {E : XK} (S : Own G ((W, wl a b c) :: L) H) (h : 0 < n ∧ n < 1073741824) (k : ∀ r a' b' c' H1, 0 ≤ r → r < n → Own G ((W, wl a' b' c') :: L) H1 → Q (.int r) H1) : spTake [.ref W, .int n] H Q E :=
  ⟨W, a, b, c, n, rfl, S.get0, h.1, h.2, fun r a' b' c' h1 h2 => k r a' b' c' _ h1 h2 S.put0⟩
section
variable {P : Program} {w : World} {K : PySem.W.Frag} {mg : Str → Option Value} {base : Heap}
theorem ok_well {f : Addr} {fd : FuncData} (F : Fun K "_law_well" "_law_well" s__law_well f fd) (T : Txt mg) : FnOk P w K mg base CX0 1 f fd ["_law_cell", "_law_turn"] spWell := by
  refine F.ok sc__law_well (fun vs H Q E h => ?_) (fun cdv A outer s H vs Q E hr h => ?_)
  · obtain ⟨x, t, rfl, _⟩ := h
    rfl
  · obtain ⟨x, t, rfl, k⟩ := h
    refine ⟨_, (pss_one (ps_ret (pe_lst (pa_cons (pe_op op_mul (pv 0) (pe_callTy call_intN (by rfl) T.n_int (by decide +kernel) (pa_cons (pe_cmpR op_ge (pv 0) (pe_op op_pow pe_int pe_int) (nomark _)) pa_nil))) (pa_cons (pe_op op_add (pe_op op_mod (pv 0) pe_int) (pe_op op_mul pe_int (pv 1))) (pa_cons pe_int pa_nil)))))), ?_⟩
    walk_at "go"
    refine g_I ⟨by decide, by decide, by decide⟩ ?_
    walk_at "go"
    refine g_I (.inr (by split <;> decide)) ?_
    walk_at "go"
    refine g_I (by decide) ?_
    walk_at "go"
    refine g_I (.inl ⟨by decide, by decide⟩) ?_
    walk_at "go"
    refine n_lst (Own.start H) (by show 3 ≤ 10000000; decide) fun W H5 hW S5 => ?_
    exact k _ _ _ W H5 hW S5.ex S5.get0
theorem ok_take {f : Addr} {fd : FuncData} (F : Fun K "_law_take" "_law_take" s__law_take f fd) : FnOk P w K mg base CX0 1 f fd ["_law_well_here", "_law_bound"] spTake := by
  refine F.ok sc__law_take (fun vs H Q E h => ?_) (fun cdv A outer s H vs Q E hr h => ?_)
  · obtain ⟨W, a, b, c, n, rfl, _⟩ := h
    rfl
  · obtain ⟨W, a, b, c, n, rfl, hW, h1, h2, k⟩ := h
    refine ⟨_, (pss_cons (ps_if (pt_cmpR op_gt (pe_ix ix_list (pv 0) pe_int (fun _ _ => rfl)) pe_int (nomark _)) (pss_cons (ps_set (i := 2) sc__law_take.nd rfl (Or.inl rfl) (pe_op op_mod (pe_ix ix_list (pv 0) pe_int (fun _ _ => rfl)) (pv 1)))
      (pss_cons (ps_asg (pe_op op_fdiv (pe_ix ix_list (pv 0) pe_int (fun _ _ => rfl)) (pv 1)) (pg_sub (pv 0) pe_int set_list))
      (pss_one (ps_ret (pv 2))))) pss_nil)
      (pss_cons (ps_asg (pe_op op_add (pe_ix ix_list (pv 0) pe_int (fun _ _ => rfl)) pe_int) (pg_sub (pv 0) pe_int set_list))
      (pss_cons (ps_set (i := 3) sc__law_take.nd rfl (Or.inl rfl) (pe_op op_mod (pe_op op_mul (pe_op op_add (pe_op op_add (pe_ix ix_list (pv 0) pe_int (fun _ _ => rfl)) (pe_op op_mul pe_int (pe_ix ix_list (pv 0) pe_int (fun _ _ => rfl)))) pe_int) pe_int) pe_int))
      (pss_cons (ps_set (i := 3) sc__law_take.nd rfl (Or.inl rfl) (pe_op op_mod (pe_op op_mul (pv 3) (pe_op op_add (pe_op op_fdiv (pv 3) pe_int) pe_int)) pe_int))
      (pss_one (ps_ret (pe_op op_mod (pe_op op_fdiv (pe_op op_mod (pe_op op_mul (pv 3) (pe_op op_add (pe_op op_fdiv (pv 3) pe_int) pe_int)) pe_int) pe_int) (pv 1)))))))), ?_⟩
    have hS : SqL K H W [.int a, .int b, .int c] := SqL.of hW
    walk_at "go"
    refine g_ixL (i := 0) hS rfl ?_
    walk_at "go"
    refine if_2 (fun e => ?_) (fun e => ?_)
    · walk_at "go"
      refine g_ixL (i := 0) hS rfl ?_
      walk_at "go"
      refine g_I h1 ?_
      walk_at "go"
      refine g_ixL (i := 0) hS rfl ?_
      walk_at "go"
      refine g_I ⟨h1, h2⟩ ?_
      walk_at "go"
      refine n_setLi (i := 0) hW rfl ?_
      walk_at "go"
      exact k _ _ _ _ (mod_rng h1).1 (mod_rng h1).2
    · walk_at "go"
      refine g_ixL (i := 2) hS rfl ?_
      walk_at "go"
      refine n_setLi (i := 2) hW rfl ?_
      have hS2 : SqL K (upd H W (.lst [.int a, .int b, .int (c + 1)])) W [.int a, .int b, .int (c + 1)] := SqL.of upd_same
      walk_at "go"
      refine g_ixL (i := 1) hS2 rfl ?_
      walk_at "go"
      refine g_ixL (i := 2) hS2 rfl ?_
      walk_at "go"
      refine g_I (.inl ⟨by decide, by decide⟩) ?_
      walk_at "go"
      refine g_I (.inr ⟨by decide, by decide⟩) ?_
      walk_at "go"
      refine g_I (by decide) ?_
      walk_at "go"
      have z1 := mod_rng (a := (b + 67867967 * (c + 1) + 17) * 48271) (m := 2147483563) (by decide)
      generalize (b + 67867967 * (c + 1) + 17) * 48271 % 2147483563 = x at z1 ⊢
      refine g_I ⟨by decide, by decide⟩ ?_
      walk_at "go"
      refine g_I (.inl ⟨by omega, by omega⟩) ?_
      walk_at "go"
      refine g_I (by decide) ?_
      walk_at "go"
      have z2 := mod_rng (a := x * (x / 1033 + 69697)) (m := 2147483587) (by decide)
      generalize x * (x / 1033 + 69697) % 2147483587 = y at z2 ⊢
      refine g_I ⟨by decide, by decide⟩ ?_
      walk_at "go"
      refine g_I (.inl ⟨by omega, by omega⟩) ?_
      walk_at "go"
      refine g_I (by decide) ?_
      walk_at "go"
      refine g_I ⟨by decide, by decide⟩ ?_
      walk_at "go"
      refine g_I h1 ?_
      exact k _ _ _ _ (mod_rng h1).1 (mod_rng h1).2
theorem ok_mixed {f : Addr} {fd : FuncData} (F : Fun K "_law_mixed" "_law_mixed" s__law_mixed f fd) (T : Txt mg) (c__law_take : Cal P w K mg base 1 "_law_take" ["_law_well_here", "_law_bound"] [] spTake) : FnOk P w K mg base CX0 2 f fd ["_law_well_here", "_law_some"] (spMixed K) := by
  refine F.ok sc__law_mixed (fun vs H Q E h => ?_) (fun cdv A outer s H vs Q E hr h => ?_)
  · obtain ⟨W, p, a, b, c, xs, rfl, _⟩ := h
    rfl
  · obtain ⟨W, p, a, b, c, xs, rfl, hW, hp, hd, hz, k⟩ := h
    have hu65 : ∀ X : Cx, X.A = A.deeper (envOfC "_law_mixed" (defScope s__law_mixed) s.heap.objs.size f cdv) → X.A.units + 65 < cLine := fun X e => by rw [e]; have := hr.un; omega
    have S0 := Own.give (o := wl a b c) hW
    have hG : ∀ x u, x ≠ W → H x = some u → cut H [(W, wl a b c)] x = some u := fun x u ne e => by rw [cut_out (by simpa using ne)]; exact e
    generalize cut H [(W, wl a b c)] = G at hp hd S0 k hG
    refine ⟨_, (pss_cons (ps_set (i := 2) sc__law_mixed.nd rfl (Or.inl rfl) (pe_callTy call_listN (by rfl) T.n_list (by decide +kernel) (pa_cons (pv 1) pa_nil)))
      (pss_cons (ps_set (i := 3) sc__law_mixed.nd rfl (Or.inl rfl) (pe_lst pa_nil))
      (pss_cons (ps_while PassesOwn.never (pt_cmpR (op_neD (Nat.lt_of_succ_lt (hu65 _ rfl))) (pv 2) (pe_lst pa_nil) (nomark _)) (pss_one (ps_expr (pe_bm PySem.F.plainAttrs_list PySem.F.slot_list_append PySem.F.type_list_append mt_append (pv 3) (pa_cons (pe_bm PySem.F.plainAttrs_list PySem.F.slot_list_pop PySem.F.type_list_pop mt_popAt (pv 2) (pa_cons (pe_cal c__law_take (hr.mono (by first | decide | omega)) passN (pa_cons (pv 0) (pa_cons (pe_callB call_lenN (by rfl) T.n_len (by decide +kernel) (pa_cons (pv 2) pa_nil)) pa_nil))) pa_nil)) pa_nil)))))
      (pss_one (ps_ret (pv 3)))))), ?_⟩
    walk_at "go"
    refine n_list S0 (S0.sl hp) fun l H1 hl S1 => ?_
    walk_at "go"
    refine n_lst S1 (by decide) fun q H2 hq S2 => ?_
    walk_at "go"
    have hq0 : H q = none := by
      cases hh : H q with
      | none => rfl
      | some u =>
        by_cases e : q = W
        · rw [e, S1.get1] at hq; cases hq
        · have z := S1.ex _ _ (hG q u e hh)
          rw [hq] at z
          exact z.symm
    refine s_while (fun m σ' H' => ∃ (fs ls : List V) (a' b' c' : Int), σ' = [some (.ref W), some (.ref p), some (.ref l), some (.ref q)] ∧ m = ls.length ∧ (fs ++ ls).Perm xs ∧ Own G [(q, .lst fs), (l, .lst ls), (W, wl a' b' c')] H') _ ⟨[], xs, a, b, c, rfl, rfl, List.Perm.refl _, S2⟩ ?_
    rintro m σ' H' ⟨fs, ls, a', b', c', rfl, rfl, hperm, S⟩
    have hlen : fs.length + ls.length = xs.length := by rw [← List.length_append]; exact hperm.length_eq
    have hsub : ∀ y ∈ ls, y ∈ xs := fun y hy => hperm.mem_iff.mp (List.mem_append_right _ hy)
    walk_at "go"
    refine n_lst S (by decide) fun r H3 hr3 S3 => ?_
    walk_at "go"
    refine n_neNil hd S3.ex hsub (SqL.of S3.get2) S3.l0 ?_
    walk_at "go"
    have S4 := S3.forget
    refine if_2 (fun e => ?_) (fun e => ?_)
    · have hne : ls ≠ [] := fun z => by rw [dtrue z] at e; cases e
      have hpos : 0 < ls.length := List.length_pos_iff.mpr hne
      refine s_turn ?_
      walk_at "go"
      refine ⟨tyL S4.l0, ?_⟩
      walk_at "go"
      refine ⟨tyL S4.l1, ?_⟩
      walk_at "go"
      refine n_len S4.l1 ?_
      walk_at "go"
      refine n_take S4.rot ⟨by omega, by omega⟩ fun i a2 b2 c2 H5 h0 h1 S5 => ?_
      walk_at "go"
      refine n_popAt S5.unrot.swap h0 h1 (by omega) fun y H6 hy S6 => ?_
      walk_at "go"
      refine n_app S6.swap (by omega) fun H7 S7 => ?_
      refine ⟨(ls.eraseIdx i.toNat).length, ?_, fs ++ [y], ls.eraseIdx i.toNat, a2, b2, c2, rfl, rfl, ?_, S7⟩
      · rw [List.length_eraseIdx_of_lt (by omega)]
        omega
      · obtain ⟨hi, ey⟩ := List.getElem?_eq_some_iff.mp hy
        have pe := erase_perm (l := ls) hi
        rw [ey] at pe
        rw [List.append_assoc]
        exact (pe.append_left fs).trans hperm
    · have hnil : ls = [] := Classical.byContradiction fun z => by rw [dfalse z] at e; cases e
      subst hnil
      walk_at "go"
      rw [List.append_nil] at hperm
      exact k fs q _ a' b' c' hperm hq0 ((S4.swap.forget).swap)
end
end NX

namespace NX
open PySem PySem.Spec PyProof.Rows L2
/-! ### ways that join behind an if -/
theorem s_join {ts : TS} {n b c : L2.St → Hp → Prop} {rt : VK} {σ : L2.St} {H : Hp} (J : L2.St → Hp → Prop) (hj : ∀ σ' H', J σ' H' → n σ' H') (h : ∀ n' : L2.St → Hp → Prop, (∀ σ' H', J σ' H' → n' σ' H') → ts ⟨n', rt, b, c⟩ σ H) : ts ⟨n, rt, b, c⟩ σ H := h n hj
theorem e_join {te : TE} {σ : L2.St} {H : Hp} {Q : VK} (J : V → Hp → Prop) (hj : ∀ x H', J x H' → Q x H') (h : ∀ Q' : VK, (∀ x H', J x H' → Q' x H') → te σ H Q') : te σ H Q := h Q hj
theorem t_join {tt : TT} {σ : L2.St} {H : Hp} {Q : Bool → Hp → Prop} (J : Bool → Hp → Prop) (hj : ∀ b H', J b H' → Q b H') (h : ∀ Q' : Bool → Hp → Prop, (∀ b H', J b H' → Q' b H') → tt σ H Q') : tt σ H Q := h Q hj
theorem n_sum {K : PySem.W.Frag} {H : Hp} {p : Addr} {ns : List Int} {Q : VK} (h : SqL K H p (ns.map V.int)) (k : Q (.int ns.sum) H) : rSum K [.ref p] H Q := ⟨p, ns, rfl, h, k⟩
theorem n_all {K : PySem.W.Frag} {H : Hp} {p : Addr} {m : Nat} {Q : VK} (h : SqL K H p (List.replicate m (.bl true))) (k : Q (.bl true) H) : rAll K [.ref p] H Q := by
  refine ⟨p, List.replicate m true, rfl, by rw [List.map_replicate]; exact h, ?_⟩
  have e : (List.replicate m true).all id = true := by
    rw [List.all_eq_true]
    intro x hx
    rw [(List.mem_replicate.mp hx).2] <;> rfl
  rw [e]
  exact k
end NX

namespace NX
open PySem PySem.Spec PyProof.Rows L2
open Evl (Ex ex_l ex_t fresh_back)
/-! ### _law_links -/
/-- behind a call that may change the object at p, where what stands still has grown -/
theorem Own.backG {G G' H H' : Hp} {L L' : List (Addr × HO)} {p : Addr} {o o' : HO} (S : Own G ((p, o) :: L) H) (e : Ex (cut H [(p, o)]) G') (T : Own G' ((p, o') :: L') H') :
    Own (cut G' L) ((p, o') :: L' ++ L) H' ∧ Ex G (cut G' L) ∧ ∀ a u, noTup u = false → G' a = some u → cut G' L a = some u := by
  have hL : ∀ x ∈ L, G' x.1 = some x.2 := fun x hx => e _ _ (by
    have ne : x.1 ≠ p := fun z => S.nin (z ▸ List.mem_map_of_mem hx)
    rw [cut_out (by simpa using ne)]
    exact (S.at_ x (List.mem_cons_of_mem _ hx)).2)
  refine ⟨⟨fun a u h => ?_, fun x hx => ?_, ?_, fun x hx => (List.mem_append.mp hx).elim (T.nt x) (S.forget.nt x)⟩, fun a u h => ?_, fun a u t h => ?_⟩
  · by_cases m : a ∈ L.map Prod.fst
    · rw [cut_in m] at h; cases h
    · rw [cut_out m] at h; exact T.ex _ _ h
  · rcases List.mem_append.mp hx with hx | hx
    · refine ⟨?_, (T.at_ x hx).2⟩
      have z := (T.at_ x hx).1
      by_cases m : x.1 ∈ L.map Prod.fst
      · exact cut_in m
      · rw [cut_out m]; exact z
    · exact ⟨cut_in (List.mem_map_of_mem hx), T.ex _ _ (hL x hx)⟩
  · rw [List.map_append, List.nodup_append]
    refine ⟨T.nd, S.forget.nd, fun a ha b hb z => ?_⟩
    subst z
    obtain ⟨x, hx, ex⟩ := List.mem_map.mp ha
    obtain ⟨y, hy, ey⟩ := List.mem_map.mp hb
    have z := (T.at_ x hx).1
    rw [ex, ← ey, hL y hy] at z
    cases z
  · have ne : a ≠ p := ne_of_none h S.no0
    have m : a ∉ L.map Prod.fst := fun m => by
      obtain ⟨y, hy, ey⟩ := List.mem_map.mp m
      have z := (S.forget.at_ y hy).1
      rw [ey, h] at z
      cases z
    rw [cut_out m]
    exact e _ _ (by rw [cut_out (by simpa using ne)]; exact S.ex _ _ h)
  · have m : a ∉ L.map Prod.fst := fun m => by
      obtain ⟨y, hy, ey⟩ := List.mem_map.mp m
      have z := hL y hy
      rw [ey, h] at z
      have := S.forget.nt y hy
      rw [← Option.some.inj z, t] at this
      cases this
    rw [cut_out m]
    exact h
/-- l.extend(b) -/
theorem n_ext {G H : Hp} {L : List (Addr × HO)} {l b : Addr} {xs zs : List V} {Q : VK} (S : Own G ((l, .lst xs) :: L) H) (hb : H b = some (.lst zs)) (hz : xs.length + zs.length ≤ 1000000) (k : ∀ H1, Own G ((l, .lst (xs ++ zs)) :: L) H1 → Q .non H1) : rExtend (.ref l) [.ref b] H Q :=
  ⟨l, b, xs, zs, rfl, rfl, S.get0, hb, small (by omega), k _ S.put0⟩
/-- links by places: below first -/
def RawL (m : Int) (ips : List Pr) : Prop := ips.Nodup ∧ ∀ q ∈ ips, 0 ≤ q.1 ∧ q.1 < q.2 ∧ q.2 < m
theorem raw_okl {n : Nat} {ips : List Pr} (h : RawL (n : Int) ips) : Okl n ips := h.2
theorem okl_len {n : Nat} {ls : List Pr} (ok : Okl n ls) (nd : ls.Nodup) (hn : n ≤ 60) : ls.length ≤ 10000 := by
  rw [← sortP_len]
  exact ks_len ok.sort (sortP_up _) ((sortP_perm ls).nodup_iff.mpr nd) hn
theorem raw_len {m : Int} {ips : List Pr} (h : RawL m ips) (hm : m ≤ 60) : ips.length ≤ 10000 := okl_len (n := 60) (fun q hq => by have := h.2 q hq; omega) h.1 (Nat.le_refl _)
theorem raw_add {m : Int} {ips : List Pr} {cs : List Int} (h : RawL m ips) (nd : cs.Nodup) (hc : ∀ c ∈ cs, 0 ≤ c ∧ c < m) : RawL (m + 1) (ips ++ cs.map fun c => (c, m)) := by
  refine ⟨List.nodup_append.mpr ⟨h.1, nd_map nd fun x _ y _ e => congrArg Prod.fst e, fun a ha b hb e => ?_⟩, fun q hq => ?_⟩
  · obtain ⟨c, _, rfl⟩ := List.mem_map.mp hb
    have := (h.2 a ha).2.2
    rw [e] at this
    simp only at this
    omega
  · rcases List.mem_append.mp hq with hq | hq
    · have := h.2 q hq
      omega
    · obtain ⟨c, hc', rfl⟩ := List.mem_map.mp hq
      have := hc c hc'
      simp only
      omega
theorem mm_swap (a b : Int) : mmP a b = mmP b a := by unfold mmP; exact Prod.ext (Int.min_comm _ _) (Int.max_comm _ _)
def swP (ns : List Int) (q : Pr) : Pr := (tv ns q.2, tv ns q.1)
theorem names_of {n : Nat} {ms ns : List Int} (hp : ns.Perm ms) (hm : ms = rgI 0 (n : Int)) : IsNames n ns := by
  subst hm
  have hl : (rgI 0 (n : Int)).length = n := by unfold rgI; rw [List.length_map, List.length_range]; omega
  have hnd : (rgI 0 (n : Int)).Nodup := by
    unfold rgI
    exact nd_map List.nodup_range fun x _ y _ e => by omega
  refine ⟨hp.length_eq.trans hl, hp.nodup_iff.mpr hnd, fun x hx => ?_⟩
  have := mem_rgI (hp.mem_iff.mp hx)
  omega
theorem ints_perm {ys : List V} {ms : List Int} (h : ys.Perm (ms.map V.int)) : ∃ ns : List Int, ys = ns.map V.int ∧ ns.Perm ms := by
  obtain ⟨ns, rfl⟩ := ints_of_sub (ns := ms) fun y hy => h.mem_iff.mp hy
  refine ⟨ns, rfl, ?_⟩
  have e := h.map (fun v : V => match v with | .int i => i | _ => 0)
  rw [List.map_map, List.map_map] at e
  have f : ((fun v : V => match v with | .int i => i | _ => 0) ∘ V.int) = (id : Int → Int) := rfl
  rw [f, List.map_id, List.map_id] at e
  exact e
theorem lks_perm {G : Hp} {xs ys : List V} {ps : List Pr} (hl : Lks G xs ps) (h : ys.Perm xs) : ∃ qs, Lks G ys qs ∧ qs.Perm ps := by
  obtain ⟨h1, h2⟩ := lks_k hl
  refine ⟨ys.map (kOf G), lks_of fun x hx => h2 x (h.mem_iff.mp hx), ?_⟩
  rw [← h1]
  exact h.map _
end NX

namespace NX
open PySem PySem.Spec PyProof.Rows L2
open Evl (Ex ex_l ex_t fresh_back)
abbrev s__law_links : Stmt := top 27
theorem sc__law_links : FnScope ["_law_well_here", "_law_size", "_law_order", "_law_way", "_law_pairs", "_law_at", "_law_chosen", "_law_below", "_law_pair"] ["_law_well_here", "_law_size"] (defScope s__law_links) := ⟨rfl, rfl, rfl, by decide +kernel, rfl, by decide +kernel, by decide +kernel⟩
/-- links of n stations -/
def spLinksT : Sp := fun vs H Q _ => ∃ (W : Addr) (a b c : Int) (n : Nat), vs = [.ref W, .int (n : Int)] ∧ H W = some (wl a b c) ∧ 1 ≤ n ∧ n ≤ 60 ∧
  ∀ xs ps q H' G' a' b' c', Ex (cut H [(W, wl a b c)]) G' → Own G' [(W, wl a' b' c'), (q, .lst xs)] H' → Lks G' xs ps → Okl n ps → ps.Nodup → Q (.ref q) H'
theorem n_linksT {G H : Hp} {L : List (Addr × HO)} {W : Addr} {a b c : Int} {n : Nat} {Q : VK} {E : XK} (S : Own G ((W, wl a b c) :: L) H) (h1 : 1 ≤ n) (h2 : n ≤ 60)
    (k : ∀ xs ps q G1 H1 a' b' c', Ex G G1 → Own G1 ((W, wl a' b' c') :: (q, .lst xs) :: L) H1 → Lks G1 xs ps → Okl n ps → ps.Nodup → Q (.ref q) H1) : spLinksT [.ref W, .int (n : Int)] H Q E :=
  ⟨W, a, b, c, n, rfl, S.get0, h1, h2, fun xs ps q H' G' a' b' c' e T hl ok nd => by
    obtain ⟨S1, e1, e2⟩ := S.backG e T
    exact k xs ps q _ H' a' b' c' e1 S1 (Paired.mapP hl fun _ _ ⟨t, x, y⟩ => ⟨t, x, e2 _ _ rfl y⟩) ok nd⟩
section
variable {P : Program} {w : World} {K : PySem.W.Frag} {mg : Str → Option Value} {base : Heap}
theorem ok_linksT {f : Addr} {fd : FuncData} (F : Fun K "_law_links" "_law_links" s__law_links f fd) (T : Txt mg) (c__law_take : Cal P w K mg base 1 "_law_take" ["_law_well_here", "_law_bound"] [] spTake)
    (c__law_mixed : Cal P w K mg base 2 "_law_mixed" ["_law_well_here", "_law_some"] [] (spMixed K)) : FnOk P w K mg base CX0 3 f fd ["_law_well_here", "_law_size"] spLinksT := by
  refine F.ok sc__law_links (fun vs H Q E h => ?_) (fun cdv A outer s H vs Q E hr h => ?_)
  · obtain ⟨W, a, b, c, n, rfl, _⟩ := h
    rfl
  · obtain ⟨W, a, b, c, n, rfl, hW, hn1, hn60, k⟩ := h
    have S0 := Own.give (o := wl a b c) hW
    generalize cut H [(W, wl a b c)] = G at S0 k
    refine ⟨_, (pss_cons (ps_set (i := 2) sc__law_links.nd rfl (Or.inr rfl) (pe_cal c__law_mixed (hr.mono (by first | decide | omega)) passN (pa_cons (pv 0) (pa_cons (pe_listRg rfl (by rfl) T.n_list (prg_1 (by rfl) T.n_range (pv 1))) pa_nil))))
      (pss_cons (ps_set (i := 3) sc__law_links.nd rfl (Or.inr rfl) (pe_cal c__law_take (hr.mono (by first | decide | omega)) passN (pa_cons (pv 0) (pa_cons pe_int pa_nil))))
      (pss_cons (ps_set (i := 4) sc__law_links.nd rfl (Or.inl rfl) (pe_lst pa_nil))
      (pss_cons (ps_for PassesOwn.never rfl (pi_range2 (by rfl) T.n_range (pa_cons pe_int (pa_cons (pv 1) pa_nil))) (pg_name (i := 5) sc__law_links.nd rfl (Or.inr rfl)) (pss_cons (ps_set (i := 6) sc__law_links.nd rfl (Or.inl rfl) (pe_lst (pa_cons (pe_cal c__law_take (hr.mono (by first | decide | omega)) passN (pa_cons (pv 0) (pa_cons (pv 5) pa_nil))) pa_nil)))
      (pss_cons (ps_if (pt_cmpR op_lt (pv 3) pe_int (nomark _)) (pss_one (ps_setLc (i := 6) (own := [("_law_below", 7)]) (by rfl) sc__law_links.nd rfl rfl (sw_true rfl rfl rfl (by decide +kernel)) (pi_range1 (by rfl) T.n_range (pa_cons (pv 5) pa_nil)) (blkOk_by (own := [("_law_below", 7)]) (N := ["_law_well_here", "_law_size", "_law_order", "_law_way", "_law_pairs", "_law_at", "_law_chosen", "_law_below", "_law_pair"]) (sc := defScope s__law_links) (by decide +kernel)) (fun _ _ _ _ _ => (pg_name (i := 7) sc__law_links.nd rfl (Or.inl rfl))) (fun _ _ _ _ _ => (pts_one (pt_cmpR op_eq (pe_cal c__law_take (hr.mono (by first | decide | omega)) passN (pa_cons (pv 0) (pa_cons (pe_ix (ix_listK (K := K)) (pe_lst (pa_cons pe_int (pa_cons pe_int pa_nil))) (pv 3) (fun _ _ => rfl)) pa_nil))) pe_int (nomark _)))) (fun _ _ _ _ _ => (pv 7)))) (pss_one (ps_if (pt_cmpR op_eq (pv 3) pe_int (nomark _)) (pss_one (ps_set (i := 6) sc__law_links.nd rfl (Or.inl rfl) (pe_op op_catL (pe_lst (pa_cons (pe_op op_sub (pv 5) pe_int) pa_nil)) (pe_op op_rep (pe_lst (pa_cons pe_int pa_nil)) (pe_callTy call_intN (by rfl) T.n_int (by decide +kernel) (pa_cons (pe_and (pe_cmpR op_eq (pv 5) (pe_op op_sub (pv 1) pe_int) (nomark _)) (pe_one (pe_cmpR op_gt (pv 1) pe_int (nomark _)))) pa_nil)))))) (pss_one (ps_if (pt_cmpR op_eq (pv 3) pe_int (nomark _)) (pss_one (ps_set (i := 6) sc__law_links.nd rfl (Or.inl rfl) (pe_callB (cr_sortedSet rfl) (by rfl) T.n_sorted (by decide +kernel) (pa_cons (pe_callTy (cr_setL (K := K) rfl) (by rfl) T.n_set (by decide +kernel) (pa_cons (pe_op op_catL (pv 6) (pe_lst (pa_cons (pe_cal c__law_take (hr.mono (by first | decide | omega)) passN (pa_cons (pv 0) (pa_cons (pv 5) pa_nil))) pa_nil))) pa_nil)) pa_nil)))) (pss_one (ps_if (pt_cmpR op_eq (pv 3) pe_int (nomark _)) (pss_one (ps_set (i := 6) sc__law_links.nd rfl (Or.inl rfl) (pe_listRg rfl (by rfl) T.n_list (prg_1 (by rfl) T.n_range (pv 5))))) pss_nil)))))))
      (pss_one (ps_expr (pe_bm PySem.F.plainAttrs_list PySem.F.slot_list_extend PySem.F.type_list_extend mt_extend (pv 4) (pa_cons (pe_lc (own := [("_law_below", 7)]) (by rfl) sc__law_links.nd (pi_list (pv 6)) (blkOk_by (own := [("_law_below", 7)]) (N := ["_law_well_here", "_law_size", "_law_order", "_law_way", "_law_pairs", "_law_at", "_law_chosen", "_law_below", "_law_pair"]) (sc := defScope s__law_links) (by decide +kernel)) (fun _ _ _ _ _ => (pg_name (i := 7) sc__law_links.nd rfl (Or.inl rfl))) (fun _ _ _ _ _ => pts_nil) (fun _ _ _ _ _ => (pe_tup (pa_cons (pe_ix (ix_listK (K := K)) (pv 2) (pv 5) (fun _ _ => rfl)) (pa_cons (pe_ix (ix_listK (K := K)) (pv 2) (pv 7) (fun _ _ => rfl)) pa_nil))))) pa_nil)))))))
      (pss_one (ps_ret (pe_cal c__law_mixed (hr.mono (by first | decide | omega)) passN (pa_cons (pv 0) (pa_cons (pe_lc (own := [("_law_pair", 8)]) (by rfl) sc__law_links.nd (pi_list (pv 4)) (blkOk_by (own := [("_law_pair", 8)]) (N := ["_law_well_here", "_law_size", "_law_order", "_law_way", "_law_pairs", "_law_at", "_law_chosen", "_law_below", "_law_pair"]) (sc := defScope s__law_links) (by decide +kernel)) (fun _ _ _ _ _ => (pg_name (i := 8) sc__law_links.nd rfl (Or.inl rfl))) (fun _ _ _ _ _ => pts_nil) (fun _ _ _ _ _ => (pe_tup (pa_cons (pe_callB (cr_minT (K := K) rfl) (by rfl) T.n_min (by decide +kernel) (pa_cons (pv 8) pa_nil)) (pa_cons (pe_callB (cr_maxT (K := K) rfl) (by rfl) T.n_max (by decide +kernel) (pa_cons (pv 8) pa_nil)) pa_nil))))) pa_nil))))))))), ?_⟩
    walk_at "go"
    refine n_rgG S0 (by omega) fun rp G1 H1 _ e1 _ hrp S1 => ?_
    rw [rgV_eq] at hrp
    walk_at "go"
    refine n_mixed S1 (SqL.of hrp) (data_ints K _ _) (by rw [List.length_map]; unfold rgI; rw [List.length_map, List.length_range]; omega) fun nys nq H2 a2 b2 c2 hnp _ S2 => ?_
    obtain ⟨ns, rfl, hperm⟩ := ints_perm hnp
    have hns := names_of (n := n) hperm rfl
    obtain ⟨S3, e3, hnq⟩ := S2.swap.freeze
    generalize upd G1 nq (.lst (ns.map V.int)) = G3 at S3 e3 hnq
    walk_at "go"
    refine n_take S3 ⟨by decide, by decide⟩ fun wy a4 b4 c4 H4 hw0 hw6 S4 => ?_
    walk_at "go"
    refine n_lst S4 (by decide) fun pq H5 hpq S5 => ?_
    walk_at "go"
    refine w_rng2 (fun i σ' H' => (∃ x1 x2 x3 x4, σ' = [some (.ref W), some (.int (n : Int)), some (.ref nq), some (.int wy), some (.ref pq), x1, x2, x3, x4]) ∧ ∃ (G' : Hp) (a' b' c' : Int) (xs : List V) (ips : List Pr),
      Ex G3 G' ∧ Own G' [(W, wl a' b' c'), (pq, .lst xs)] H' ∧ Lks G' xs (ips.map (swP ns)) ∧ RawL (1 + (i : Int)) ips ∧ 1 + (i : Int) ≤ (n : Int)) ⟨by decide, by decide, by omega, by omega⟩
      ⟨⟨_, _, _, _, rfl⟩, G3, a4, b4, c4, [], [], Ex.refl _, S5.swap, .nil, ⟨List.nodup_nil, fun q hq => nomatch hq⟩, by omega⟩ ?_ ?_
    · rintro i σ' H' hi ⟨⟨x1, x2, x3, x4, rfl⟩, G', a', b', c', xs, ips, eG, S, hl, hraw, _⟩
      have hlen : xs.length ≤ 10000 := by
        rw [pr_len hl, List.length_map]
        exact raw_len hraw (by omega)
      walk_at "go"
      refine n_take S ⟨by omega, by omega⟩ fun r5 a5 b5 c5 H6 h50 h51 S6 => ?_
      walk_at "go"
      refine n_lst S6 (by show 1 ≤ 10000000; decide) fun cq H7 hcq S7 => ?_
      refine s_name ?_
      refine s_seq ?_
      refine s_join (fun σ2 H2 => (∃ (cq : Addr) (x3 x4 : Option V) (G2 : Hp) (a b c : Int) (cs : List Int), σ2 = [some (.ref W), some (.int (n : Int)), some (.ref nq), some (.int wy), some (.ref pq), some (.int (1 + (i : Int))), some (.ref cq), x3, x4] ∧ Ex G' G2 ∧ Own G2 [(W, wl a b c), (pq, .lst xs)] H2 ∧
        G2 cq = some (.lst (cs.map V.int)) ∧ cs.Nodup ∧ ∀ x ∈ cs, 0 ≤ x ∧ x < 1 + (i : Int))) ?_ (fun n' hn' => ?_)
      · rintro σ2 H2 ⟨cq, x3, x4, G2, a, b, c, cs, rfl, e2, S, hcq, hnd, hcs⟩
        have hcl : cs.length ≤ 10000 := by
          have z := raw_add (m := 1 + (i : Int)) (ips := []) ⟨List.nodup_nil, fun q hq => nomatch hq⟩ hnd hcs
          have z2 := raw_len z (by omega)
          rw [List.length_append, List.length_map, List.length_nil] at z2
          omega
        walk_at "go"
        refine ⟨tyL (SqL.of S.get1), ?_⟩
        walk_at "go"
        refine v_list (xs := cs.map V.int) (fun j acc G4 L4 => L4 = [(W, wl a b c), (pq, .lst xs)] ∧ Lks G4 acc ((cs.take j).map fun x => (tv ns (1 + (i : Int)), tv ns x))) S (SqL.of hcq) (by rw [List.length_map]; omega) ⟨rfl, .nil⟩ ?_ ?_
        · rintro D j x acc G4 L4 H4 hx hj e4 hl4 ⟨rfl, ha⟩ S4
          obtain ⟨y, hy, rfl⟩ := get_map hx
          have hyr := hcs y (List.mem_of_getElem? hy)
          have hnq4 := S4.ex _ _ (e4 _ _ (e2 _ _ (eG _ _ hnq)))
          walk_at "go"
          refine ⟨rfl, ?_⟩
          walk_at "go"
          refine g_ixL (SqL.of hnq4) (at_tv (by omega) (by rw [hns.1]; omega)) ?_
          walk_at "go"
          refine g_ixL (SqL.of hnq4) (at_tv (by omega) (by rw [hns.1]; omega)) ?_
          walk_at "go"
          refine n_tup S4 (by show 2 ≤ 10000000; decide) fun t G6 H6 _ e6 _ ht S6 => ?_
          refine c_yes S6 (e4.trans e6) hl4 hj ⟨rfl, ?_⟩
          rw [take_snoc hy, List.map_append]
          exact pr_snoc (ha.mono e6) ⟨t, rfl, ht⟩
        · rintro D acc G4 L4 H4 e4 hl4 ⟨rfl, ha⟩ S4
          rw [List.length_map] at hl4
          rw [List.length_map, List.take_length] at ha
          walk_at "go"
          refine n_ext S4.rot S4.get0 (by omega) fun H5 S5 => ?_
          refine ⟨⟨_, _, _, _, rfl⟩, G4, a, b, c, xs ++ acc, ips ++ cs.map (fun x => (x, 1 + (i : Int))), eG.trans (e2.trans e4), (S5.swap.forget).swap, ?_, ?_, by omega⟩
          · rw [List.map_append, List.map_map]
            exact pr_app (hl.mono (e2.trans e4)) ha
          · have z := raw_add hraw hnd hcs
            have e : (1 : Int) + ((i + 1 : Nat) : Int) = 1 + (i : Int) + 1 := by omega
            rw [e]
            exact z
      · have one : ∀ v : Int, [v].Nodup := fun v => by simp
        walk_at "go"
        refine if_2 (fun e => ?_) (fun e => ?_)
        · have e := of_decide_eq_true e
          walk_at "go"
          refine v_rng1 (j := 1 + (i : Int)) (fun j acc G4 L4 => ∃ (a b c : Int) (cs : List Int), L4 = [(W, wl a b c), (pq, .lst xs)] ∧ acc = cs.map V.int ∧ cs.Nodup ∧ ∀ x ∈ cs, 0 ≤ x ∧ x < (j : Int)) S7.forget (by omega) ⟨a5, b5, c5, [], rfl, rfl, List.nodup_nil, fun x hx => nomatch hx⟩ ?_ ?_
          · rintro D j acc G4 L4 H4 hj hj' e4 hl4 ⟨a, b, c, cs, rfl, rfl, hnd, hcs⟩ S4
            walk_at "go"
            refine ⟨rfl, ?_⟩
            walk_at "go"
            refine n_lstG S4 (by show 2 ≤ 10000000; decide) fun lq G6 H6 _ e6 _ hlq S6 => ?_
            obtain ⟨v, hv, hv1⟩ : ∃ v : Int, atI [V.int 3, V.int 2] wy = some (.int v) ∧ (v = 3 ∨ v = 2) := by
              have : wy = 0 ∨ wy = 1 := by omega
              rcases this with rfl | rfl
              · exact ⟨3, rfl, .inl rfl⟩
              · exact ⟨2, rfl, .inr rfl⟩
            walk_at "go"
            refine g_ixL (SqL.of (S6.ex _ _ hlq)) hv ?_
            walk_at "go"
            refine n_take S6.swap ⟨by omega, by omega⟩ fun r8 a8 b8 c8 H8 _ _ S8 => ?_
            walk_at "go"
            refine if_2 (fun _ => ?_) (fun _ => ?_)
            · walk_at "go"
              refine c_yes S8.swap (e4.trans e6) hl4 hj' ⟨a8, b8, c8, cs ++ [(j : Int)], rfl, by rw [List.map_append] <;> rfl, List.nodup_append.mpr ⟨hnd, one _, fun x hx y hy z => ?_⟩, fun x hx => ?_⟩
              · have := hcs x hx
                have hy : y = (j : Int) := by simpa using hy
                omega
              · rcases List.mem_append.mp hx with hx | hx
                · have := hcs x hx
                  omega
                · have hx : x = (j : Int) := by simpa using hx
                  omega
            · exact c_no S8.swap (e4.trans e6) hl4 ⟨a8, b8, c8, cs, rfl, rfl, hnd, fun x hx => by have := hcs x hx; omega⟩
          · rintro D acc G4 L4 H4 e4 hl4 ⟨a, b, c, cs, rfl, rfl, hnd, hcs⟩ S4
            obtain ⟨S6, e6, h6⟩ := S4.freeze
            walk_at "go"
            exact hn' _ _ ⟨D, _, _, _, a, b, c, cs, rfl, e4.trans e6, S6, h6, hnd, fun x hx => by have := hcs x hx; omega⟩
        · have e := of_decide_eq_false e
          walk_at "go"
          refine if_2 (fun e2 => ?_) (fun e2 => ?_)
          · walk_at "go"
            refine n_lst S7.forget (by show 1 ≤ 10000000; decide) fun q1 H8 _ S8 => ?_
            walk_at "go"
            refine n_lst S8 (by show 1 ≤ 10000000; decide) fun q2 H9 _ S9 => ?_
            walk_at "go"
            refine if_2 (fun e3 => ?_) (fun e3 => ?_)
            · have e3 := of_decide_eq_true e3
              walk_at "go"
              refine n_rep S9 (by split <;> omega) (by split <;> omega) fun q3 G10 H10 _ e10 _ hq3 S10 => ?_
              refine n_catG S10.forget (S10.l0) (SqL.of (S10.ex _ _ hq3)) (by simp; split <;> decide) fun q4 G11 H11 _ e11 _ hq4 S11 => ?_
              walk_at "go"
              by_cases c2 : (2 : Int) < (n : Int)
              · refine hn' _ _ ⟨q4, _, _, G11, a5, b5, c5, [1 + (i : Int) - 1, 0], rfl, e10.trans e11, S11, ?_, ?_, ?_⟩
                · rw [hq4]
                  simp [c2]
                · simp
                  omega
                · intro x hx
                  simp only [List.mem_cons, List.not_mem_nil, or_false] at hx
                  omega
              · refine hn' _ _ ⟨q4, _, _, G11, a5, b5, c5, [1 + (i : Int) - 1], rfl, e10.trans e11, S11, ?_, one _, ?_⟩
                · rw [hq4]
                  simp [c2]
                · intro x hx
                  simp only [List.mem_cons, List.not_mem_nil, or_false] at hx
                  omega
            · walk_at "go"
              refine n_rep S9 (by decide) (by decide) fun q3 G10 H10 _ e10 _ hq3 S10 => ?_
              refine n_catG S10.forget (S10.l0) (SqL.of (S10.ex _ _ hq3)) (by simp) fun q4 G11 H11 _ e11 _ hq4 S11 => ?_
              walk_at "go"
              refine hn' _ _ ⟨q4, _, _, G11, a5, b5, c5, [1 + (i : Int) - 1], rfl, e10.trans e11, S11, ?_, one _, ?_⟩
              · rw [hq4]
                simp
              · intro x hx
                simp only [List.mem_cons, List.not_mem_nil, or_false] at hx
                omega
          · walk_at "go"
            refine if_2 (fun e3 => ?_) (fun e3 => ?_)
            · walk_at "go"
              refine n_take S7.swap ⟨by omega, by omega⟩ fun r8 a8 b8 c8 H8 h80 h81 S8 => ?_
              walk_at "go"
              refine n_lst S8 (by show 1 ≤ 10000000; decide) fun q1 H9 _ S9 => ?_
              refine n_cat S9 (SqL.of S9.get2) (S9.l0) (by show 1 + 1 ≤ 10000000; decide) fun q2 H10 _ S10 => ?_
              walk_at "go"
              refine n_setL (ns := [r5, r8]) S10 S10.l0 (by show 2 < 60; decide) fun q3 c H11 _ hc S11 => ?_
              walk_at "go"
              refine n_sortSet S11 (by have : ([r5, r8] : List Int).length = 2 := rfl; omega) fun ms q4 G12 H12 hms hmem _ e12 _ hq4 S12 => ?_
              walk_at "go"
              refine hn' _ _ ⟨q4, _, _, G12, a8, b8, c8, ms, rfl, e12, ?_, hq4, hms.imp fun {x y} (h : x < y) => by omega, fun x hx => ?_⟩
              · exact S12.forget.forget.swap.forget
              · have := (hmem x).mp hx
                simp only [List.mem_cons, List.not_mem_nil, or_false] at this
                omega
            · walk_at "go"
              refine if_2 (fun e4 => ?_) (fun e4 => ?_)
              · walk_at "go"
                refine n_rgG S7.forget (by omega) fun q1 G8 H8 _ e8 _ hq1 S8 => ?_
                rw [rgV_eq] at hq1
                walk_at "go"
                refine hn' _ _ ⟨q1, _, _, G8, a5, b5, c5, rgI 0 (1 + (i : Int)), rfl, e8, S8, hq1, ?_, fun x hx => mem_rgI hx⟩
                unfold rgI
                exact nd_map List.nodup_range fun x _ y _ e => by omega
              · obtain ⟨S8, e8, h8⟩ := S7.freeze
                walk_at "go"
                refine hn' _ _ ⟨cq, _, _, _, a5, b5, c5, [r5], rfl, e8, S8, h8, one _, fun x hx => ?_⟩
                simp only [List.mem_cons, List.not_mem_nil, or_false] at hx
                omega
    · rintro σ' H' ⟨⟨x1, x2, x3, x4, rfl⟩, G', a', b', c', xs, ips, eG, S, hl, hraw, _⟩
      have hraw' : RawL (n : Int) ips := by
        have e : 1 + (((n : Int) - 1).toNat : Int) = (n : Int) := by omega
        rw [e] at hraw
        exact hraw
      have ok := raw_okl hraw'
      have hlen := okl_len ok hraw'.1 hn60
      obtain ⟨S6, e6, h6⟩ := S.swap.freeze
      generalize upd G' pq (.lst xs) = G6 at S6 e6 h6
      have hl6 := hl.mono e6
      walk_at "go"
      refine v_list (xs := xs) (fun j acc G7 L7 => L7 = [(W, wl a' b' c')] ∧ Lks G7 acc ((renL ns ips).take j)) S6 (SqL.of h6) (by rw [pr_len hl, List.length_map]; omega) ⟨rfl, .nil⟩ ?_ ?_
      · rintro D j x acc G7 L7 H7 hx hj e7 hl7 ⟨rfl, ha⟩ S7
        obtain ⟨q, hq, t, rfl, ht⟩ := pr_get hl6 hx
        obtain ⟨q0, hq0, rfl⟩ := get_map hq
        have ht' := S7.ex _ _ (e7 _ _ ht)
        walk_at "go"
        refine ⟨rfl, ?_⟩
        walk_at "go"
        refine n_minT2 ht' ?_
        walk_at "go"
        refine n_maxT2 ht' ?_
        walk_at "go"
        refine n_tup S7 (by show 2 ≤ 10000000; decide) fun t2 G8 H8 _ e8 _ ht2 S8 => ?_
        refine c_yes S8 (e7.trans e8) hl7 hj ⟨rfl, ?_⟩
        have eq : (renL ns ips)[j]? = some (mmP (tv ns q0.1) (tv ns q0.2)) := by unfold renL; rw [List.getElem?_map, hq0] <;> rfl
        rw [take_snoc eq]
        refine pr_snoc (ha.mono e8) ⟨t2, rfl, ?_⟩
        rw [mm_swap]
        exact ht2
      · rintro D acc G7 L7 H7 e7 hl7 ⟨rfl, ha⟩ S7
        have el : xs.length = (renL ns ips).length := by rw [pr_len hl, List.length_map, ren_len]
        rw [el, List.take_length] at ha
        obtain ⟨S8, e8, h8⟩ := S7.freeze
        have ha8 := ha.mono e8
        generalize upd G7 D (.lst acc) = G8 at S8 e8 h8 ha8
        walk_at "go"
        refine n_mixed S8 (SqL.of h8) (data_lks ha8) (by rw [pr_len ha, ren_len]; omega) fun ys q H9 a9 b9 c9 hpm _ S9 => ?_
        obtain ⟨qs, hqs, hperm2⟩ := lks_perm ha8 hpm
        exact k ys qs q H9 G8 a9 b9 c9 ((e1.trans e3).trans ((eG.trans e6).trans (e7.trans e8))) S9 hqs (fun z hz => ren_ok hns ok z (hperm2.mem_iff.mp hz)) (hperm2.nodup_iff.mpr (ren_nd hns ok hraw'.1))
end
end NX

namespace NX
open PySem PySem.Spec PyProof.Rows L2
open Evl (Ex ex_l ex_t fresh_back)
open LamX (CodeO TabB)
abbrev s__law_stations_right : Stmt := top 29
theorem sc__law_stations_right : FnScope ["_law_well_here", "_law_web", "_law_size", "_law_odd", "_law_first", "_law_second", "_law_good", "_law_found"] ["_law_well_here", "_law_web", "_law_size"] (defScope s__law_stations_right) := ⟨rfl, rfl, rfl, by decide +kernel, rfl, by decide +kernel, by decide +kernel⟩
/-- the name of a maker's lambdas -/
def qS (c : Addr) : Str := (envOfC "_law_stations_right" (defScope s__law_stations_right) 0 0 (.ref c)).qual ++ "<lambda>"
/-- a part of the law: the well's numbers and the tables may change -/
def spPart (C : Addr) (T : List (Addr × Str)) : Sp := fun vs H Q _ => ∃ (W a : Addr) (x y z : Int) (n : Nat) (ks : List Pr) (G : Hp) (f : Addr → Array Value), vs = [.ref W, .ref a, .int (n : Int)] ∧ Own G ((W, wl x y z) :: tl T f) H ∧ TabsG G T f ∧ NetAt C (noT G) a n ks ∧ n ≤ 10 ∧
  ∀ H' G' f' x' y' z', Ex (noT G) (noT G') → Own G' ((W, wl x' y' z') :: tl T f') H' → TabsG G' T f' → Q (.bl true) H'
section
variable {P : Program} {w : World} {K : PySem.W.Frag} {mg : Str → Option Value} {base : Heap} {C CS CN CM C0 c Pt : Addr} {Cs : Nat → Addr} {TS : List (Addr × Str)}
theorem ok_stR {f : Addr} {fd : FuncData} (F : FunC K "_law_stations_right" "_law_stations_right" s__law_stations_right f fd c) (T : Txt mg) (NC : NetC K C) (TB : TabB base mg c Pt) (hmT : (Pt, qS c) ∈ TS) (hnT : (TS.map Prod.fst).Nodup) (KS : Kind8 K C0 Cs CS 0)
    (L__law_outcome : LamDefG P w K mg base "_law_outcome" "_law_ask" (OutT K C0 Cs)) (c__law_take : Cal P w K mg base 1 "_law_take" ["_law_well_here", "_law_bound"] [] spTake)
    (c_linkedx : Cal P w K mg base 5 "linked" ["network", "one", "other"] [] (spBad2 C CS)) (c_unlinkedx : Cal P w K mg base 5 "unlinked" ["network", "one", "other"] [] (spBad2 C CS)) (c_withoutx : Cal P w K mg base 5 "without" ["network", "station"] [] (spWoX C CS CN)) :
    FnOkG P w K mg base 12 f fd ["_law_well_here", "_law_web", "_law_size"] (spPart C TS) := by
  have huT := tab_u hnT hmT
  refine okGC F sc__law_stations_right (fun vs H Q E h => ?_) (fun A outer s H vs Q E hG0 hr h => ?_)
  · obtain ⟨W, a, x, y, z, n, ks, G, ft, rfl, _⟩ := h
    rfl
  · obtain ⟨W, a, x, y, z, n, ks, G, ft, rfl, S0, tg, N, hn, k⟩ := h
    have hu65 : ∀ X : Cx, X.A.units = (A.deeper (envOfC "_law_stations_right" (defScope s__law_stations_right) s.heap.objs.size f (.ref c))).units → X.A.units + 65 < cLine := fun X e => by rw [e]; have := hr.un; omega
    have hG : (A.deeper (envOfC "_law_stations_right" (defScope s__law_stations_right) s.heap.objs.size f (.ref c))).guards = some [] := hG0
    refine ⟨_, (pss_cons (ps_set (i := 3) sc__law_stations_right.nd rfl (Or.inl rfl) (pe_lst (pa_cons (pv 2) (pa_cons (pe_un un_neg pe_int) (pa_cons pe_non (pa_cons pe_bl (pa_cons pe_str (pa_cons (pe_lst (pa_cons pe_int pa_nil)) (pa_cons pe_dnewT (pa_cons (pe_op op_pow pe_int pe_int) pa_nil))))))))))
      (pss_cons (ps_asg (pe_tup (pa_cons (pe_ix ix_list (pv 3) (pe_cal c__law_take (hr.mono (by first | decide | omega)) passN (pa_cons (pv 0) (pa_cons pe_int pa_nil))) (fun _ _ => rfl)) (pa_cons (pe_ix ix_list (pv 3) (pe_cal c__law_take (hr.mono (by first | decide | omega)) passN (pa_cons (pv 0) (pa_cons pe_int pa_nil))) (fun _ _ => rfl)) pa_nil))) (pg_tup (n := 2) rfl (pgs_cons (pg_name (i := 4) sc__law_stations_right.nd rfl (Or.inr rfl)) (pgs_cons (pg_name (i := 5) sc__law_stations_right.nd rfl (Or.inr rfl)) pgs_nil))))
      (pss_cons (ps_set (i := 6) sc__law_stations_right.nd rfl (Or.inr rfl) (pe_cal c__law_take (hr.mono (by first | decide | omega)) passN (pa_cons (pv 0) (pa_cons (pv 2) pa_nil))))
      (pss_cons (ps_set (i := 7) sc__law_stations_right.nd rfl (Or.inl rfl) (pe_lst (pa_cons (pe_lamG (k := 8) L__law_outcome hG TB hmT huT (hr.mono (by first | decide | omega)) (fun A outer s H E f c' hr => (pe_cal c_linkedx (hr.mono (by first | decide | omega)) (passE (takes_of rfl rfl rfl rfl) fun _ _ _ _ z => z) (pa_cons (pv 1) (pa_cons (pv 4) (pa_cons (pv 5) pa_nil))))) (LamX.lamS_by (sc := defScope s__law_stations_right) (by decide +kernel))) pa_nil)))
      (pss_cons (ps_expr (pe_bm PySem.F.plainAttrs_list PySem.F.slot_list_append PySem.F.type_list_append mt_append (pv 7) (pa_cons (pe_lamG (k := 8) L__law_outcome hG TB hmT huT (hr.mono (by first | decide | omega)) (fun A outer s H E f c' hr => (pe_cal c_unlinkedx (hr.mono (by first | decide | omega)) (passE (takes_of rfl rfl rfl rfl) fun _ _ _ _ z => z) (pa_cons (pv 1) (pa_cons (pv 4) (pa_cons (pv 6) pa_nil))))) (LamX.lamS_by (sc := defScope s__law_stations_right) (by decide +kernel))) pa_nil)))
      (pss_cons (ps_if (pt_cmpR (op_neD (Nat.lt_of_succ_lt (hu65 _ rfl))) (pv 7) (pe_op op_rep (pe_lst (pa_cons (pe_tup (pa_cons pe_str (pa_cons (pe_callB (cr_reprV (K := K) hG (hu65 _ rfl)) (by rfl) T.n_repr (by decide +kernel) (pa_cons (pv 4) pa_nil)) pa_nil))) pa_nil)) pe_int) (nomark _)) (pss_one (ps_ret pe_bl)) pss_nil)
      (pss_cons (ps_set (i := 7) sc__law_stations_right.nd rfl (Or.inl rfl) (pe_lst (pa_cons (pe_lamG (k := 8) L__law_outcome hG TB hmT huT (hr.mono (by first | decide | omega)) (fun A outer s H E f c' hr => (pe_cal c_linkedx (hr.mono (by first | decide | omega)) (passE (takes_of rfl rfl rfl rfl) fun _ _ _ _ z => z) (pa_cons (pv 1) (pa_cons (pv 6) (pa_cons (pv 5) pa_nil))))) (LamX.lamS_by (sc := defScope s__law_stations_right) (by decide +kernel))) pa_nil)))
      (pss_cons (ps_expr (pe_bm PySem.F.plainAttrs_list PySem.F.slot_list_append PySem.F.type_list_append mt_append (pv 7) (pa_cons (pe_lamG (k := 8) L__law_outcome hG TB hmT huT (hr.mono (by first | decide | omega)) (fun A outer s H E f c' hr => (pe_cal c_unlinkedx (hr.mono (by first | decide | omega)) (passE (takes_of rfl rfl rfl rfl) fun _ _ _ _ z => z) (pa_cons (pv 1) (pa_cons (pv 6) (pa_cons (pv 5) pa_nil))))) (LamX.lamS_by (sc := defScope s__law_stations_right) (by decide +kernel))) pa_nil)))
      (pss_cons (ps_expr (pe_bm PySem.F.plainAttrs_list PySem.F.slot_list_append PySem.F.type_list_append mt_append (pv 7) (pa_cons (pe_lamG (k := 8) L__law_outcome hG TB hmT huT (hr.mono (by first | decide | omega)) (fun A outer s H E f c' hr => (pe_cal c_withoutx (hr.mono (by first | decide | omega)) (passE (takes_of rfl rfl rfl rfl) fun _ _ _ _ z => z) (pa_cons (pv 1) (pa_cons (pv 5) pa_nil)))) (LamX.lamS_by (sc := defScope s__law_stations_right) (by decide +kernel))) pa_nil)))
      (pss_one (ps_ret (pe_cmpR (op_eqD (Nat.lt_of_succ_lt (hu65 _ rfl))) (pv 7) (pe_op op_rep (pe_lst (pa_cons (pe_tup (pa_cons pe_str (pa_cons (pe_callB (cr_reprV (K := K) hG (hu65 _ rfl)) (by rfl) T.n_repr (by decide +kernel) (pa_cons (pv 5) pa_nil)) pa_nil))) pa_nil)) pe_int) (nomark _))))))))))))), ?_⟩
    have hn1 := N.sz.1
    walk_at "go"
    refine n_lstG S0 (by show 1 ≤ 10000000; decide) fun pl G1 H1 _ e1 _ hpl S1 => ?_
    walk_at "go"
    refine n_dnewG' S1 fun pd G2 H2 e2 hpd S2 => ?_
    walk_at "go"
    refine g_I ⟨by decide, by decide, by decide⟩ ?_
    walk_at "go"
    refine n_lstG S2 (by show 8 ≤ 10000000; decide) fun p3 G3 H3 _ e3 _ hp3 S3 => ?_
    walk_at "go"
    refine n_take S3 ⟨by decide, by decide⟩ fun r4 a4 b4 d4 H4 g4 l4 S4 => ?_
    have odd := fun {r : Int} => odS_at (K := K) (G := noT G3) (n := n) (r := r) (by omega) (noT_of (e3 _ _ (e2 _ _ hpl)) fun ps z => by cases z) (noT_of (e3 _ _ hpd) fun ps z => by cases z)
    obtain ⟨v, t, hv, ov⟩ := odd g4 l4
    walk_at "go"
    refine g_ixL (SqL.of (S4.ex _ _ hp3)) hv ?_
    walk_at "go"
    refine n_take S4 ⟨by decide, by decide⟩ fun r5 a5 b5 d5 H5 g5 l5 S5 => ?_
    obtain ⟨u, tu, hu, ou⟩ := odd g5 l5
    walk_at "go"
    refine g_ixL (SqL.of (S5.ex _ _ hp3)) hu ?_
    walk_at "go"
    refine n_tup S5 (by show 2 ≤ 10000000; decide) fun pt5 Gt Ht _ et _ ht5 St => ?_
    refine s_gtup (SqT.of (St.ex _ _ ht5)) rfl ?_
    walk_at "go"
    refine n_take (n := (n : Int)) St ⟨by omega, by omega⟩ fun r6 a6 b6 d6 H6 g6 l6 S6 => ?_
    obtain ⟨go, rfl⟩ : ∃ go : Nat, r6 = (go : Int) := ⟨r6.toNat, by omega⟩
    have hgo : OkSt n (.int (go : Int)) := ⟨_, rfl, g6, l6⟩
    have e03 : Ex (noT G) (noT G3) := NX.Ex.noT (e1.trans (e2.trans e3))
    have N3 : NetAt C (noT G3) a n ks := N.mono e03
    have tg3 := (((tg.mono e1).mono e2).mono e3).mono et
    have wok : PyData.strOk (Str.ofString "station") = true := by decide +kernel
    walk_at "go"
    refine n_lamN (L := [(W, wl a6 b6 d6)]) S6 tg3 lst1 fun G7 H7 f7 e7 S7 tg7 => ?_
    have c7 : Ex (noT G3) G7 := (NX.Ex.noT et).trans e7
    intro E1 Q1 hE1 _
    walk_at "go"
    have v7 := ov.mono (c7.trans S7.ex)
    refine ⟨a, n, ks, v, u, rfl, N3.mono (c7.trans S7.ex), .inl ⟨v7.odd, fun d H8 e8 hd => hE1 _ _ _ (out_st KS (v7.mono e8).sh hd (n_retG (S7.grow e8) fun p9 G9 H9 _ e9 _ hp9 S9 => ?_))⟩⟩
    walk_at "go"
    refine n_lst S9 (by show 1 ≤ 10000000; decide) fun p10 H10 _ S10 => ?_
    have c9 := c7.trans e9
    have w9 : WT G9 p9 "station" t := hp9
    have tg9 := tg7.mono e9
    walk_at "go"
    refine ⟨tyL S10.l0, ?_⟩
    walk_at "go"
    refine n_lamN (L := [(p10, .lst [.ref p9]), (W, wl a6 b6 d6)]) S10 tg9 lst2 fun G11 H11 f11 e11 S11 tg11 => ?_
    have c11 := ex_step c9 e11
    have w11 := w9.lam e11
    intro E2 Q2 hE2 _
    walk_at "go"
    have v11 := ov.mono (c11.trans S11.ex)
    refine ⟨a, n, ks, v, .int (go : Int), rfl, N3.mono (c11.trans S11.ex), .inl ⟨v11.odd, fun d H12 e12 hd => hE2 _ _ _ (out_st KS (v11.mono e12).sh hd (n_retG (S11.grow e12) fun p13 G13 H13 _ e13 _ hp13 S13 => ?_))⟩⟩
    walk_at "go"
    have w13 : WT G13 p13 "station" t := hp13
    refine n_app S13 (by show 1 ≤ 1000000; decide) fun H14 S14 => ?_
    have c13 := c11.trans e13
    walk_at "go"
    have v14 := ov.mono (c13.trans S14.ex)
    refine n_reprV v14.sh ?_
    walk_at "go"
    refine n_tup S14 (by show 2 ≤ 10000000; decide) fun p15 G15 H15 _ e15 _ hp15 S15 => ?_
    have w15 : WT G15 p15 "station" t := hp15
    walk_at "go"
    refine n_lstG S15 (by show 1 ≤ 10000000; decide) fun p16 G16 H16 _ e16 _ hp16 S16 => ?_
    walk_at "go"
    refine n_repV S16 (m := 2) (S16.ex _ _ hp16) (by decide) fun p17 G17 H17 e17 hp17 S17 => ?_
    have e1317 : Ex G13 G17 := e15.trans (e16.trans e17)
    refine n_neWT2 wok ov.ok (SqL.of S17.get0) (SqL.of (S17.ex _ _ hp17)) ((w11.mono e13).mono (e1317.trans S17.ex)) (w13.mono (e1317.trans S17.ex)) (w15.mono ((e16.trans e17).trans S17.ex)) ?_
    walk_at "go"
    have S18 := S17.forget
    have c17 : Ex (noT G3) G17 := c13.trans e1317
    have tg17 := (tg11.mono e13).mono e1317
    refine n_lamN (L := [(W, wl a6 b6 d6)]) S18 tg17 lst1 fun G19 H19 f19 e19 S19 tg19 => ?_
    have c19 := ex_step c17 e19
    intro E3 Q3 hE3 _
    walk_at "go"
    have u19 := ou.mono (c19.trans S19.ex)
    refine ⟨a, n, ks, .int (go : Int), u, rfl, N3.mono (c19.trans S19.ex), .inr ⟨hgo, u19.odd, fun d H20 e20 hd => hE3 _ _ _ (out_st KS (u19.mono e20).sh hd (n_retG (S19.grow e20) fun p21 G21 H21 _ e21 _ hp21 S21 => ?_))⟩⟩
    walk_at "go"
    refine n_lst S21 (by show 1 ≤ 10000000; decide) fun p22 H22 _ S22 => ?_
    have c21 := c19.trans e21
    have w21 : WT G21 p21 "station" tu := hp21
    have tg21 := tg19.mono e21
    walk_at "go"
    refine ⟨tyL S22.l0, ?_⟩
    walk_at "go"
    refine n_lamN (L := [(p22, .lst [.ref p21]), (W, wl a6 b6 d6)]) S22 tg21 lst2 fun G23 H23 f23 e23 S23 tg23 => ?_
    have c23 := ex_step c21 e23
    have w23 := w21.lam e23
    intro E4 Q4 hE4 _
    walk_at "go"
    have u23 := ou.mono (c23.trans S23.ex)
    refine ⟨a, n, ks, .int (go : Int), u, rfl, N3.mono (c23.trans S23.ex), .inr ⟨hgo, u23.odd, fun d H24 e24 hd => hE4 _ _ _ (out_st KS (u23.mono e24).sh hd (n_retG (S23.grow e24) fun p25 G25 H25 _ e25 _ hp25 S25 => ?_))⟩⟩
    walk_at "go"
    have w25 : WT G25 p25 "station" tu := hp25
    refine n_app S25 (by show 1 ≤ 1000000; decide) fun H26 S26 => ?_
    have c25 := c23.trans e25
    have tg25 := tg23.mono e25
    walk_at "go"
    refine ⟨tyL S26.l0, ?_⟩
    walk_at "go"
    refine n_lamN (L := [(p22, .lst [.ref p21, .ref p25]), (W, wl a6 b6 d6)]) S26 tg25 lst2 fun G27 H27 f27 e27 S27 tg27 => ?_
    have c27 := ex_step c25 e27
    have w27 := (w23.mono e25).lam e27
    have x27 := w25.lam e27
    intro E5 Q5 hE5 _
    walk_at "go"
    have u27 := ou.mono (c27.trans S27.ex)
    refine ⟨a, n, ks, u, rfl, N3.mono (c27.trans S27.ex), .inl ⟨u27.odd, fun d H28 e28 hd => hE5 _ _ _ (out_st KS (u27.mono e28).sh hd (n_retG (S27.grow e28) fun p29 G29 H29 _ e29 _ hp29 S29 => ?_))⟩⟩
    walk_at "go"
    have w29 : WT G29 p29 "station" tu := hp29
    refine n_app S29 (by show 2 ≤ 1000000; decide) fun H30 S30 => ?_
    have c29 := c27.trans e29
    walk_at "go"
    have u30 := ou.mono (c29.trans S30.ex)
    refine n_reprV u30.sh ?_
    walk_at "go"
    refine n_tup S30 (by show 2 ≤ 10000000; decide) fun p31 G31 H31 _ e31 _ hp31 S31 => ?_
    have w31 : WT G31 p31 "station" tu := hp31
    walk_at "go"
    refine n_lstG S31 (by show 1 ≤ 10000000; decide) fun p32 G32 H32 _ e32 _ hp32 S32 => ?_
    walk_at "go"
    refine n_repV S32 (m := 3) (S32.ex _ _ hp32) (by decide) fun p33 G33 H33 e33 hp33 S33 => ?_
    have e2933 : Ex G29 G33 := e31.trans (e32.trans e33)
    refine n_eqWT3 wok ou.ok (SqL.of S33.get0) (SqL.of (S33.ex _ _ hp33)) ((w27.mono e29).mono (e2933.trans S33.ex)) ((x27.mono e29).mono (e2933.trans S33.ex)) (w29.mono (e2933.trans S33.ex)) (w31.mono ((e32.trans e33).trans S33.ex)) ?_
    walk_at "go"
    exact k H33 G33 f27 a6 b6 d6 (e03.trans (ex_nn (c29.trans e2933))) S33.forget ((tg27.mono e29).mono e2933)
end
end NX

namespace NX
/-! ### the smallest number that is not in use; switchings; the states that can arise -/
theorem len_le_of_sub {α : Type} [BEq α] [LawfulBEq α] : ∀ {l m : List α}, l.Nodup → (∀ x ∈ l, x ∈ m) → l.length ≤ m.length
  | [], _, _, _ => Nat.zero_le _
  | x :: l, m, hn, hs => by
    have hx := hs x List.mem_cons_self
    obtain ⟨h1, h2⟩ := List.nodup_cons.mp hn
    have ih := len_le_of_sub (l := l) (m := m.erase x) h2 fun y hy => (List.mem_erase_of_ne fun (e : y = x) => h1 (e ▸ hy)).mpr (hs y (List.mem_cons_of_mem _ hy))
    rw [List.length_erase_of_mem hx] at ih
    have := List.length_pos_of_mem hx
    rw [List.length_cons]
    omega
structure IsMex (us : List Int) (c : Int) : Prop where
  pos : 1 ≤ c
  no : c ∉ us
  all : ∀ d, 1 ≤ d → d < c → d ∈ us
theorem IsMex.uniq {us us' : List Int} {c d : Int} (h : ∀ x, x ∈ us ↔ x ∈ us') (a : IsMex us c) (b : IsMex us' d) : c = d := by
  rcases Int.lt_trichotomy c d with e | e | e
  · exact absurd ((h _).mpr (b.all c a.pos e)) a.no
  · exact e
  · exact absurd ((h _).mp (a.all d b.pos e)) b.no
theorem below_le {us : List Int} {c : Int} (h : ∀ d, 1 ≤ d → d < c → d ∈ us) : c ≤ (us.length : Int) + 1 := by
  have nd : ((List.range (c - 1).toNat).map fun (k : Nat) => (k : Int) + 1).Nodup :=
    List.pairwise_map.mpr (by
      refine List.Pairwise.imp ?_ List.nodup_range
      intro a b ne e
      exact ne (by omega))
  have := len_le_of_sub nd fun x hx => by
    obtain ⟨k, hk, rfl⟩ := List.mem_map.mp hx
    have := List.mem_range.mp hk
    exact h _ (by omega) (by omega)
  rw [List.length_map, List.length_range] at this
  omega
theorem mex_ex (us : List Int) : ∃ c, IsMex us c := by
  have key : ∀ (k : Nat) (c : Int), 1 ≤ c → (us.length : Int) + 2 - c ≤ k → (∀ d, 1 ≤ d → d < c → d ∈ us) → ∃ c, IsMex us c := by
    intro k
    induction k with
    | zero => intro c h1 h2 h3; have := below_le h3; omega
    | succ k ih =>
      intro c h1 h2 h3
      by_cases hc : c ∈ us
      · refine ih (c + 1) (by omega) (by omega) fun d a b => ?_
        by_cases e : d = c
        · rw [e]; exact hc
        · exact h3 d a (by omega)
      · exact ⟨c, h1, hc, h3⟩
  exact key (us.length + 1) 1 (by decide) (by omega) fun d a b => by omega
noncomputable def mexL (us : List Int) : Int := (mex_ex us).choose
theorem mexL_is (us : List Int) : IsMex us (mexL us) := (mex_ex us).choose_spec
theorem mexL_of {us : List Int} {c : Int} (h : IsMex us c) : mexL us = c := (mexL_is us).uniq (fun _ => Iff.rfl) h
theorem mexL_congr {us us' : List Int} (h : ∀ x, x ∈ us ↔ x ∈ us') : mexL us = mexL us' := (mexL_is us).uniq h (mexL_is us')
theorem mexL_le (us : List Int) : 1 ≤ mexL us ∧ mexL us ≤ (us.length : Int) + 1 := ⟨(mexL_is us).pos, below_le (mexL_is us).all⟩
abbrev Nbr := Int → List Int
/-- the channel after a switching -/
noncomputable def chn (nbr : Nbr) (st : List Int) (i : Nat) : Int := if tv st (i : Int) = 0 then mexL ((nbr (i : Int)).map (tv st)) else 0
noncomputable def sw (nbr : Nbr) (st : List Int) (i : Nat) : List Int := st.take i ++ [chn nbr st i] ++ st.drop (i + 1)
inductive Rch (nbr : Nbr) (n : Nat) : List Int → Prop
  | zero : Rch nbr n (List.replicate n 0)
  | step {s : List Int} {i : Nat} : Rch nbr n s → i < n → Rch nbr n (sw nbr s i)
theorem sw_len {nbr : Nbr} {st : List Int} {i : Nat} (h : i < st.length) : (sw nbr st i).length = st.length := by
  unfold sw
  simp only [List.length_append, List.length_take, List.length_drop, List.length_singleton]
  omega
theorem Rch.len {nbr : Nbr} {n : Nat} {s : List Int} (h : Rch nbr n s) : s.length = n := by
  induction h with
  | zero => exact List.length_replicate
  | step h hi ih => rw [sw_len (by omega), ih]
theorem sw_tv {nbr : Nbr} {st : List Int} {i : Nat} (h : i < st.length) (j : Nat) : tv (sw nbr st i) (j : Int) = if j = i then chn nbr st i else tv st (j : Int) := by
  rw [tv_nat, tv_nat, List.getD_eq_getElem?_getD, List.getD_eq_getElem?_getD]
  unfold sw
  have hl : (st.take i).length = i := by rw [List.length_take]; omega
  by_cases e : j = i
  · subst e
    rw [if_pos rfl, List.getElem?_append_left (by simp; omega), List.getElem?_append_right (by omega), hl, Nat.sub_self] <;> rfl
  · rw [if_neg e]
    by_cases e2 : j < i
    · rw [List.getElem?_append_left (by simp; omega), List.getElem?_append_left (by omega), List.getElem?_take, if_pos e2]
    · rw [List.getElem?_append_right (by simp; omega), List.getElem?_drop]
      simp only [List.length_append, hl, List.length_singleton]
      rw [show i + 1 + (j - (i + 1)) = j by omega]
theorem Rch.rng {nbr : Nbr} {n : Nat} {s : List Int} (h : Rch nbr n s) : ∀ j : Nat, 0 ≤ tv s (j : Int) ∧ tv s (j : Int) ≤ ((nbr (j : Int)).length : Int) + 1 := by
  induction h with
  | zero =>
    intro j
    by_cases e : j < n
    · rw [tv_rep e]; omega
    · rw [tv_out (by rw [List.length_replicate]; omega)]; omega
  | @step s i h hi ih =>
    intro j
    rw [sw_tv (by rw [h.len]; exact hi)]
    by_cases e : j = i
    · subst e
      rw [if_pos rfl]
      unfold chn
      split
      · have := mexL_le ((nbr (j : Int)).map (tv s))
        rw [List.length_map] at this
        omega
      · omega
    · rw [if_neg e]; exact ih j
theorem chn_congr {nbr nbr' : Nbr} {st : List Int} {i : Nat} (h : ∀ o, o ∈ nbr (i : Int) ↔ o ∈ nbr' (i : Int)) : chn nbr st i = chn nbr' st i := by
  unfold chn
  rw [mexL_congr (us := (nbr (i : Int)).map (tv st)) (us' := (nbr' (i : Int)).map (tv st)) fun x => ?_]
  simp only [List.mem_map]
  exact ⟨fun ⟨o, a, b⟩ => ⟨o, (h o).mp a, b⟩, fun ⟨o, a, b⟩ => ⟨o, (h o).mpr a, b⟩⟩
theorem sw_congr {nbr nbr' : Nbr} {st : List Int} {i : Nat} (h : ∀ o, o ∈ nbr (i : Int) ↔ o ∈ nbr' (i : Int)) : sw nbr st i = sw nbr' st i := by
  unfold sw
  rw [chn_congr h]
/-! ### the search, nearest states first -/
structure Ent where
  st : List Int
  p : Nat
  i : Nat
  l : Nat
def addE (E : List Ent) (s : List Int) (p i l : Nat) : List Ent := if s ∈ E.map Ent.st then E else E ++ [⟨s, p, i, l⟩]
noncomputable def visE (nbr : Nbr) (m : Nat) (E : List Ent) (i : Nat) : List Ent := match E[m]? with
  | none => E
  | some e => addE E (sw nbr e.st i) m i (e.l + 1)
noncomputable def rowE (nbr : Nbr) (m : Nat) (E : List Ent) (j : Nat) : List Ent := (List.range j).foldl (visE nbr m) E
noncomputable def bfsE (nbr : Nbr) (n : Nat) : Nat → List Ent
  | 0 => [⟨List.replicate n 0, 0, 0, 0⟩]
  | m + 1 => rowE nbr m (bfsE nbr n m) n
theorem addE_pre (E : List Ent) (s : List Int) (p i l : Nat) : E <+: addE E s p i l := by
  unfold addE
  split
  · exact List.prefix_refl _
  · exact List.prefix_append _ _
theorem visE_pre (nbr : Nbr) (m : Nat) (E : List Ent) (i : Nat) : E <+: visE nbr m E i := by
  unfold visE
  split
  · exact List.prefix_refl _
  · exact addE_pre ..
theorem rowE_zero (nbr : Nbr) (m : Nat) (E : List Ent) : rowE nbr m E 0 = E := rfl
theorem rowE_succ (nbr : Nbr) (m : Nat) (E : List Ent) (j : Nat) : rowE nbr m E (j + 1) = visE nbr m (rowE nbr m E j) j := by
  unfold rowE
  rw [List.range_succ, List.foldl_append] <;> rfl
theorem rowE_pre (nbr : Nbr) (m : Nat) (E : List Ent) : ∀ {i j : Nat}, i ≤ j → rowE nbr m E i <+: rowE nbr m E j := by
  intro i j h
  induction h with
  | refl => exact List.prefix_refl _
  | step _ ih => rw [rowE_succ]; exact ih.trans (visE_pre ..)
theorem bfsE_pre (nbr : Nbr) (n : Nat) : ∀ {i j : Nat}, i ≤ j → bfsE nbr n i <+: bfsE nbr n j := by
  intro i j h
  induction h with
  | refl => exact List.prefix_refl _
  | step _ ih => exact ih.trans (rowE_pre nbr _ _ (Nat.zero_le n))
theorem pre_get {α : Type} {l m : List α} (h : l <+: m) {i : Nat} {x : α} (e : l[i]? = some x) : m[i]? = some x := by
  obtain ⟨t, rfl⟩ := h
  rw [List.getElem?_append_left (List.getElem?_eq_some_iff.mp e).1]
  exact e
theorem pre_mem {α : Type} {l m : List α} (h : l <+: m) {x : α} (e : x ∈ l) : x ∈ m := h.subset e
/-- what holds of all entries -/
structure Okk (nbr : Nbr) (n : Nat) (E : List Ent) : Prop where
  nd : (E.map Ent.st).Nodup
  rch : ∀ e ∈ E, Rch nbr n e.st
  lv : ∀ (k : Nat) (e : Ent), E[k]? = some e → (k = 0 ∧ e = ⟨List.replicate n 0, 0, 0, 0⟩) ∨ (0 < k ∧ e.p < k ∧ e.i < n ∧ ∃ f, E[e.p]? = some f ∧ e.st = sw nbr f.st e.i ∧ e.l = f.l + 1)
  ne : E ≠ []
theorem Okk.add {nbr : Nbr} {n : Nat} {E : List Ent} (h : Okk nbr n E) {m i : Nat} {f : Ent} (hf : E[m]? = some f) (hi : i < n) : Okk nbr n (addE E (sw nbr f.st i) m i (f.l + 1)) := by
  unfold addE
  split
  · exact h
  · rename_i hno
    have hm : m < E.length := (List.getElem?_eq_some_iff.mp hf).1
    refine ⟨?_, fun e he => ?_, fun k e hk => ?_, by simp⟩
    · rw [List.map_append]
      refine List.nodup_append.mpr ⟨h.nd, by simp, fun a ha b hb e => ?_⟩
      have : b = sw nbr f.st i := by simpa using hb
      exact hno (by rw [← this, ← e]; exact ha)
    · rcases List.mem_append.mp he with he | he
      · exact h.rch e he
      · rw [List.mem_singleton.mp he]
        exact (h.rch f (List.mem_of_getElem? hf)).step hi
    · by_cases e1 : k < E.length
      · rw [List.getElem?_append_left e1] at hk
        rcases h.lv k e hk with a | ⟨a, b, c, g, d, d2⟩
        · exact .inl a
        · exact .inr ⟨a, b, c, g, by rw [List.getElem?_append_left (by omega)]; exact d, d2⟩
      · rw [List.getElem?_append_right (by omega)] at hk
        have e2 : k - E.length = 0 := by
          have := (List.getElem?_eq_some_iff.mp hk).1
          simpa using this
        rw [e2] at hk
        cases hk
        exact .inr ⟨by omega, by show m < k; omega, hi, f, by rw [List.getElem?_append_left hm]; exact hf, rfl, rfl⟩
theorem Okk.row {nbr : Nbr} {n : Nat} {E : List Ent} (h : Okk nbr n E) (m : Nat) : ∀ {j : Nat}, j ≤ n → Okk nbr n (rowE nbr m E j)
  | 0, _ => h
  | j + 1, hj => by
    rw [rowE_succ]
    have ih := h.row m (j := j) (by omega)
    unfold visE
    split
    · exact ih
    · rename_i e he
      exact ih.add he (by omega)
theorem bfs_okk (nbr : Nbr) (n : Nat) : ∀ m, Okk nbr n (bfsE nbr n m)
  | 0 => ⟨by simp [bfsE], fun e he => by rw [List.mem_singleton.mp he]; exact .zero, fun k e hk => by
      have e2 : k = 0 := by have := (List.getElem?_eq_some_iff.mp hk).1; simpa [bfsE] using this
      subst e2
      cases hk
      exact .inl ⟨rfl, rfl⟩, by simp [bfsE]⟩
  | m + 1 => (bfs_okk nbr n m).row m (Nat.le_refl n)
theorem rowE_none {nbr : Nbr} {m : Nat} {E : List Ent} (h : E[m]? = none) : ∀ j, rowE nbr m E j = E
  | 0 => rfl
  | j + 1 => by
    rw [rowE_succ, rowE_none h j]
    unfold visE
    rw [h]
theorem bfs_stay {nbr : Nbr} {n m : Nat} (h : (bfsE nbr n m).length ≤ m) : ∀ k, bfsE nbr n (m + k) = bfsE nbr n m
  | 0 => rfl
  | k + 1 => by
    show rowE nbr (m + k) (bfsE nbr n (m + k)) n = _
    rw [bfs_stay h k]
    exact rowE_none (List.getElem?_eq_none (by omega)) n
/-- E: all states, as the search finds them -/
def Bfs (nbr : Nbr) (n : Nat) (E : List Ent) : Prop := ∃ m, E = bfsE nbr n m ∧ E.length = m
theorem Bfs.uniq {nbr : Nbr} {n : Nat} {E F : List Ent} (h : Bfs nbr n E) (g : Bfs nbr n F) : E = F := by
  obtain ⟨m, rfl, e1⟩ := h
  obtain ⟨k, rfl, e2⟩ := g
  rcases Nat.le_total m k with l | l
  · obtain ⟨d, rfl⟩ := Nat.le.dest l
    exact (bfs_stay (Nat.le_of_eq e1) d).symm
  · obtain ⟨d, rfl⟩ := Nat.le.dest l
    exact bfs_stay (Nat.le_of_eq e2) d
theorem Bfs.okk {nbr : Nbr} {n : Nat} {E : List Ent} (h : Bfs nbr n E) : Okk nbr n E := by
  obtain ⟨m, rfl, _⟩ := h
  exact bfs_okk nbr n m
theorem Bfs.lt {nbr : Nbr} {n : Nat} {E : List Ent} (h : Bfs nbr n E) {m : Nat} (hm : m < (bfsE nbr n m).length) : m < E.length := by
  obtain ⟨k, rfl, e⟩ := h
  rcases Nat.lt_or_ge m k with l | l
  · omega
  · obtain ⟨d, rfl⟩ := Nat.le.dest l
    rw [bfs_stay (Nat.le_of_eq e) d, e] at hm
    omega
theorem Bfs.pre {nbr : Nbr} {n : Nat} {E : List Ent} (h : Bfs nbr n E) {m j : Nat} (hm : m < (bfsE nbr n m).length) (hj : j ≤ n) : rowE nbr m (bfsE nbr n m) j <+: E := by
  have hlt := h.lt hm
  obtain ⟨k, rfl, e⟩ := h
  exact (rowE_pre nbr m _ hj).trans (bfsE_pre nbr n (show m + 1 ≤ k by omega))
theorem Bfs.of {nbr : Nbr} {n m : Nat} (h1 : m ≤ (bfsE nbr n m).length) (h2 : ¬ m < (bfsE nbr n m).length) : Bfs nbr n (bfsE nbr n m) := ⟨m, rfl, by omega⟩
/-- a new state: the list is not yet full -/
theorem vis_new {nbr : Nbr} {m : Nat} {E : List Ent} {i : Nat} {e : Ent} (he : E[m]? = some e) : visE nbr m E i = addE E (sw nbr e.st i) m i (e.l + 1) := by
  unfold visE
  rw [he]
theorem closed_row {nbr : Nbr} {m : Nat} {E : List Ent} {e : Ent} (he : E[m]? = some e) : ∀ {j i : Nat}, i < j → sw nbr e.st i ∈ (rowE nbr m E j).map Ent.st
  | j + 1, i, h => by
    rw [rowE_succ]
    have he' : (rowE nbr m E j)[m]? = some e := pre_get (rowE_pre nbr m E (Nat.zero_le j)) he
    rw [vis_new he']
    by_cases e1 : i = j
    · subst e1
      unfold addE
      split
      · assumption
      · simp
    · have ih := closed_row (nbr := nbr) he (j := j) (i := i) (by omega)
      obtain ⟨x, hx, ex⟩ := List.mem_map.mp ih
      exact List.mem_map.mpr ⟨x, pre_mem (addE_pre ..) hx, ex⟩
theorem bfs_closed {nbr : Nbr} {n : Nat} : ∀ {m k i : Nat} {e : Ent}, k < m → (bfsE nbr n m)[k]? = some e → i < n → k < (bfsE nbr n k).length → sw nbr e.st i ∈ (bfsE nbr n m).map Ent.st := by
  intro m k i e hk he hi hl
  have h1 : (bfsE nbr n k)[k]? = some e := by
    have h2 : (bfsE nbr n k)[k]? = some ((bfsE nbr n k)[k]) := List.getElem?_eq_getElem hl
    have h3 := pre_get (bfsE_pre nbr n (Nat.le_of_lt hk)) h2
    rw [he] at h3
    rw [h2]
    exact h3.symm
  have h4 := closed_row (nbr := nbr) h1 hi
  obtain ⟨x, hx, ex⟩ := List.mem_map.mp h4
  exact List.mem_map.mpr ⟨x, pre_mem (bfsE_pre nbr n (show k + 1 ≤ m by omega)) hx, ex⟩
theorem bfs_len {nbr : Nbr} {n m : Nat} (h : (bfsE nbr n m).length = m) {k : Nat} (hk : k < m) : k < (bfsE nbr n k).length := by
  rcases Nat.lt_or_ge k (bfsE nbr n k).length with l | l
  · exact l
  · obtain ⟨d, rfl⟩ := Nat.le.dest (Nat.le_of_lt hk)
    rw [bfs_stay l d] at h
    omega
theorem Bfs.all {nbr : Nbr} {n : Nat} {E : List Ent} (h : Bfs nbr n E) (s : List Int) : s ∈ E.map Ent.st ↔ Rch nbr n s := by
  constructor
  · intro hs
    obtain ⟨e, he, rfl⟩ := List.mem_map.mp hs
    exact h.okk.rch e he
  · intro hr
    obtain ⟨m, rfl, e⟩ := h
    induction hr with
    | zero =>
      have h0 : (⟨List.replicate n 0, 0, 0, 0⟩ : Ent) ∈ bfsE nbr n m := pre_mem (bfsE_pre nbr n (Nat.zero_le m)) (List.mem_singleton.mpr rfl)
      exact List.mem_map.mpr ⟨_, h0, rfl⟩
    | @step s i hr hi ih =>
      obtain ⟨x, hx, ex⟩ := List.mem_map.mp ih
      obtain ⟨k, hk⟩ := List.mem_iff_getElem?.mp hx
      have hkm : k < m := by have := (List.getElem?_eq_some_iff.mp hk).1; omega
      rw [← ex]
      exact bfs_closed hkm hk hi (bfs_len e hkm)
theorem bfs_ex {nbr : Nbr} {n B : Nat} (h : ∀ L : List (List Int), L.Nodup → (∀ s ∈ L, Rch nbr n s) → L.length ≤ B) : ∃ E, Bfs nbr n E ∧ E.length ≤ B := by
  have hb : ∀ m, (bfsE nbr n m).length ≤ B := fun m => by
    have := h _ (bfs_okk nbr n m).nd fun s hs => by
      obtain ⟨e, he, rfl⟩ := List.mem_map.mp hs
      exact (bfs_okk nbr n m).rch e he
    rwa [List.length_map] at this
  have key : ∀ k, (∃ m, m ≤ k ∧ (bfsE nbr n m).length = m) ∨ k < (bfsE nbr n k).length := by
    intro k
    induction k with
    | zero => exact .inr (by simp [bfsE])
    | succ k ih =>
      rcases ih with ⟨m, a, b⟩ | a
      · exact .inl ⟨m, by omega, b⟩
      · have : (bfsE nbr n k).length ≤ (bfsE nbr n (k + 1)).length := (bfsE_pre nbr n (Nat.le_succ k)).length_le
        rcases Nat.lt_or_ge (k + 1) (bfsE nbr n (k + 1)).length with l | l
        · exact .inr l
        · exact .inl ⟨k + 1, Nat.le_refl _, by omega⟩
  rcases key B with ⟨m, _, e⟩ | a
  · exact ⟨_, ⟨m, rfl, e⟩, hb m⟩
  · have := hb B
    omega
theorem visE_congr {nbr nbr' : Nbr} {n : Nat} (h : ∀ i : Nat, i < n → ∀ o, o ∈ nbr (i : Int) ↔ o ∈ nbr' (i : Int)) (m : Nat) (E : List Ent) {i : Nat} (hi : i < n) : visE nbr m E i = visE nbr' m E i := by
  unfold visE
  split
  · rfl
  · rw [sw_congr (h i hi)]
theorem rowE_congr {nbr nbr' : Nbr} {n : Nat} (h : ∀ i : Nat, i < n → ∀ o, o ∈ nbr (i : Int) ↔ o ∈ nbr' (i : Int)) (m : Nat) (E : List Ent) : ∀ {j : Nat}, j ≤ n → rowE nbr m E j = rowE nbr' m E j
  | 0, _ => rfl
  | j + 1, hj => by rw [rowE_succ, rowE_succ, rowE_congr h m E (by omega), visE_congr h m _ (by omega)]
theorem bfsE_congr {nbr nbr' : Nbr} {n : Nat} (h : ∀ i : Nat, i < n → ∀ o, o ∈ nbr (i : Int) ↔ o ∈ nbr' (i : Int)) : ∀ m, bfsE nbr n m = bfsE nbr' n m
  | 0 => rfl
  | m + 1 => by
    show rowE nbr m (bfsE nbr n m) n = rowE nbr' m (bfsE nbr' n m) n
    rw [bfsE_congr h m, rowE_congr h m _ (Nat.le_refl n)]
theorem Bfs.congr {nbr nbr' : Nbr} {n : Nat} {E : List Ent} (h : ∀ i : Nat, i < n → ∀ o, o ∈ nbr (i : Int) ↔ o ∈ nbr' (i : Int)) (b : Bfs nbr n E) : Bfs nbr' n E := by
  obtain ⟨m, e, l⟩ := b
  exact ⟨m, by rw [e, bfsE_congr h m], l⟩
/-! ### how many states there are at most -/
/-- all lists whose items are from 0 to these numbers -/
def boxL : List Nat → List (List Int)
  | [] => [[]]
  | c :: cs => (List.range (c + 1)).flatMap fun (x : Nat) => (boxL cs).map fun l => (x : Int) :: l
def prodL : List Nat → Nat
  | [] => 1
  | c :: cs => (c + 1) * prodL cs
theorem flat_len {α β : Type} {f : α → List β} {k : Nat} (h : ∀ x, (f x).length = k) : ∀ l : List α, (l.flatMap f).length = l.length * k
  | [] => by simp
  | x :: l => by rw [List.flatMap_cons, List.length_append, h, flat_len h l, List.length_cons, Nat.succ_mul]; omega
theorem box_len : ∀ cs, (boxL cs).length = prodL cs
  | [] => rfl
  | c :: cs => by
    rw [boxL, prodL, flat_len (k := prodL cs) (fun x => by rw [List.length_map, box_len cs]), List.length_range]
theorem box_mem : ∀ {cs : List Nat} {s : List Int}, s.length = cs.length → (∀ j : Nat, j < cs.length → 0 ≤ tv s (j : Int) ∧ tv s (j : Int) ≤ ((cs.getD j 0 : Nat) : Int)) → s ∈ boxL cs
  | [], [], _, _ => List.mem_singleton.mpr rfl
  | [], _ :: _, h, _ => by cases h
  | _ :: _, [], h, _ => by cases h
  | c :: cs, x :: s, hl, h => by
    have h0 := h 0 (by simp)
    have e0 : tv (x :: s) ((0 : Nat) : Int) = x := rfl
    rw [e0] at h0
    simp only [List.getD_cons_zero] at h0
    refine List.mem_flatMap.mpr ⟨x.toNat, List.mem_range.mpr (by omega), List.mem_map.mpr ⟨s, box_mem (by simpa using hl) fun j hj => ?_, ?_⟩⟩
    · have := h (j + 1) (by simpa using hj)
      rw [tv_cons] at this
      simpa using this
    · rw [show ((x.toNat : Nat) : Int) = x by omega]
theorem rch_count {nbr : Nbr} {n : Nat} {cs : List Nat} (hc : cs.length = n) (h : ∀ j : Nat, j < n → (nbr (j : Int)).length + 1 ≤ cs.getD j 0) (L : List (List Int)) (nd : L.Nodup) (hL : ∀ s ∈ L, Rch nbr n s) : L.length ≤ prodL cs := by
  rw [← box_len]
  refine len_le_of_sub nd fun s hs => box_mem (by rw [(hL s hs).len, hc]) fun j hj => ?_
  have h1 := (hL s hs).rng j
  have h2 := h j (by omega)
  omega
end NX

namespace NX
open PySem PySem.Spec PyProof.Rows L2
open Evl (Ex ex_l ex_t fresh_back)
/-! ### {t: v}, t a tuple -/
def tDisp1T (tk tv : TE) : TE := fun σ H Q => ∀ p, H p = none → tk σ (upd H p (.dT [])) fun x H1 => tv σ H1 fun y H2 => H2 p = some (.dT []) ∧ ∃ (b : Addr) (k : List L2.Key) (H3 : Hp), x = .ref b ∧ H2 b = some (.tup (k.map kV)) ∧ H3 = upd H2 p (.dT [(k, y)]) ∧ Q (.ref p) H3
theorem pe_disp1T {X : Cx} {ke ve : Expr} {tk tv : TE} {pos : Pos} (hu : X.A.units + 1 < cLine) (hk : PE X ke tk) (hv : PE X ve tv) : PE X (.Dict [some ke] [ve] pos) (tDisp1T tk tv) := by
  refine ⟨fun pins s σ H Q I q => ?_⟩
  have hn := I.hok.fresh (Nat.le_refl s.heap.objs.size)
  have I1 := I.laid (a := s.heap.objs.size) (o := .dT []) (h' := s.heap.push { cls := .type "dict", data := .dict #[] }) (t' := s.toks) (fun _ _ q => Heap.get?_push_of_some _ q) (Nat.le_refl _) (dt_empty s.heap I.big)
  rw [arm_eval_Dict, zip_pairTrees [some ke] [ve] X.env pos rfl rfl, dictDisplay_pairs (pairTrees [some ke] [ve] X.env pos) (by simp [pairTrees]) (by simp [pairTrees])]
  refine wpAny_bind (wpAny_standAt (wpAny_bind ?_))
  unfold subDict
  refine wpAny_bind (wpAny_alloc ?_)
  refine wpAny_bind (wpAny_holding ?_)
  rw [if_pos (by simp [pairTrees])]
  have hp : PPs X pos [some ke] [ve] [(tk, tv)] := pps_cons hk hv pps_nil
  refine wpAny_bind (thn (hp.run pins _ σ _ (fun ps H2 => match ps with | [(x, y)] => H2 s.heap.objs.size = some (.dT []) ∧ ∃ (b : Addr) (k : List L2.Key) (H3 : Hp), x = .ref b ∧ H2 b = some (.tup (k.map kV)) ∧ H3 = upd H2 s.heap.objs.size (.dT [(k, y)]) ∧ Q (.ref s.heap.objs.size) H3 | _ => False) I1 (q _ hn)) fun ws s2 ⟨ps, H2, I2, rel, z⟩ => ?_)
  cases rel with
  | nil => exact z.elim
  | @cons p q ps qs h t =>
    cases t with
    | cons _ _ => exact z.elim
    | nil =>
      obtain ⟨e, b, k, _, ex, eb, rfl, q2⟩ := z
      obtain ⟨p1, p2⟩ := p
      obtain ⟨u1, u2⟩ := q
      obtain ⟨r1, r2⟩ := h
      dsimp only at ex r1 r2 q2
      subst ex
      cases (show u1 = Value.ref b from r1)
      obtain ⟨z1, hd, xs, r0, dd⟩ := dt_of I2.hok e
      cases r0
      refine wpAny_holding (wpAny_bind ?_)
      rw [List.forIn_cons]
      refine wpAny_bind (wpAny_bind (wpAny_dictSet_heap (knd := tupleKind (mixKind X.prog X.w)) (hsz := by rw [List.length_nil]; exact Nat.zero_le _) (show X.A.units < cLine by omega) (key_of I2.hok eb) dd fun h' dd' hs => wpAny_pure ?_))
      dsimp only
      rw [List.forIn_nil]
      refine wpAny_pure (wpAny_pure (wpAny_pure (wpAny_pure ⟨.ref s.heap.objs.size, _, ?_, rfl, q2⟩)))
      have he : ∃ q, h'.get? s.heap.objs.size = some q := let ⟨q, _, _, hq, _⟩ := dd'; ⟨q, hq⟩
      obtain ⟨q', es, ep, hq, h2, h3, h4, _, h5⟩ := dd'
      refine d_write I2 (by rw [e]; exact True.intro) hs he ⟨(by show (1 : Nat) ≤ sizeLine; decide), hd, [(k, b, u2)], .cons ⟨rfl, ?_, r2⟩ .nil, q', es, ep, hq, h2, h3, h4, h5⟩
      rw [upd_ne (ne_of eb e (fun z => nomatch z))]
      exact eb
/-! ### keys of a dict that was just made -/
def iKeysF (td : TE) : TI := fun σ H R => td σ H fun x H1 => ∃ d kvs, x = .ref d ∧ H1 d = some (.dT kvs) ∧ ∀ o, R (Itkt d o kvs) (upd H1 d (.frz o (.dT kvs)))
theorem pi_keysF {X : Cx} {tg e : Expr} {td : TE} (he : PE X e td) : PI X tg e (iKeysF td) := by
  refine ⟨fun pins s σ H R I h => ?_⟩
  refine thn (he.run pins s σ H _ I h) fun u s1 ⟨x, H1, I1, rx, d, kvs, ex, hd, q⟩ => ?_
  subst ex
  obtain rfl : u = Value.ref d := rx
  obtain ⟨o, I2⟩ := I1.lock hd True.intro
  obtain ⟨hs, hgd, hx, es, ep, hdt, hsz, ent⟩ := I2.frzT (upd_same (a := d))
  refine iter_keys hs hgd hx hdt (pi_one (tk := s1.toks) I2 _ (turn_keysT _ hdt) ⟨_, Heap.get?_push_size _ rfl, rfl, ?_⟩ (q o))
  rw [hsz] <;> rfl
end NX

namespace NX
open PySem PySem.Spec PyProof.Rows L2
open Evl (Ex ex_l ex_t fresh_back)
open SrtO (Swo Srtd Stb lt2)
/-! ### the order of tuples of numbers -/
def lexL : List Int → List Int → Bool
  | [], [] => false
  | [], _ :: _ => true
  | _ :: _, [] => false
  | x :: xs, y :: ys => if x = y then lexL xs ys else decide (x < y)
theorem lexL_irr : ∀ l, lexL l l = false
  | [] => rfl
  | x :: l => by rw [lexL, if_pos rfl]; exact lexL_irr l
theorem lexL_asym : ∀ a b, lexL a b = true → lexL b a = false
  | [], [], h => by cases h
  | [], _ :: _, _ => rfl
  | _ :: _, [], h => by cases h
  | x :: xs, y :: ys, h => by
    rw [lexL] at h ⊢
    by_cases e : x = y
    · rw [if_pos e] at h; rw [if_pos e.symm]; exact lexL_asym xs ys h
    · rw [if_neg e] at h; rw [if_neg fun z => e z.symm]
      have := of_decide_eq_true h
      exact decide_eq_false (by omega)
theorem lexL_tr : ∀ x y z, lexL y x = false → lexL z y = false → lexL z x = false
  | _, _, [], h1, h2 => by
    rename_i x y
    cases y with
    | nil => exact h1
    | cons _ _ => cases h2
  | [], _, _ :: _, _, _ => rfl
  | x :: xs, [], z :: zs, h1, h2 => by cases h1
  | x :: xs, y :: ys, z :: zs, h1, h2 => by
    rw [lexL] at h1 h2 ⊢
    by_cases e1 : y = x
    · rw [if_pos e1] at h1
      by_cases e2 : z = y
      · rw [if_pos e2] at h2
        rw [if_pos (e2.trans e1)]
        exact lexL_tr xs ys zs h1 h2
      · rw [if_neg e2] at h2
        have := of_decide_eq_false h2
        rw [if_neg (by omega)]
        exact decide_eq_false (by omega)
    · rw [if_neg e1] at h1
      have a1 := of_decide_eq_false h1
      by_cases e2 : z = y
      · subst e2
        rw [if_neg e1]
        exact h1
      · rw [if_neg e2] at h2
        have a2 := of_decide_eq_false h2
        rw [if_neg (by omega)]
        exact decide_eq_false (by omega)
theorem lexL_tot : ∀ a b, lexL a b = false → lexL b a = false → a = b
  | [], [], _, _ => rfl
  | [], _ :: _, h, _ => by cases h
  | _ :: _, [], _, h => by cases h
  | x :: xs, y :: ys, h1, h2 => by
    rw [lexL] at h1 h2
    by_cases e : x = y
    · rw [if_pos e] at h1
      rw [if_pos e.symm] at h2
      rw [e, lexL_tot xs ys h1 h2]
    · rw [if_neg e] at h1
      rw [if_neg fun z => e z.symm] at h2
      have a1 := of_decide_eq_false h1
      have a2 := of_decide_eq_false h2
      omega
theorem swo_lexL {α : Type} (k : α → List Int) : Swo fun v u => lexL (k v) (k u) := ⟨fun x y h => lexL_asym _ _ h, fun x y z h1 h2 => lexL_tr _ _ _ h1 h2⟩
/-- lists in ascending order with the same items are one list -/
theorem srt_uniq : ∀ {l m : List (List Int)}, l.Pairwise (fun a b => lexL b a = false) → m.Pairwise (fun a b => lexL b a = false) → l.Perm m → l = m
  | [], m, _, _, p => (List.Perm.nil_eq p)
  | x :: l, [], _, _, p => absurd p.length_eq (by simp)
  | x :: l, y :: m, hl, hm, p => by
    obtain ⟨h1, h2⟩ := List.pairwise_cons.mp hl
    obtain ⟨g1, g2⟩ := List.pairwise_cons.mp hm
    have e : x = y := by
      have hx : x ∈ y :: m := p.mem_iff.mp List.mem_cons_self
      have hy : y ∈ x :: l := p.mem_iff.mpr List.mem_cons_self
      rcases List.mem_cons.mp hx with e | hx
      · exact e
      rcases List.mem_cons.mp hy with e | hy
      · exact e.symm
      exact lexL_tot _ _ (g1 x hx) (h1 y hy)
    subst e
    rw [srt_uniq h2 g2 (List.perm_cons x |>.mp p)]
/-! ### as the model compares them -/
def lexG (fin : Bool) : List Int → List Int → Bool
  | [], _ => fin
  | _ :: _, [] => fin
  | x :: xs, y :: ys => if x = y then lexG fin xs ys else decide (x < y)
theorem lexG_eq : ∀ (a b : List Int), lexG (decide (a.length < b.length)) a b = lexL a b
  | [], [] => rfl
  | [], _ :: _ => by simp [lexG, lexL]
  | _ :: _, [] => by simp [lexG, lexL]
  | x :: xs, y :: ys => by
    rw [lexG, lexL, ← lexG_eq xs ys]
    simp only [List.length_cons, Nat.add_lt_add_iff_right]
section
variable {prog : Program} {w : World} {A : Around} {E : Value → Shared → Prop} {s : Shared}
theorem lex_run (prog : Program) (w : World) (A : Around) (s : Shared) (b fin : Bool) : ∀ (ns ms : List Int) (us ws : List Value) (i : Nat), Vals (ns.map V.int) us → Vals (ms.map V.int) ws →
    PySem.W.KatLex prog w A b fin (fun r s' => s' = s ∧ r = lexG fin ns ms) (us.zip ws) i s
  | [], _, _, _, _, .nil, _ => by exact PySem.W.kat_nil ⟨rfl, rfl⟩
  | x :: xs, [], _, _, _, .cons _ _, .nil => by exact PySem.W.kat_nil ⟨rfl, rfl⟩
  | x :: xs, y :: ys, _, _, i, .cons r1 t1, .cons r2 t2 => by
    obtain ⟨t, rfl⟩ := r1
    obtain ⟨u, rfl⟩ := r2
    refine PySem.W.kat_cons (SeqAt.EqAt.int_int x t y u prog w _ _ ?_)
    refine PySem.W.kat_go (fun e1 => ?_) (fun e1 => ?_)
    · have ex : x = y := by simpa using e1
      have ih := lex_run prog w A s b fin xs ys _ _ (i + 1) t1 t2
      rw [lexG, if_pos ex]
      exact PySem.W.kat_yes ih
    · have ex : ¬ x = y := by simpa using e1
      rw [lexG, if_neg ex]
      refine PySem.W.kat_no ?_
      cases hb : (b && i == 0) with
      | true => exact oneLt_int ⟨rfl, rfl⟩
      | false => exact PySem.W.kat_one _ _ (PyProof.Rows.lt_int (show s = s ∧ decide (x < y) = decide (x < y) from ⟨rfl, rfl⟩))
/-- a tuple of numbers of the heap -/
def IsNs (h : Heap) (v : Value) (ns : List Int) : Prop := ∃ (a : Addr) (o : Obj) (us : List Value) (n : Nat), v = .ref a ∧ h.get? a = some o ∧ o.cls = .type "tuple" ∧ o.data = .seq us.toArray n ∧ Vals (ns.map V.int) us
theorem IsNs.keeps {h h' : Heap} {v : Value} {ns : List Int} (x : IsNs h v ns) (k : ∀ b o, h.get? b = some o → o.cls = .type "tuple" → h'.get? b = some o) : IsNs h' v ns := by
  obtain ⟨a, o, us, n, e, ho, hc, hd, r⟩ := x
  exact ⟨a, o, us, n, e, k _ _ ho hc, hc, hd, r⟩
theorem ns_cmp {b : Bool} {vs : List Value} {k : Value → List Int} (hp : ∀ v ∈ vs, IsNs s.heap v (k v)) : SrtO.Cmp prog w A s (tuples' b) (fun p => p.1 ∈ vs) (lt2 fun v u => lexL (k v) (k u)) := by
  intro p q hm hm'
  obtain ⟨a, o, us, n, e, ho, hc, hd, r⟩ := hp _ hm
  obtain ⟨a', o', us', n', e', ho', hc', hd', r'⟩ := hp _ hm'
  show wpAny (model prog w) A (keyLt' (tuples' b) p.1 q.1) (fun r s' => s' = s ∧ r = lexL (k p.1) (k q.1)) (fun _ _ => False) s
  rw [← lexG_eq]
  generalize k p.1 = xs at r ⊢
  generalize k q.1 = ys at r' ⊢
  rw [e, e']
  refine PySem.W.kat_lt ho hd ho' hd' ?_
  have hl : us.toArray.size = xs.length := by have := Paired.length r; simp at this; simp [this]
  have hl' : us'.toArray.size = ys.length := by have := Paired.length r'; simp at this; simp [this]
  rw [hl, hl']
  exact lex_run prog w A s b _ xs ys us us' 0 r r'
theorem ns_firsts {h : Heap} : ∀ {vs : List Value} {k : Value → List Int}, (∀ v ∈ vs, IsNs h v (k v) ∧ k v ≠ []) → ∃ fs, PySem.W.KatTups h vs fs ∧ fs.length = vs.length ∧ ∀ f ∈ fs, ∃ x t, f = Value.int x t
  | [], _, _ => ⟨[], .nil, rfl, fun _ h => by cases h⟩
  | v :: vs, k, hp => by
    obtain ⟨fs, h1, h2, h3⟩ := ns_firsts (vs := vs) (k := k) fun u hu => hp u (List.mem_cons_of_mem _ hu)
    obtain ⟨⟨a, o, us, n, e, ho, hc, hd, r⟩, hne⟩ := hp v List.mem_cons_self
    generalize k v = ns at r hne
    cases ns with
    | nil => exact absurd rfl hne
    | cons x xs =>
      cases r with
      | cons r t =>
        obtain ⟨t', rfl⟩ := r
        subst e
        refine ⟨Value.int x t' :: fs, .cons ho hc hd (by simp) h1, by simp [h2], fun f hf => ?_⟩
        rcases List.mem_cons.mp hf with rfl | hf
        · exact ⟨_, _, rfl⟩
        · exact h3 f hf
theorem ns_sortable {a : Addr} {vs : List Value} {k : Value → List Int} (h0 : 0 < vs.length) (hp : ∀ v ∈ vs, IsNs s.heap v (k v) ∧ k v ≠ []) (ha : ∀ o, s.heap.get? a = some o → o.cls ≠ .type "tuple") : SrtO.SortableO prog w A s a vs fun v u => lexL (k v) (k u) := by
  intro h' keep
  have hp' : ∀ v ∈ vs, IsNs h' v (k v) ∧ k v ≠ [] := fun v hm => ⟨(hp v hm).1.keeps fun b o e c => keep b o (fun z => by subst z; exact ha o e c) e, (hp v hm).2⟩
  obtain ⟨fs, h1, h2, h3⟩ := ns_firsts hp'
  refine ⟨tuples' true, fun Q E hq => ?_, ns_cmp fun v hv => (hp' v hv).1⟩
  refine PySem.W.kat_kind (T := .type "int") h1 (by omega) (fun f hm => ?_) (by rfl) ?_
  · obtain ⟨x, t, rfl⟩ := h3 f hm
    exact PySem.W.Looks.now
  · have e : (Value.type "int" != Value.type "tuple") = true := by first | decide +kernel | rfl | decide
    rw [e]
    exact hq
/-- sorted(x), whatever x is walked over as -/
theorem sorted_src {x : Addr} {vs : List Value} {ltv : Value → Value → Bool} {Q : Value → Shared → Prop} (O : Swo ltv) (hz : vs.length ≤ sizeLine)
    (hcol : ∀ (E' : Value → Shared → Prop) (R : List Value → Shared → Prop), (∀ (h' : Heap) (tk : Nat), (∀ b o, s.heap.get? b = some o → h'.get? b = some o) → s.heap.objs.size ≤ h'.objs.size → R vs { s with heap := h', toks := tk }) → wpAny (model prog w) A.in1 (collect (.ref x)) R E' s)
    (hS : 2 ≤ vs.length → ∀ (s₁ : Shared) (a : Addr), s₁.heap.get? a = some (seqObj "list" vs.toArray 0) → (∀ b o, s.heap.get? b = some o → s₁.heap.get? b = some o) → SrtO.SortableO prog w A.in1.in1 s₁ a vs ltv)
    (h : ∀ (h' : Heap) (tk : Nat) (d : Addr) (out : List Value), Srtd ltv out → Stb ltv out vs → (∀ b o, s.heap.get? b = some o → h'.get? b = some o) → s.heap.objs.size ≤ d → (∃ n, h'.get? d = some (seqObj "list" out.toArray n)) → Q (.ref d) { s with heap := h', toks := tk }) :
    wpAny (model prog w) A (call (.builtin "sorted") [.ref x]) Q E s := by
  refine Calls.call_function_entry kind_sorted plain_sorted entry_sorted (args_sorted1 _) ?_
  unfold Builtin.«sorted»
  refine wpAny_bind (m := checkCount "sorted" 1 1 _) (wpAny_pure ?_)
  refine wpAny_bind (hcol _ _ fun h1 tk k1 hle => ?_)
  refine wpAny_bind (wpAny_newList ?_ hz)
  have hoL : (h1.push (seqObj "list" vs.toArray 0)).get? h1.objs.size = some (seqObj "list" vs.toArray 0) := Heap.get?_push_size _ rfl
  have keep : ∀ b o, s.heap.get? b = some o → (h1.push (seqObj "list" vs.toArray 0)).get? b = some o := fun b o q => Heap.get?_push_of_some _ (k1 b o q)
  refine wpAny_bind (wpAny_holding (wpAny_call_entry slot_list_sort ⟨_, hoL, rfl⟩ entry_list_sort (SrtO.list_sort_ord O hoL hz (fun h2 => hS h2 _ _ hoL keep) fun out hs hb => ⟨_, rfl, ?_⟩) (args_list_sort _)))
  obtain ⟨c, hc⟩ := sortedHeap_at (vs := vs) (out := out.toArray) hoL
  refine wpAny_pure ⟨_, rfl, h _ tk h1.objs.size out hs hb (fun b o e => ?_) hle ⟨c, hc⟩⟩
  have q := k1 b o e
  have hlt := Heap.lt_size q
  rw [sortedHeap_old (Nat.ne_of_lt hlt) (by rw [size_push']; exact Nat.lt_succ_of_lt hlt)]
  exact Heap.get?_push_of_some _ q
end

/-! ### lists of states -/
/-- xs: tuples with the numbers L -/
abbrev Sts (H : Hp) (xs : List V) (L : List (List Int)) : Prop := Paired (fun x ns => ∃ t, x = .ref t ∧ H t = some (.tup (ns.map V.int))) xs L
theorem Sts.mono {G H : Hp} (e : Ex G H) {xs : List V} {L : List (List Int)} (h : Sts G xs L) : Sts H xs L := by
  induction h with
  | nil => exact .nil
  | cons h _ ih => obtain ⟨t, e1, e2⟩ := h; exact .cons ⟨t, e1, e _ _ e2⟩ ih
theorem Sts.append {H : Hp} {xs ys : List V} {L M : List (List Int)} (h1 : Sts H xs L) (h2 : Sts H ys M) : Sts H (xs ++ ys) (L ++ M) := by
  induction h1 with
  | nil => exact h2
  | cons h _ ih => exact .cons h ih
theorem Sts.len {H : Hp} {xs : List V} {L : List (List Int)} (h : Sts H xs L) : xs.length = L.length := Paired.length h
theorem Sts.get {H : Hp} {xs : List V} {L : List (List Int)} (h : Sts H xs L) : ∀ {i : Nat} {x : V}, xs[i]? = some x → ∃ t ns, L[i]? = some ns ∧ x = .ref t ∧ H t = some (.tup (ns.map V.int)) := by
  induction h with
  | nil => intro i x e; cases e
  | cons h _ ih =>
    intro i x e
    cases i with
    | zero => obtain ⟨t, e1, e2⟩ := h; cases e; exact ⟨t, _, rfl, e1, e2⟩
    | succ i => exact ih e
/-- the numbers of the tuple x -/
def kT (H : Hp) : V → List Int
  | .ref t => match H t with
    | some (.tup xs) => xs.map fun | .int i => i | _ => 0
    | _ => []
  | _ => []
theorem kT_of {H : Hp} {t : Addr} {ns : List Int} (h : H t = some (.tup (ns.map V.int))) : kT H (.ref t) = ns := by
  show (match H t with | some (.tup xs) => xs.map (fun | .int i => i | _ => 0) | _ => []) = ns
  rw [h]
  show (ns.map V.int).map _ = ns
  rw [List.map_map]
  exact List.map_id' ns
theorem Sts.kT {H : Hp} {xs : List V} {L : List (List Int)} (h : Sts H xs L) : xs.map (NX.kT H) = L := by
  induction h with
  | nil => rfl
  | cons h _ ih => obtain ⟨t, rfl, e⟩ := h; rw [List.map_cons, ih, kT_of e]
theorem sts_of {H : Hp} : ∀ {xs : List V}, (∀ x ∈ xs, ∃ t ns, x = V.ref t ∧ H t = some (.tup (List.map V.int ns))) → Sts H xs (xs.map (kT H))
  | [], _ => .nil
  | x :: xs, h => by
    obtain ⟨t, ns, rfl, e⟩ := h x List.mem_cons_self
    rw [List.map_cons, kT_of e]
    exact .cons ⟨t, rfl, e⟩ (sts_of fun y hy => h y (List.mem_cons_of_mem _ hy))
theorem Sts.mem {H : Hp} {xs : List V} {L : List (List Int)} (h : Sts H xs L) : ∀ x ∈ xs, ∃ t ns, x = V.ref t ∧ H t = some (.tup (List.map V.int ns)) ∧ ns ∈ L := by
  intro x hx
  obtain ⟨i, hi⟩ := List.mem_iff_getElem?.mp hx
  obtain ⟨t, ns, e1, e2, e3⟩ := h.get hi
  exact ⟨t, ns, e2, e3, List.mem_of_getElem? e1⟩
abbrev Asc (L : List (List Int)) : Prop := L.Pairwise fun a b => lexL b a = false
/-- sorted(xs), xs a list of tuples of numbers of any length -/
def rSortedL (K : PySem.W.Frag) : List V → Hp → VK → Prop := fun vs H Q => ∃ (a : Addr) (xs : List V) (L : List (List Int)), vs = [V.ref a] ∧ SqL K H a xs ∧ Sts H xs L ∧ (∀ ns ∈ L, ns ≠ []) ∧
  ∀ ys L' p, Sts H ys L' → L'.Perm L → Asc L' → H p = none → Q (.ref p) (upd H p (.lst ys))
/-- sorted(d), d a dict whose keys are tuples of numbers -/
def rSortedD : List V → Hp → VK → Prop := fun vs H Q => ∃ (d : Addr) (kvs : List (List L2.Key × V)) (L : List (List Int)), vs = [V.ref d] ∧ Rd H d (.dT kvs) ∧ kvs.map (·.1) = L.map (List.map Sum.inl) ∧ (∀ ns ∈ L, ns ≠ []) ∧
  ∀ ys L' p, Sts H ys L' → L'.Perm L → Asc L' → H p = none → Q (.ref p) (upd H p (.lst ys))
section
variable {X : Cx}
theorem sts_out {H : Hp} {xs : List V} {L : List (List Int)} {us out : List Value} (hx : Sts H xs L) (e1 : xs = us.map backV) (h1 : Srtd (fun v u => lexL (kT H (backV v)) (kT H (backV u))) out) (h2 : Stb (fun v u => lexL (kT H (backV v)) (kT H (backV u))) out us) :
    Sts H (out.map backV) ((out.map backV).map (kT H)) ∧ ((out.map backV).map (kT H)).Perm L ∧ Asc ((out.map backV).map (kT H)) := by
  have hp : (out.map backV).Perm xs := by rw [e1]; exact h2.perm.map backV
  refine ⟨sts_of fun x hm => ?_, ?_, ?_⟩
  · obtain ⟨t, ns, a, b, _⟩ := hx.mem x (hp.mem_iff.mp hm)
    exact ⟨t, ns, a, b⟩
  · rw [← hx.kT]; exact hp.map _
  · unfold Asc
    rw [List.pairwise_map, List.pairwise_map]
    exact h1
theorem ns_raw {pins : List (Addr × Obj)} {s : Shared} {σ : L2.St} {H : Hp} {xs : List V} {L : List (List Int)} {us : List Value} (I : Inv X pins σ H s) (hx : Sts H xs L) (hne : ∀ ns ∈ L, ns ≠ []) (e1 : xs = us.map backV) (e2 : ∀ u ∈ us, ∃ a, u = Value.ref a) :
    ∀ v ∈ us, IsNs s.heap v (kT H (backV v)) ∧ kT H (backV v) ≠ [] := by
  intro v hv
  obtain ⟨t, rfl⟩ := e2 v hv
  have hm : V.ref t ∈ xs := by rw [e1]; exact List.mem_map.mpr ⟨_, hv, rfl⟩
  obtain ⟨t', ns, e, ht, hL⟩ := hx.mem _ hm
  cases e
  show IsNs s.heap (.ref t) (kT H (.ref t)) ∧ kT H (.ref t) ≠ []
  rw [kT_of ht]
  obtain ⟨_, its, r, o, ho, hc, n, hd⟩ := I.hok _ _ ht
  exact ⟨⟨t, o, its, n, rfl, ho, hc, hd, r⟩, hne ns hL⟩
theorem cr_sortedL : CallR X (.builtin "sorted") (rSortedL X.K) := by
  intro pins s σ H vs us Q I r h
  obtain ⟨a, xs, L, rfl, hs, hx, hne, q⟩ := h
  obtain ⟨its, rv, hl, hz⟩ := I.list hs
  obtain ⟨u, rfl, ru⟩ := vals1 r
  obtain rfl : u = Value.ref a := ru
  obtain ⟨e1, e2⟩ := refs_back rv fun x m => by
    obtain ⟨t, ns, e, _⟩ := hx.mem x m
    exact ⟨t, e⟩
  have hz' : its.length ≤ sizeLine := by rw [← rv.length]; exact hz
  have hns := ns_raw I hx hne e1 e2
  refine sorted_src (swo_lexL fun v => kT H (backV v)) hz' (fun E' R hR => ?_) (fun h2 s1 a1 ho1 k1 => ?_) fun h' tk d out h1 h2 kp hd hn => ?_
  · refine collect_list hl.isList (hR _ s.toks (fun b o q => ?_) ?_) hz'
    · rw [Heap.get?_update_ne _ _ _ _ (Nat.ne_of_lt (Heap.lt_size q))]
      exact Heap.get?_push_of_some _ q
    · rw [Heap.size_update, size_push']
      exact Nat.le_succ _
  · refine ns_sortable (by omega) (fun v hv => ⟨(hns v hv).1.keeps fun b o e _ => k1 b o e, (hns v hv).2⟩) fun o e => ?_
    have e' : some o = some (seqObj "list" its.toArray 0) := e.symm.trans ho1
    cases e'
    intro c
    exact absurd (Value.type.inj c) (by decide)
  · have h3 : ∀ u ∈ out, ∃ a, u = Value.ref a := fun u hu => e2 u (h2.perm.mem_iff.mp hu)
    obtain ⟨n, hn⟩ := hn
    obtain ⟨s1, s2, s3⟩ := sts_out hx e1 h1 h2
    refine ⟨.ref d, upd H d (.lst (out.map backV)), I.laid (t' := tk) kp hd ⟨?_, out, n, vals_back h3, hn⟩, rfl, q _ _ d s1 s2 s3 (I.hok.fresh hd)⟩
    rw [List.length_map, h2.len]
    exact hz'
theorem collect_dT {pins : List (Addr × Obj)} {s : Shared} {σ : L2.St} {H : Hp} {d : Addr} {kvs : List (List L2.Key × V)} (hc : X.calm = true) (I : Inv X pins σ H s) (hd : Rd H d (.dT kvs)) :
    ∃ bs : List Addr, IsKeys H kvs bs ∧ bs.length ≤ sizeLine ∧ ∀ (E' : Value → Shared → Prop) (R : List Value → Shared → Prop), (∀ (h' : Heap) (tk : Nat), (∀ b o, s.heap.get? b = some o → h'.get? b = some o) → s.heap.objs.size ≤ h'.objs.size → R (bs.map Value.ref) { s with heap := h', toks := tk }) →
      wpAny (model X.prog X.w) X.A.in1 (collect (.ref d)) R E' s := by
  obtain ⟨z, hs, ks, pr, o, es, ep, ho, hx, hdt, he, hn⟩ := (show ObjOk X.prog X.w H s.heap d (.dT kvs) from hd.ok I.hok)
  have l1 : es.size = ks.length := size_of_entries he
  have l2 : kvs.length = ks.length := Paired.length pr
  refine ⟨ks.map fun x => x.2.1, isKeys_of pr, by rw [List.length_map]; omega, fun E' R hR => ?_⟩
  have hlt : d < s.heap.objs.size := Heap.lt_size ho
  unfold collect
  refine wpAny_bind (wpAny_runValue (codeAny_builtin F.entry_proto_collect ?_))
  rw [Around.under_plainId F.plain_proto_collect _]
  show wpAny _ X.A.in1.in1 (newList [] >>= fun l => again (.builtin "list.__iadd__" ⟨[l, .ref d], []⟩)) _ _ s
  refine wpAny_bind (wpAny_newObj_type ?_)
  refine wpAny_pure ⟨plainId_quiet F.plain_list_iadd _, codeAny_builtin F.entry_list_iadd ?_⟩
  rw [Around.under_plainId F.plain_list_iadd _]
  have hS : (s.heap.push { cls := .type "list", data := .seq ([] : List Value).toArray }).get? s.heap.objs.size = some { cls := .type "list", data := .seq #[] } := Heap.get?_push_size _ rfl
  have hok : (s.heap.push { cls := .type "list", data := .seq ([] : List Value).toArray }).get? d = some o := Heap.get?_push_of_some _ ho
  show wpAny _ X.A.in1.in1 (Builtin.List.listExtendWith (.ref s.heap.objs.size) (.ref d) (.ref s.heap.objs.size)) _ _ _
  have key := PySem.W.kdl_extend (prog := X.prog) (w := X.w) (A := X.A.in1) (s := { s with heap := s.heap.push { cls := .type "list", data := .seq ([] : List Value).toArray } })
    (R := fun (q : Result) (s' : Shared) => q = .ok (.ret (.ref s.heap.objs.size)) ∧ ∃ (h' : Heap) (tk : Nat) (acc' : Array Value) (c' : Nat), s' = { s with heap := h', toks := tk } ∧
      (∀ b o, s.heap.get? b = some o → h'.get? b = some o) ∧ h'.get? s.heap.objs.size = some { cls := .type "list", dict := none, data := .seq acc' c', slots := #[] } ∧ ItemsOf (fun i v => ∃ en : DictEntry, es[i]? = some en ∧ v = en.key) acc' es.size)
    (kdl_raw hs hx hdt) (I.ok.hd hc) hok s.heap.objs.size (Nat.ne_of_gt hlt) (Nat.ne_of_gt hlt) (.ref s.heap.objs.size) 0 hS
    (fun h' tk acc' c' hk e hi => ⟨rfl, h', tk, acc', c', rfl, fun b o q => hk b o (Nat.ne_of_lt (Heap.lt_size q)) (Heap.get?_push_of_some _ q), e, hi⟩) (by omega)
  have fin : ∀ (q : Result) (s' : Shared), (q = .ok (.ret (.ref s.heap.objs.size)) ∧ ∃ (h' : Heap) (tk : Nat) (acc' : Array Value) (c' : Nat), s' = { s with heap := h', toks := tk } ∧
      (∀ b o, s.heap.get? b = some o → h'.get? b = some o) ∧ h'.get? s.heap.objs.size = some { cls := .type "list", dict := none, data := .seq acc' c', slots := #[] } ∧ ItemsOf (fun i v => ∃ en : DictEntry, es[i]? = some en ∧ v = en.key) acc' es.size) →
      ∃ (h' : Heap) (tk : Nat) (acc' : Array Value) (c' : Nat), q = .ok (.ret (.ref s.heap.objs.size)) ∧ s' = { s with heap := h', toks := tk } ∧ h'.get? s.heap.objs.size = some { cls := .type "list", dict := none, data := .seq acc' c', slots := #[] } ∧ R acc'.toList { s with heap := h', toks := tk } := by
    rintro q s' ⟨e, h', tk, acc', c', e2, kp, eS, it⟩
    refine ⟨h', tk, acc', c', e, e2, eS, ?_⟩
    have ea : acc'.toList = ks.map fun x => Value.ref x.2.1 := by
      have hl : acc'.toList.length = ks.length := by rw [Array.length_toList, it.1]; exact l1
      apply List.ext_getElem?
      intro j
      rw [List.getElem?_map]
      cases hj : acc'.toList[j]? with
      | none =>
        have h1 := List.getElem?_eq_none_iff.mp hj
        rw [List.getElem?_eq_none (by omega)]
        all_goals rfl
      | some v =>
        obtain ⟨en, hen, hv⟩ := it.2 j v (by rw [← Array.getElem?_toList]; exact hj)
        have qe := entry_at he j
        rw [hen] at qe
        cases hb : ks[j]? with
        | none =>
          rw [hb] at qe
          exact nomatch (show some en = none from qe)
        | some b =>
          rw [hb] at qe
          have e2 : en = entryOfKey (tupleKind (mixKind X.prog X.w)) b := Option.some.inj qe
          rw [hv, e2]
          all_goals rfl
    have eb : acc'.toList = (ks.map fun x => x.2.1).map Value.ref := by rw [ea, List.map_map]; all_goals rfl
    rw [eb]
    exact hR h' tk kp (Nat.le_of_lt (Heap.lt_size eS))
  refine wpAny_mono key (fun fn s' x => ?_) fun e s' x => ?_
  · cases fn with
    | done f =>
      obtain ⟨h', tk, acc', c', e, e2, eS, q⟩ := fin _ _ x
      cases e
      subst e2
      show wpAny _ X.A.in1 (load s.heap.objs.size >>= _) _ _ _
      exact wpAny_bind (wpAny_load eS (wpAny_pure q))
    | again c₁ =>
      refine ⟨x.1, codeAny_mono x.2 fun q s₂ y => ?_⟩
      obtain ⟨h', tk, acc', c', e, e2, eS, q2⟩ := fin _ _ y
      subst e e2
      show wpAny _ X.A.in1 (load s.heap.objs.size >>= _) _ _ _
      exact wpAny_bind (wpAny_load eS (wpAny_pure q2))
  · exact absurd x.1 (by simp)
theorem cr_sortedD (hc : X.calm = true) : CallR X (.builtin "sorted") rSortedD := by
  intro pins s σ H vs us Q I r h
  obtain ⟨d, kvs, L, rfl, hd, hk, hne, q⟩ := h
  obtain ⟨u, rfl, ru⟩ := vals1 r
  obtain rfl : u = Value.ref d := ru
  obtain ⟨bs, ik, hz, hcol⟩ := collect_dT hc I hd
  have hx : Sts H (bs.map V.ref) L := by
    clear hcol hz q hd hne
    unfold IsKeys at ik
    induction ik generalizing L with
    | nil =>
      cases L with
      | nil => exact .nil
      | cons _ _ => cases hk
    | @cons p b ps bs h t ih =>
      cases L with
      | nil => cases hk
      | cons ns L =>
        simp only [List.map_cons, List.cons.injEq] at hk
        refine .cons ⟨b, rfl, ?_⟩ (ih L hk.2)
        rw [h, hk.1, List.map_map] <;> rfl
  have e1 : bs.map V.ref = (bs.map Value.ref).map backV := by rw [List.map_map] <;> rfl
  have e2 : ∀ u ∈ bs.map Value.ref, ∃ a, u = Value.ref a := fun u hu => by obtain ⟨a, _, rfl⟩ := List.mem_map.mp hu; exact ⟨a, rfl⟩
  have hz' : (bs.map Value.ref).length ≤ sizeLine := by rw [List.length_map]; exact hz
  have hns := ns_raw I hx hne e1 e2
  refine sorted_src (swo_lexL fun v => kT H (backV v)) hz' hcol (fun h2 s1 a1 ho1 k1 => ?_) fun h' tk p out h1 h2 kp hp hn => ?_
  · refine ns_sortable (by omega) (fun v hv => ⟨(hns v hv).1.keeps fun b o e _ => k1 b o e, (hns v hv).2⟩) fun o e => ?_
    have e' : some o = some (seqObj "list" (bs.map Value.ref).toArray 0) := e.symm.trans ho1
    cases e'
    intro c
    exact absurd (Value.type.inj c) (by decide)
  · have h3 : ∀ u ∈ out, ∃ a, u = Value.ref a := fun u hu => e2 u (h2.perm.mem_iff.mp hu)
    obtain ⟨n, hn⟩ := hn
    obtain ⟨s1, s2, s3⟩ := sts_out hx e1 h1 h2
    refine ⟨.ref p, upd H p (.lst (out.map backV)), I.laid (t' := tk) kp hp ⟨?_, out, n, vals_back h3, hn⟩, rfl, q _ _ p s1 s2 s3 (I.hok.fresh hp)⟩
    rw [List.length_map, h2.len]
    exact hz'
end
end NX

namespace NX
open PySem PySem.Spec PyProof.Rows L2
open Evl (Ex ex_l ex_t fresh_back)
theorem hu1 {n : Nat} (h : n + 65 < cLine) : n + 1 < cLine := by omega
/-! ### comprehensions of two loops: the outer one over a range, the inner one over a list -/
/-- the inner loop: what it asks of J1 at H4; Nx: the outer loop's next turn -/
def LCIN (J1 : It) (g1 : TG) (tt1 : TT) (te : TE) (vs1 : List Nat) (σ2 : L2.St) (D : Addr) (Nx : Hp → Prop) (H4 : Hp) : Prop := ∃ W1 : Nat → Nat → Hp → Prop, (∃ m, W1 0 m H4) ∧ ∀ j k H, W1 j k H →
  (J1.stop j H ∧ Nx H) ∨ (J1.go j H ∧ ∃ Nx1 : Hp → Prop, (∀ H', Nx1 H' → ∃ k', k' < k ∧ W1 (j + 1) k' H') ∧ ∀ x H', J1.yld j H x H' → g1 x (wipe σ2 vs1) H' fun σ3 H5 => wipe σ3 vs1 = wipe σ2 vs1 ∧ tt1 σ3 H5 fun b H6 =>
    if b = true then te σ3 H6 fun y H7 => ∃ acc, H7 D = some (.lst acc) ∧ acc.length < sizeLine ∧ Nx1 (upd H7 D (.lst (acc ++ [y]))) else Nx1 H6)
def LCJ2 (J : It) (g : TG) (tt : TT) (wi1 : TI) (g1 : TG) (tt1 : TT) (te : TE) (vs vs1 : List Nat) (σ : L2.St) (H1 : Hp) (Q : VK) : Prop := ∀ D, H1 D = none → ∃ W : Nat → Nat → Hp → Prop, (∃ m, W 0 m (upd H1 D (.lst []))) ∧ ∀ i m H, W i m H →
  (J.stop i H ∧ Q (.ref D) H) ∨ (J.go i H ∧ ∃ Nx : Hp → Prop, (∀ H', Nx H' → ∃ m', m' < m ∧ W (i + 1) m' H') ∧ ∀ x H', J.yld i H x H' → g x (wipe σ vs) H' fun σ2 H2 => wipe σ2 vs = wipe σ vs ∧ tt σ2 H2 fun b H3 =>
    if b = true then wi1 σ2 H3 fun J1 H4 => LCIN J1 g1 tt1 te vs1 σ2 D Nx H4 else Nx H3)
theorem g_lc2 {wi wi1 : TI} {g g1 : TG} {tt tt1 : TT} {te : TE} {vs vs1 : List Nat} {σ : L2.St} {H : Hp} {Q : VK} (k : wi σ H fun J H1 => LCJ2 J g tt wi1 g1 tt1 te vs vs1 σ H1 Q) : tLc2 wi g tt wi1 g1 tt1 te vs vs1 σ H Q := k
section
variable {K : PySem.W.Frag} {σ σ2 : L2.St} {G H : Hp} {L : List (Addr × HO)} {te : TE} {tt tt1 : TT} {g g1 : TG} {wi1 : TI} {vs vs1 : List Nat} {Q : VK} {D a : Addr} {acc ys : List V} {Nx : Hp → Prop}
theorem v2_rng1 {j : Int} (F : Nat → List V → Hp → List (Addr × HO) → Prop) (S : Own G L H) (hj : 0 ≤ j ∧ j ≤ 1000000) (h0 : F 0 [] G L)
    (hs : ∀ D (i : Nat) acc G1 L1 H1, (i : Int) < j → Ex G G1 → F i acc G1 L1 → Own G1 ((D, .lst acc) :: L1) H1 → g (.int (i : Int)) (wipe σ vs) H1 fun σ2 H2 => wipe σ2 vs = wipe σ vs ∧ tt σ2 H2 fun b H3 =>
      if b = true then wi1 σ2 H3 fun J1 H4 => LCIN J1 g1 tt1 te vs1 σ2 D (fun H' => ∃ acc G2 L2, Ex G G2 ∧ F (i + 1) acc G2 L2 ∧ Own G2 ((D, .lst acc) :: L2) H') H4 else ∃ acc G2 L2, Ex G G2 ∧ F (i + 1) acc G2 L2 ∧ Own G2 ((D, .lst acc) :: L2) H3)
    (hd : ∀ p acc G1 L1 H1, Ex G G1 → F j.toNat acc G1 L1 → Own G1 ((p, .lst acc) :: L1) H1 → Q (.ref p) H1) :
    ∃ j' : Int, [V.int j] = [.int j'] ∧ -(2 ^ 62) ≤ j' ∧ j' < 2 ^ 62 ∧ LCJ2 (Itr 0 j'.toNat) g tt wi1 g1 tt1 te vs vs1 σ H Q := by
  refine ⟨j, rfl, by omega, by omega, fun D hD => ⟨fun i m H => m = j.toNat - i ∧ i ≤ j.toNat ∧ ∃ acc G2 L2, Ex G G2 ∧ F i acc G2 L2 ∧ Own G2 ((D, .lst acc) :: L2) H, ⟨_, rfl, Nat.zero_le _, [], G, L, Ex.refl G, h0, S.lay hD⟩, ?_⟩⟩
  rintro i m H1 ⟨rfl, hi, acc, G1, L1, e, f, S1⟩
  by_cases c : i < j.toNat
  · refine .inr ⟨c, fun H' => ∃ acc G2 L2, Ex G G2 ∧ F (i + 1) acc G2 L2 ∧ Own G2 ((D, .lst acc) :: L2) H', fun H' p => ⟨j.toNat - (i + 1), by omega, rfl, c, p⟩, fun x H' hx => ?_⟩
    obtain ⟨e1, e2⟩ := hx
    subst e1
    have z : x = .int (i : Int) := by
      have e2' : x = V.int (0 + (i : Int)) := e2
      rw [e2', Int.zero_add]
    rw [z]
    exact hs D i acc G1 L1 _ (by omega) e f S1
  · have ei : i = j.toNat := by omega
    subst ei
    exact .inl ⟨Nat.le_refl _, hd D acc G1 L1 H1 e f S1⟩
theorem v2_list (F : Nat → List V → Hp → List (Addr × HO) → Prop) (S : Own G ((D, .lst acc) :: L) H) (hx : SqL K G a ys) (h0 : F 0 acc G L)
    (hs : ∀ i y acc G1 L1 H1, ys[i]? = some y → Ex G G1 → F i acc G1 L1 → Own G1 ((D, .lst acc) :: L1) H1 → g1 y (wipe σ2 vs1) H1 fun σ3 H2 => wipe σ3 vs1 = wipe σ2 vs1 ∧ tt1 σ3 H2 fun b H3 =>
      if b = true then te σ3 H3 fun z H4 => ∃ acc, H4 D = some (.lst acc) ∧ acc.length < sizeLine ∧ ∃ acc' G2 L2, Ex G G2 ∧ F (i + 1) acc' G2 L2 ∧ Own G2 ((D, .lst acc') :: L2) (upd H4 D (.lst (acc ++ [z]))) else ∃ acc' G2 L2, Ex G G2 ∧ F (i + 1) acc' G2 L2 ∧ Own G2 ((D, .lst acc') :: L2) H3)
    (hd : ∀ acc G1 L1 H1, Ex G G1 → F ys.length acc G1 L1 → Own G1 ((D, .lst acc) :: L1) H1 → Nx H1) :
    ∃ p, V.ref a = .ref p ∧ (∃ xs, SqL K H p xs) ∧ LCIN (Itl K p) g1 tt1 te vs1 σ2 D Nx H := by
  refine ⟨a, rfl, ⟨ys, S.sl hx⟩, fun i m H => m = ys.length - i ∧ i ≤ ys.length ∧ ∃ acc G2 L2, Ex G G2 ∧ F i acc G2 L2 ∧ Own G2 ((D, .lst acc) :: L2) H, ⟨_, rfl, Nat.zero_le _, acc, G, L, Ex.refl G, h0, S⟩, ?_⟩
  rintro i m H1 ⟨rfl, hi, acc, G1, L1, e, f, S1⟩
  have q := S1.sl (ex_l e hx)
  by_cases c : i < ys.length
  · refine .inr ⟨⟨ys, ys[i], q, List.getElem?_eq_getElem c⟩, fun H' => ∃ acc G2 L2, Ex G G2 ∧ F (i + 1) acc G2 L2 ∧ Own G2 ((D, .lst acc) :: L2) H', fun H' p => ⟨ys.length - (i + 1), by omega, rfl, c, p⟩, fun x H' hx' => ?_⟩
    obtain ⟨e1, e2⟩ := hx'
    subst e1
    exact hs i x acc G1 L1 _ (e2 ys q) e f S1
  · have ei : i = ys.length := by omega
    subst ei
    exact .inl ⟨⟨ys, q, Nat.le_refl _⟩, hd acc G1 L1 H1 e f S1⟩
theorem c2_yes {F : Nat → List V → Hp → List (Addr × HO) → Prop} {i : Nat} {G1 : Hp} {L1 : List (Addr × HO)} {z : V} (S : Own G1 ((D, .lst acc) :: L1) H) (e : Ex G G1) (hl : acc.length ≤ 1000000) (f : F (i + 1) (acc ++ [z]) G1 L1) :
    ∃ acc, H D = some (.lst acc) ∧ acc.length < sizeLine ∧ ∃ acc' G2 L2, Ex G G2 ∧ F (i + 1) acc' G2 L2 ∧ Own G2 ((D, .lst acc') :: L2) (upd H D (.lst (acc ++ [z]))) :=
  ⟨acc, S.get0, smallL (Nat.le_trans hl (by decide)), acc ++ [z], G1, L1, e, f, S.put0⟩
end
end NX

namespace NX
open PySem PySem.Spec PyProof.Rows L2
open Evl (Ex ex_l ex_t fresh_back)
/-! ### tuple * int, 1 too -/
theorem tuple_mul1 (l : Addr) (items : Array Value) (n : Nat) (dd : Option Addr) (sl : Array (Option Value)) (u : Tok) :
    Meets (Builtin.«tuple.__mul__» ⟨[.ref l, .int 1 u], []⟩) (fun _ R s => s.heap.get? l = some { cls := .type "tuple", dict := dd, data := .seq items n, slots := sl } ∧ R (.ok (.ret (Value.ref l))) s) :=
  .of_wp fun prog w A R s h => by
    obtain ⟨hp, g, d, tk, os⟩ := s
    obtain ⟨hl, h⟩ := h
    have f1 := AutoSeq1.idx_int
    have c0 : (decide ((1 : Int) < -(2 ^ 63)) || decide ((1 : Int) ≥ 2 ^ 63)) = false := by decide
    have c1 : (items.isEmpty || (1 : Int) == 1) = true := by simp
    wp_walk using wpAny_loadPart' hl
    repeat (first
      | (refine wpAny_ite_false (decide_eq_false (by rw [c0]; exact Bool.false_ne_true)) ?_; wp_walk using wpAny_loadPart' hl)
      | (refine wpAny_ite_true (decide_eq_true (by rw [c1])) ?_; wp_walk using wpAny_loadPart' hl))
    exact ⟨_, rfl, h⟩
def rRep1 (K : PySem.W.Frag) : R2 := fun x y H Q => ∃ l k xs, x = .ref l ∧ y = .int k ∧ SqT K H l xs ∧ xs ≠ [] ∧ 1 ≤ k ∧ k ≤ 1000 ∧ xs.length ≤ 1000 ∧ (k = 1 → Q (.ref l) H) ∧ (2 ≤ k → ∀ p, H p = none → Q (.ref p) (upd H p (.tup (List.replicate k.toNat xs).flatten)))
theorem op_rep1 {X : Cx} : OpR X (binaryOp .Mult) (rRep1 X.K) := by
  intro pins s σ H x y v u Q I rx ry h
  obtain ⟨l, k, xs, rfl, rfl, hT, hne, h1, h2, hz, q1, q2⟩ := h
  by_cases e : k = 1
  · subst e
    cases rx
    obtain ⟨t, rfl⟩ := ry
    obtain ⟨its, r, ⟨⟨cls, dd, data, sl⟩, ho, hc, n, hd⟩, hs⟩ := I.tuple hT
    simp only at hc hd
    subst hc hd
    refine wpAny_binaryOp_repeat_ref (T := "tuple") (U := "int") (by decide) ⟨_, ho, rfl⟩ (fun s' => typeIs_int s' 1 t) noFill_tuple_mul F.fills_int_mul F.slot_int_rmul repeat_tuple F.slot_int_index.lookup
      (call_meets F.slot_int_rmul (typeIs_int s 1 t) F.entry_int_rmul (F.args_int_rmul_2 _ _) (int_rmul_tuple 1 t l its.toArray n dd sl)
        ⟨ho, rfl, ⟨_, ho, rfl⟩, call_meets F.slot_tuple_mul ⟨_, ho, rfl⟩ F.entry_tuple_mul (F.args_tuple_mul_2 _ _) (tuple_mul1 l its.toArray n dd sl t) ⟨ho, ?_⟩⟩)
    exact ⟨.ref l, _, I, rfl, q1 rfl⟩
  · exact op_repT pins s σ H _ _ v u Q I rx ry ⟨l, k, xs, rfl, rfl, hT, hne, by omega, h2, hz, q2 (by omega)⟩
theorem n_rep1 {K : PySem.W.Frag} {G H : Hp} {L : List (Addr × HO)} {l : Addr} {x : Int} {n : Nat} {Q : VK} (S : Own G L H) (h : G l = some (.tup [.int x])) (h1 : 1 ≤ n) (h2 : n ≤ 1000) (k : ∀ p G1 H1, Ex G G1 → Ex H H1 → G1 p = some (.tup ((List.replicate n x).map V.int)) → Own G1 L H1 → Q (.ref p) H1) : rRep1 K (.ref l) (.int (n : Int)) H Q := by
  refine ⟨l, n, _, rfl, rfl, SqT.of (S.ex _ _ h), by simp, by omega, by omega, by simp, fun e => ?_, fun e p hp => ?_⟩
  · have e : n = 1 := by omega
    subst e
    exact k l G H (Ex.refl G) (Ex.refl H) h S
  · have e2 : (List.replicate (n : Int).toNat [V.int x]).flatten = (List.replicate n x).map V.int := by
      rw [Int.toNat_natCast, List.map_replicate]
      clear k e h1 h2
      induction n with
      | zero => rfl
      | succ n ih => rw [List.replicate_succ, List.flatten_cons, ih, List.replicate_succ] <;> rfl
    have e3 := S.still (o := .tup (List.replicate (n : Int).toNat [V.int x]).flatten) hp
    rw [e2] at e3 ⊢
    exact k p _ _ e3.2.1 (Ex.new hp) e3.2.2 e3.1
end NX

namespace NX
open PySem PySem.Spec PyProof.Rows L2
open Evl (Ex ex_l ex_t fresh_back)
/-- a state of n stations -/
def StA (H : Hp) (t : Addr) (st : List Int) : Prop := H t = some (.tup (st.map V.int))
theorem n_catT1 {K : PySem.W.Frag} {G H : Hp} {L : List (Addr × HO)} {a b : Addr} {xs ys : List V} {Q : VK} (S : Own G L H) (h : SqT K G a xs) (h2 : G b = some (.tup ys)) (hne : ys ≠ []) (hz : xs.length + ys.length ≤ 10000000) (k : ∀ r G1 H1, Ex G G1 → Ex H H1 → G1 r = some (.tup (xs ++ ys)) → Own G1 L H1 → Q (.ref r) H1) : rCatA K (.ref a) (.ref b) H Q := by
  refine ⟨a, b, xs, ys, rfl, rfl, S.st h, SqT.of (S.ex _ _ h2), small hz, fun e => ?_, fun _ e => absurd e hne, fun _ _ p hp => k p _ _ (S.still hp).2.1 (Ex.new hp) (S.still hp).2.2 (S.still hp).1⟩
  subst e
  exact k b G H (Ex.refl G) (Ex.refl H) h2 S
theorem n_catT2 {K : PySem.W.Frag} {G H : Hp} {L : List (Addr × HO)} {a b : Addr} {xs ys : List V} {Q : VK} (S : Own G L H) (h : G a = some (.tup xs)) (h2 : SqT K G b ys) (hne : xs ≠ []) (hz : xs.length + ys.length ≤ 10000000) (k : ∀ r G1 H1, Ex G G1 → Ex H H1 → G1 r = some (.tup (xs ++ ys)) → Own G1 L H1 → Q (.ref r) H1) : rCatA K (.ref a) (.ref b) H Q := by
  refine ⟨a, b, xs, ys, rfl, rfl, SqT.of (S.ex _ _ h), S.st h2, small hz, fun e => absurd e hne, fun _ e => ?_, fun _ _ p hp => k p _ _ (S.still hp).2.1 (Ex.new hp) (S.still hp).2.2 (S.still hp).1⟩
  subst e
  exact k a G H (Ex.refl G) (Ex.refl H) (by rw [List.append_nil]; exact h) S
theorem cut_take (st : List Int) (i : Nat) : cutV (st.map V.int) none (some (i : Int)) = (st.take i).map V.int := by
  rw [cutV_to, List.map_take] <;> rfl
theorem cut_drop (st : List Int) (i : Nat) (h : i ≤ st.length) : cutV (st.map V.int) (some (i : Int)) none = (st.drop i).map V.int := by
  have e := cutV_from (xs := st.map V.int) (i := i)
  rw [e, List.map_drop] <;> rfl
abbrev keyN (ns : List Int) : List L2.Key := ns.map Sum.inl
theorem keyN_inj {a b : List Int} (h : keyN a = keyN b) : a = b := by
  induction a generalizing b with
  | nil =>
    cases b with
    | nil => rfl
    | cons _ _ => cases h
  | cons x a ih =>
    cases b with
    | nil => cases h
    | cons y b =>
      simp only [keyN, List.map_cons, List.cons.injEq, Sum.inl.injEq] at h
      rw [h.1, ih h.2]
theorem keyN_kV (ns : List Int) : (keyN ns).map kV = ns.map V.int := by rw [List.map_map] <;> rfl
theorem n_dputN {G H : Hp} {L : List (Addr × HO)} {p t : Addr} {kvs : List (List L2.Key × V)} {st : List Int} {v : V} {R : Hp → Prop} (S : Own G ((p, .dT kvs) :: L) H) (ht : StA H t st) (hz : kvs.length ≤ 1000000) (k : ∀ H1, Own G ((p, .dT (putK kvs (keyN st) v)) :: L) H1 → R H1) :
    ∃ a H4, V.ref p = .ref a ∧ DPut H a (.ref t) v H4 ∧ R H4 :=
  ⟨p, _, rfl, DPut.t (k := keyN st) S.get0 (by rw [keyN_kV]; exact ht) (smallL (Nat.le_trans hz (by decide))), k _ S.put0⟩
theorem n_dgetN {H : Hp} {p t : Addr} {kvs : List (List L2.Key × V)} {st : List Int} {v : V} {R : V → Prop} (h : H p = some (.dT kvs)) (ht : StA H t st) (e : valV kvs (keyN st) = some v) (k : R v) : ∃ a v', V.ref p = .ref a ∧ DGet H a (.ref t) (some v') ∧ R v' :=
  ⟨p, v, rfl, e ▸ DGet.t (k := keyN st) h (by rw [keyN_kV]; exact ht), k⟩
theorem n_dinN {H : Hp} {p t : Addr} {kvs : List (List L2.Key × V)} {st : List Int} {Q : VK} (h : H p = some (.dT kvs)) (ht : StA H t st) (k : Q (.bl (valV kvs (keyN st)).isSome) H) : ∃ a o, V.ref p = .ref a ∧ DGet H a (.ref t) o ∧ Q (.bl o.isSome) H :=
  ⟨p, _, rfl, DGet.t (k := keyN st) h (by rw [keyN_kV]; exact ht), k⟩
theorem n_dninN {H : Hp} {p t : Addr} {kvs : List (List L2.Key × V)} {st : List Int} {Q : VK} (h : H p = some (.dT kvs)) (ht : StA H t st) (k : Q (.bl (!(valV kvs (keyN st)).isSome)) H) : ∃ a o, V.ref p = .ref a ∧ DGet H a (.ref t) o ∧ Q (.bl (!o.isSome)) H :=
  ⟨p, _, rfl, DGet.t (k := keyN st) h (by rw [keyN_kV]; exact ht), k⟩
theorem n_dninB {H : Hp} {p t : Addr} {kvs : List (List L2.Key × V)} {st : List Int} {X Y : Prop} (h : H p = some (.dT kvs)) (ht : StA H t st) (k : if (!(valV kvs (keyN st)).isSome) = true then X else Y) : ∃ a o, V.ref p = .ref a ∧ DGet H a (.ref t) o ∧ ∃ b, V.bl (!o.isSome) = V.bl b ∧ if b = true then X else Y :=
  ⟨p, _, rfl, DGet.t (k := keyN st) h (by rw [keyN_kV]; exact ht), _, rfl, k⟩
theorem n_dinB {H : Hp} {p t : Addr} {kvs : List (List L2.Key × V)} {st : List Int} {X Y : Prop} (h : H p = some (.dT kvs)) (ht : StA H t st) (k : if (valV kvs (keyN st)).isSome = true then X else Y) : ∃ a o, V.ref p = .ref a ∧ DGet H a (.ref t) o ∧ ∃ b, V.bl o.isSome = V.bl b ∧ if b = true then X else Y :=
  ⟨p, _, rfl, DGet.t (k := keyN st) h (by rw [keyN_kV]; exact ht), _, rfl, k⟩
theorem g_dnin {td ty : TE} {σ : L2.St} {H : Hp} {Q : VK} (k : ty σ H fun y H1 => td σ H1 fun x H2 => ∃ a o, x = .ref a ∧ DGet H2 a y o ∧ Q (.bl (!o.isSome)) H2) : tDNotIn ty td σ H Q := k
theorem g_dget' {td ty : TE} {σ : L2.St} {H : Hp} {Q : VK} (k : td σ H fun x H1 => ty σ H1 fun y H2 => ∃ a v, x = .ref a ∧ DGet H2 a y (some v) ∧ Q v H2) : tDGet td ty σ H Q := k
theorem s_dput' {td ty tv : TE} {D : Ends} {σ : L2.St} {H : Hp} (k : tv σ H fun v H1 => td σ H1 fun x H2 => ty σ H2 fun y H3 => ∃ a H4, x = .ref a ∧ DPut H3 a y v H4 ∧ D.nx σ H4) : sDPut td ty tv D σ H := k
theorem g_disp1 {tk tv : TE} {σ : L2.St} {H : Hp} {Q : VK} (k : ∀ p, H p = none → tk σ (upd H p (.dT [])) fun x H1 => tv σ H1 fun y H2 => H2 p = some (.dT []) ∧ ∃ (b : Addr) (k : List L2.Key) (H3 : Hp), x = .ref b ∧ H2 b = some (.tup (k.map kV)) ∧ H3 = upd H2 p (.dT [(k, y)]) ∧ Q (.ref p) H3) : tDisp1T tk tv σ H Q := k
theorem n_disp1 {G H : Hp} {L : List (Addr × HO)} {p b : Addr} {st : List Int} {y : V} {R : Hp → Prop} (S : Own G ((p, .dT []) :: L) H) (hb : StA H b st) (k : ∀ H1, Own G ((p, .dT [(keyN st, y)]) :: L) H1 → R H1) :
    H p = some (.dT []) ∧ ∃ (b' : Addr) (k : List L2.Key) (H3 : Hp), V.ref b = .ref b' ∧ H b' = some (.tup (k.map kV)) ∧ H3 = upd H p (.dT [(k, y)]) ∧ R H3 :=
  ⟨S.get0, b, keyN st, _, rfl, by rw [keyN_kV]; exact hb, rfl, k _ S.put0⟩
/-- what the search keeps with a state: the state before it and the station -/
def VF (G : Hp) (E : List Ent) (e : Ent) (v : V) : Prop := (e.l = 0 ∧ v = .non) ∨ (e.l ≠ 0 ∧ ∃ (p q : Addr) (f : Ent), v = .ref p ∧ G p = some (.tup [.ref q, .int (e.i : Int)]) ∧ E[e.p]? = some f ∧ StA G q f.st)
def DV (R : Ent → V → Prop) (E : List Ent) (kvs : List (List L2.Key × V)) : Prop := Paired (fun kv e => kv.1 = keyN e.st ∧ R e kv.2) kvs E
theorem DV.imp {R R' : Ent → V → Prop} {E : List Ent} {kvs : List (List L2.Key × V)} (h : DV R E kvs) (i : ∀ e ∈ E, ∀ v, R e v → R' e v) : DV R' E kvs := by
  unfold DV at *
  induction h with
  | nil => exact .nil
  | cons h _ ih => exact .cons ⟨h.1, i _ List.mem_cons_self _ h.2⟩ (ih fun e he => i e (List.mem_cons_of_mem _ he))
theorem DV.len {R : Ent → V → Prop} {E : List Ent} {kvs : List (List L2.Key × V)} (h : DV R E kvs) : kvs.length = E.length := Paired.length h
theorem DV.keys {R : Ent → V → Prop} {E : List Ent} {kvs : List (List L2.Key × V)} (h : DV R E kvs) : kvs.map (·.1) = (E.map Ent.st).map keyN := by
  unfold DV at h
  induction h with
  | nil => rfl
  | cons h _ ih => rw [List.map_cons, ih, h.1] <;> rfl
theorem DV.none {R : Ent → V → Prop} {E : List Ent} {kvs : List (List L2.Key × V)} (h : DV R E kvs) {st : List Int} (n : st ∉ E.map Ent.st) : valV kvs (keyN st) = Option.none := by
  cases q : valV kvs (keyN st) with
  | none => rfl
  | some v =>
    have := valV_in q
    rw [h.keys] at this
    obtain ⟨s, hs, e⟩ := List.mem_map.mp this
    exact absurd (keyN_inj e ▸ hs) n
theorem DV.some {R : Ent → V → Prop} {E : List Ent} {kvs : List (List L2.Key × V)} (h : DV R E kvs) {st : List Int} (n : st ∈ E.map Ent.st) : (valV kvs (keyN st)).isSome = true := by
  cases q : valV kvs (keyN st) with
  | some v => rfl
  | none =>
    have := valV_not q
    rw [h.keys] at this
    exact absurd (List.mem_map.mpr ⟨st, n, rfl⟩) this
theorem DV.isSome {R : Ent → V → Prop} {E : List Ent} {kvs : List (List L2.Key × V)} (h : DV R E kvs) (st : List Int) : (valV kvs (keyN st)).isSome = decide (st ∈ E.map Ent.st) := by
  by_cases c : st ∈ E.map Ent.st
  · rw [h.some c, decide_eq_true c]
  · rw [h.none c, decide_eq_false c] <;> rfl
theorem DV.add {R : Ent → V → Prop} {E : List Ent} {kvs : List (List L2.Key × V)} (h : DV R E kvs) {e : Ent} {v : V} (n : e.st ∉ E.map Ent.st) (hv : R e v) : DV R (E ++ [e]) (putK kvs (keyN e.st) v) := by
  rw [putK_new v (h.none n)]
  clear n
  unfold DV at *
  induction h with
  | nil => exact .cons ⟨rfl, hv⟩ .nil
  | cons h _ ih => exact .cons h ih
theorem DV.val {R : Ent → V → Prop} {E : List Ent} {kvs : List (List L2.Key × V)} (h : DV R E kvs) : (E.map Ent.st).Nodup → ∀ {m : Nat} {e : Ent}, E[m]? = Option.some e → ∃ v, valV kvs (keyN e.st) = Option.some v ∧ R e v := by
  unfold DV at h
  induction h with
  | nil => intro _ m e he; cases he
  | @cons kv e0 kvs E h t ih =>
    intro nd m e he
    obtain ⟨n1, n2⟩ := List.nodup_cons.mp nd
    cases m with
    | zero => cases he; exact ⟨_, valV_pos h.1, h.2⟩
    | succ m =>
      obtain ⟨v, e1, e2⟩ := ih n2 (m := m) he
      refine ⟨v, (valV_neg ?_).trans e1, e2⟩
      rw [h.1]
      intro z
      exact n1 (List.mem_map.mpr ⟨e, List.mem_of_getElem? he, (keyN_inj z).symm⟩)
theorem VF.mono {G G' : Hp} {E E' : List Ent} (eG : Ex G G') (eE : E <+: E') {e : Ent} {v : V} (h : VF G E e v) : VF G' E' e v := by
  rcases h with h | ⟨h, p, q, f, a, b, c, d⟩
  · exact .inl h
  · exact .inr ⟨h, p, q, f, a, eG _ _ b, pre_get eE c, eG _ _ d⟩
theorem sts_tup {H H' : Hp} {ys : List V} {L : List (List Int)} (h : Sts H' ys L) (e : Ex H H') : Sts (nw H H') ys L := by
  induction h with
  | nil => exact .nil
  | cons h _ ih => obtain ⟨t, e1, e2⟩ := h; exact .cons ⟨t, e1, nw_tup' e e2⟩ ih
end NX

namespace NX
open PySem PySem.Spec PyProof.Rows L2
open Evl (Ex ex_l ex_t fresh_back)
/-! ### for k in a new dict whose keys are tuples -/
theorem Own.frz {G H : Hp} {L : List (Addr × HO)} {d : Addr} {o : HO} (S : Own G ((d, o) :: L) H) (u : HO) : Own (upd G d u) L (upd H d u) ∧ Ex G (upd G d u) ∧ upd G d u d = some u := by
  have ne : ∀ x ∈ L, x.1 ≠ d := fun x hx z => S.nin (z ▸ List.mem_map_of_mem hx)
  refine ⟨⟨fun a v h => ?_, fun x hx => ?_, S.forget.nd, S.forget.nt⟩, fun a v h => ?_, upd_same⟩
  · by_cases e : a = d
    · subst e
      rw [upd_same] at h ⊢
      exact h
    · rw [upd_ne e] at h ⊢
      exact S.ex _ _ h
  · rw [upd_ne (ne x hx), upd_ne (ne x hx)]
    exact S.at_ x (List.mem_cons_of_mem _ hx)
  · have e : a ≠ d := ne_of_none h S.no0
    rw [upd_ne e]
    exact h
section
variable {σ : L2.St} {G H : Hp} {L : List (Addr × HO)} {te : TE} {tt : TT} {tb : TS} {g : TG} {vs : List Nat} {Q : VK} {n b c : L2.St → Hp → Prop} {rt : VK} {d : Addr} {o : Obj} {kvs : List (List L2.Key × V)}
theorem g_keysF {td : TE} {R : It → Hp → Prop} (k : td σ H fun x H1 => ∃ d kvs, x = .ref d ∧ H1 d = some (.dT kvs) ∧ ∀ o, R (Itkt d o kvs) (upd H1 d (.frz o (.dT kvs)))) : iKeysF td σ H R := k
theorem n_keysF {D : Ends} (S : Own G ((d, .dT kvs) :: L) H) (k : ∀ o G1 H1, Ex G G1 → G1 d = some (.frz o (.dT kvs)) → Own G1 L H1 → FORJ (Itkt d o kvs) g tb D σ H1) : ∃ d' kvs', V.ref d = .ref d' ∧ H d' = some (.dT kvs') ∧ ∀ o, FORJ (Itkt d' o kvs') g tb D σ (upd H d' (.frz o (.dT kvs'))) :=
  ⟨d, kvs, rfl, S.get0, fun o => k o _ _ (S.frz _).2.1 (S.frz _).2.2 (S.frz _).1⟩
theorem n_keysL (S : Own G ((d, .dT kvs) :: L) H) (k : ∀ o G1 H1, Ex G G1 → G1 d = some (.frz o (.dT kvs)) → Own G1 L H1 → LCJ (Itkt d o kvs) g tt te vs σ H1 Q) : ∃ d' kvs', V.ref d = .ref d' ∧ H d' = some (.dT kvs') ∧ ∀ o, LCJ (Itkt d' o kvs') g tt te vs σ (upd H d' (.frz o (.dT kvs'))) Q :=
  ⟨d, kvs, rfl, S.get0, fun o => k o _ _ (S.frz _).2.1 (S.frz _).2.2 (S.frz _).1⟩
theorem w_keysT (Pv : Nat → L2.St → Hp → Prop) (h0 : Pv 0 σ H) (hl : ∀ i σ H, Pv i σ H → H d = some (.frz o (.dT kvs)))
    (hs : ∀ i k v q σ H, kvs[i]? = some (k, v) → H q = some (.tup (k.map kV)) → Pv i σ H → g (.ref q) σ H fun σ2 H2 => tb ⟨Pv (i + 1), rt, n, Pv (i + 1)⟩ σ2 H2) (hd : ∀ σ H, Pv kvs.length σ H → n σ H) :
    FORJ (Itkt d o kvs) g tb ⟨n, rt, b, c⟩ σ H := by
  refine ⟨fun i m σ H => m = kvs.length - i ∧ i ≤ kvs.length ∧ Pv i σ H, ⟨kvs.length, by simp, Nat.zero_le _, h0⟩, ?_⟩
  rintro i m σ H ⟨rfl, hi, p⟩
  have q := hl i σ H p
  by_cases hlt : i < kvs.length
  · refine .inr ⟨⟨q, hlt⟩, Pv (i + 1), fun σ' H' p' => ⟨kvs.length - (i + 1), by omega, rfl, hlt, p'⟩, fun x H' y => ?_⟩
    obtain ⟨rfl, k, v, a, h1, rfl, h2⟩ := y
    exact hs i k v a σ _ h1 h2 p
  · have e : i = kvs.length := by omega
    subst e
    exact .inl ⟨⟨q, Nat.le_refl _⟩, hd _ _ p⟩
theorem v_keysT (F : Nat → List V → Hp → List (Addr × HO) → Prop) (S : Own G L H) (hx : G d = some (.frz o (.dT kvs))) (hz : kvs.length ≤ 1000000) (h0 : F 0 [] G L)
    (hs : ∀ D i k v q acc G1 L1 H1, kvs[i]? = some (k, v) → H1 q = some (.tup (k.map kV)) → i < 1000000 → Ex G G1 → acc.length ≤ i → F i acc G1 L1 → Own G1 ((D, .lst acc) :: L1) H1 → g (.ref q) (wipe σ vs) H1 fun σ2 H2 => wipe σ2 vs = wipe σ vs ∧ tt σ2 H2 fun b H3 =>
      if b = true then te σ2 H3 fun y H4 => CE G D F i y H4 else CP G D F (i + 1) H3)
    (hd : ∀ p acc G1 L1 H1, Ex G G1 → acc.length ≤ kvs.length → F kvs.length acc G1 L1 → Own G1 ((p, .lst acc) :: L1) H1 → Q (.ref p) H1) :
    LCJ (Itkt d o kvs) g tt te vs σ H Q := by
  intro D hD
  refine ⟨fun i m H => m = kvs.length - i ∧ i ≤ kvs.length ∧ CP G D F i H, ⟨kvs.length, by simp, Nat.zero_le _, [], G, L, Ex.refl G, Nat.le_refl _, h0, S.lay hD⟩, ?_⟩
  rintro i m H1 ⟨rfl, hi, p⟩
  obtain ⟨acc, G1, L1, e, hl, f, S1⟩ := p
  have q := S1.ex _ _ (e _ _ hx)
  by_cases hlt : i < kvs.length
  · refine .inr ⟨⟨q, hlt⟩, CP G D F (i + 1), fun H' p' => ⟨kvs.length - (i + 1), by omega, rfl, hlt, p'⟩, fun x H' y => ?_⟩
    obtain ⟨rfl, k, v, a, h1, rfl, h2⟩ := y
    exact hs D i k v a acc G1 L1 _ h1 h2 (by omega) e hl f S1
  · have ei : i = kvs.length := by omega
    subst ei
    exact .inl ⟨⟨q, Nat.le_refl _⟩, hd D acc G1 L1 H1 e hl f S1⟩
end
/-! ### lists of states compared -/
def pdN (ns : List Int) : PyData := .tuple (ns.map .int)
theorem dpN_ints {K : PySem.W.Frag} {H : Hp} : ∀ ns : List Int, DpAll K H (ns.map V.int) (ns.map .int)
  | [] => .nil
  | n :: ns => .cons (.int _) (dpN_ints ns)
theorem dp_sts {K : PySem.W.Frag} {H : Hp} : ∀ {xs : List V} {L : List (List Int)}, Sts H xs L → DpAll K H xs (L.map pdN)
  | _, _, .nil => .nil
  | _, _, .cons r t => by
    obtain ⟨u, rfl, hu⟩ := r
    exact .cons (.tup (SqT.of hu) (dpN_ints _)) (dp_sts t)
theorem layN_int : ∀ ns : List Int, PyData.canLayAll0 (ns.map .int) = true
  | [] => by rw [List.map_nil]; unfold PyData.canLayAll0; rfl
  | n :: ns => by
    rw [List.map_cons]
    unfold PyData.canLayAll0
    rw [layN_int ns]
    show (PyData.canLay0 (.int n) && true) = true
    simp [PyData.canLay0]
theorem depthN_int : ∀ ns : List Int, PyData.depthAll (ns.map .int) ≤ 1
  | [] => by rw [List.map_nil]; unfold PyData.depthAll; omega
  | n :: ns => by
    rw [List.map_cons]
    unfold PyData.depthAll
    have := depthN_int ns
    have h : PyData.depth (.int n) ≤ 1 := by simp [PyData.depth]
    omega
theorem lay_sts : ∀ L : List (List Int), PyData.canLayAll0 (L.map pdN) = true
  | [] => by rw [List.map_nil]; unfold PyData.canLayAll0; rfl
  | n :: L => by
    rw [List.map_cons]
    unfold PyData.canLayAll0
    rw [lay_sts L]
    show (PyData.canLay0 (.tuple (n.map .int)) && true) = true
    simp only [PyData.canLay0, layN_int, Bool.and_self]
theorem depth_sts : ∀ L : List (List Int), PyData.depthAll (L.map pdN) ≤ 2
  | [] => by rw [List.map_nil]; unfold PyData.depthAll; omega
  | n :: L => by
    rw [List.map_cons]
    unfold PyData.depthAll
    have := depth_sts L
    have h : PyData.depth (pdN n) ≤ 2 := by
      unfold pdN
      simp only [PyData.depth]
      have := depthN_int n
      omega
    omega
theorem shaped_sts (L : List (List Int)) : SeqAt.shaped (.list (L.map pdN)) = true := by
  unfold SeqAt.shaped
  have h := depth_sts L
  rw [Bool.and_eq_true]
  refine ⟨?_, decide_eq_true ?_⟩
  · simp only [PyData.canLay0]
    exact lay_sts L
  · simp only [PyData.depth]
    omega
theorem eqvN_ints : ∀ a b : List Int, PyData.eqvAll (a.map .int) (b.map .int) = decide (a = b)
  | [], [] => by simp [PyData.eqvAll]
  | [], _ :: _ => by simp [PyData.eqvAll]
  | _ :: _, [] => by simp [PyData.eqvAll]
  | x :: a, y :: b => by
    rw [List.map_cons, List.map_cons, PyData.eqvAll, eqvN_ints a b]
    simp only [PyData.eqv, List.cons.injEq]
    rw [Bool.eq_iff_iff]
    simp
theorem eqv_sts : ∀ a b : List (List Int), PyData.eqvAll (a.map pdN) (b.map pdN) = decide (a = b)
  | [], [] => by simp [PyData.eqvAll]
  | [], _ :: _ => by simp [PyData.eqvAll]
  | _ :: _, [] => by simp [PyData.eqvAll]
  | x :: a, y :: b => by
    rw [List.map_cons, List.map_cons, PyData.eqvAll, eqv_sts a b]
    unfold pdN
    rw [PyData.eqv, eqvN_ints]
    rw [Bool.eq_iff_iff]
    simp
theorem n_eqS {K : PySem.W.Frag} {H : Hp} {c d : Addr} {A B : List (List Int)} {x y : List V} {Q : VK} (h1 : SqL K H c x) (h2 : SqL K H d y) (l1 : Sts H x A) (l2 : Sts H y B) (k : Q (.bl (decide (A = B))) H) : rEqD K (.ref c) (.ref d) H Q :=
  ⟨_, _, .lst h1 (dp_sts l1), .lst h2 (dp_sts l2), shaped_sts A, shaped_sts B, by rw [PyData.eqv, eqv_sts]; exact k⟩
theorem n_neS {K : PySem.W.Frag} {H : Hp} {c d : Addr} {A B : List (List Int)} {x y : List V} {Q : VK} (h1 : SqL K H c x) (h2 : SqL K H d y) (l1 : Sts H x A) (l2 : Sts H y B) (k : Q (.bl (!decide (A = B))) H) : rNeD K (.ref c) (.ref d) H Q :=
  ⟨_, _, .lst h1 (dp_sts l1), .lst h2 (dp_sts l2), shaped_sts A, shaped_sts B, by rw [PyData.eqv, eqv_sts]; exact k⟩
/-- l.extend(b) -/
theorem n_extS {G H : Hp} {L : List (Addr × HO)} {l b : Addr} {xs zs : List V} {Q : VK} (S : Own G ((b, .lst zs) :: (l, .lst xs) :: L) H) (hz : xs.length + zs.length ≤ 1000000) (k : ∀ H1, Own G ((b, .lst zs) :: (l, .lst (xs ++ zs)) :: L) H1 → Q .non H1) : rExtend (.ref l) [.ref b] H Q :=
  ⟨l, b, xs, zs, rfl, rfl, S.get1, S.get0, small (by omega), k _ S.put1⟩
theorem s_glst {K : PySem.W.Frag} {m : Nat} {t : TGs} {a : Addr} {xs : List V} {σ : L2.St} {H : Hp} {Q : L2.St → Hp → Prop} (h : SqL K H a xs) (e : xs.length = m) (k : t xs σ H Q) : gLst K m t (.ref a) σ H Q := ⟨a, xs, rfl, h, e, k⟩
end NX

namespace NX
open PySem PySem.Spec PyProof.Rows L2
/-! ### the text of a list of small states -/
structure SmallS (ns : List Int) : Prop where
  len : ns.length ≤ 7
  dig : ∀ x ∈ ns, 0 ≤ x ∧ x < 10
theorem dig_ok {x : Int} (h : 0 ≤ x ∧ x < 10) : (PyData.shown (.int x)).length ≤ 1 ∧ PyData.showable (.int x) = true := by
  have : x = 0 ∨ x = 1 ∨ x = 2 ∨ x = 3 ∨ x = 4 ∨ x = 5 ∨ x = 6 ∨ x = 7 ∨ x = 8 ∨ x = 9 := by omega
  rcases this with rfl | rfl | rfl | rfl | rfl | rfl | rfl | rfl | rfl | rfl <;> exact ⟨by decide +kernel, by decide +kernel⟩
theorem sum_len : ∀ {ts : List Str} {k : Nat}, (∀ t ∈ ts, t.length ≤ k) → (ts.map (·.length)).sum ≤ ts.length * k
  | [], _, _ => by simp
  | t :: ts, k, h => by
    have h1 := h t List.mem_cons_self
    have h2 := sum_len (ts := ts) (k := k) fun u hu => h u (List.mem_cons_of_mem _ hu)
    rw [List.map_cons, List.sum_cons, List.length_cons, Nat.succ_mul]
    omega
theorem shownAll_len : ∀ ds : List PyData, (PyData.shownAll ds).length = ds.length
  | [] => by simp only [PyData.shownAll, List.length_nil]
  | d :: ds => by simp only [PyData.shownAll, List.length_cons, shownAll_len ds]
theorem shownAll_mem : ∀ {ds : List PyData} {t : Str}, t ∈ PyData.shownAll ds → ∃ d ∈ ds, t = PyData.shown d
  | [], t, h => by simp only [PyData.shownAll] at h; cases h
  | d :: ds, t, h => by
    simp only [PyData.shownAll] at h
    rcases List.mem_cons.mp h with rfl | h
    · exact ⟨d, List.mem_cons_self, rfl⟩
    · obtain ⟨e, he, r⟩ := shownAll_mem h
      exact ⟨e, List.mem_cons_of_mem _ he, r⟩
theorem showableAll_of : ∀ {ds : List PyData}, (∀ d ∈ ds, PyData.showable d = true) → PyData.showableAll ds = true
  | [], _ => by simp only [PyData.showableAll]
  | d :: ds, h => by
    simp only [PyData.showableAll, h d List.mem_cons_self, showableAll_of fun e he => h e (List.mem_cons_of_mem _ he), Bool.and_self]
theorem st_text {ns : List Int} (h : SmallS ns) : (PyData.shown (pdN ns)).length ≤ 24 ∧ PyData.showable (pdN ns) = true := by
  constructor
  · unfold pdN
    simp only [PyData.shown]
    have h1 := tupleText_len_le (PyData.shownAll (ns.map .int))
    have h2 := sum_len (ts := PyData.shownAll (ns.map .int)) (k := 1) fun t ht => by
      obtain ⟨d, hd, rfl⟩ := shownAll_mem ht
      obtain ⟨x, hx, rfl⟩ := List.mem_map.mp hd
      exact (dig_ok (h.dig x hx)).1
    rw [shownAll_len, List.length_map] at h2
    rw [shownAll_len, List.length_map] at h1
    have := h.len
    omega
  · unfold pdN
    simp only [PyData.showable]
    exact showableAll_of fun d hd => by
      obtain ⟨x, hx, rfl⟩ := List.mem_map.mp hd
      exact (dig_ok (h.dig x hx)).2
theorem sts_text {L : List (List Int)} (h : ∀ ns ∈ L, SmallS ns) (hl : L.length ≤ 300000) : (PyData.shown (.list (L.map pdN))).length ≤ sizeLine ∧ PyData.showable (.list (L.map pdN)) = true := by
  constructor
  · simp only [PyData.shown]
    have h1 := listText_len_le (PyData.shownAll (L.map pdN))
    have h2 := sum_len (ts := PyData.shownAll (L.map pdN)) (k := 24) fun t ht => by
      obtain ⟨d, hd, rfl⟩ := shownAll_mem ht
      obtain ⟨x, hx, rfl⟩ := List.mem_map.mp hd
      exact (st_text (h x hx)).1
    rw [shownAll_len, List.length_map] at h2
    rw [shownAll_len, List.length_map] at h1
    rw [sizeLine_eq]
    omega
  · simp only [PyData.showable]
    exact showableAll_of fun d hd => by
      obtain ⟨x, hx, rfl⟩ := List.mem_map.mp hd
      exact (st_text (h x hx)).2
/-- repr(l), l a list of states -/
theorem n_reprS {K : PySem.W.Frag} {H : Hp} {c : Addr} {x : List V} {L : List (List Int)} {Q : VK} (h1 : SqL K H c x) (l1 : Sts H x L) (h : ∀ ns ∈ L, SmallS ns) (hl : L.length ≤ 300000) (k : Q (.str (PyData.shown (.list (L.map pdN)))) H) : rReprD K [.ref c] H Q := by
  refine ⟨c, _, rfl, .lst h1 (dp_sts l1), (sts_text h hl).2, ?_, ?_, (sts_text h hl).1, k⟩
  · exact PyData.hasDict_of_canLay _ (by simp only [PyData.canLay0]; exact lay_sts L)
  · have := depth_sts L
    simp only [PyData.depth]
    omega
end NX

namespace NX
open PySem PySem.Spec PyProof.Rows L2
open Evl (Ex ex_l ex_t fresh_back)
/-! ### new numbers with one change, and their text -/
structure SmallD (d : PyData) : Prop where
  sh : d.showable = true
  nd : d.hasDict = false
  dp : d.depth ≤ 5
  ln : d.shown.length ≤ 30
theorem hasDictAll_of : ∀ {ds : List PyData}, (∀ d ∈ ds, d.hasDict = false) → PyData.hasDictAll ds = false
  | [], _ => by simp only [PyData.hasDictAll]
  | d :: ds, h => by
    simp only [PyData.hasDictAll, h d List.mem_cons_self, hasDictAll_of fun e he => h e (List.mem_cons_of_mem _ he), Bool.or_false]
theorem depthAll_of {k : Nat} : ∀ {ds : List PyData}, (∀ d ∈ ds, d.depth ≤ k) → PyData.depthAll ds ≤ k
  | [], _ => by simp only [PyData.depthAll]; exact Nat.zero_le _
  | d :: ds, h => by
    simp only [PyData.depthAll]
    exact Nat.max_le.mpr ⟨h d List.mem_cons_self, depthAll_of fun e he => h e (List.mem_cons_of_mem _ he)⟩
theorem small_list {ds : List PyData} (h : ∀ d ∈ ds, SmallD d) (hl : ds.length ≤ 1000) : (PyData.list ds).showable = true ∧ (PyData.list ds).hasDict = false ∧ (PyData.list ds).depth ≤ 10 ∧ (PyData.list ds).shown.length ≤ sizeLine := by
  refine ⟨?_, ?_, ?_, ?_⟩
  · simp only [PyData.showable]
    exact showableAll_of fun d hd => (h d hd).sh
  · simp only [PyData.hasDict]
    exact hasDictAll_of fun d hd => (h d hd).nd
  · simp only [PyData.depth]
    have := depthAll_of (k := 5) fun d hd => (h d hd).dp
    omega
  · simp only [PyData.shown]
    have h1 := listText_len_le (PyData.shownAll ds)
    have h2 := sum_len (ts := PyData.shownAll ds) (k := 30) fun t ht => by
      obtain ⟨d, hd, rfl⟩ := shownAll_mem ht
      exact (h d hd).ln
    rw [shownAll_len] at h2
    rw [shownAll_len] at h1
    rw [sizeLine_eq]
    omega
theorem dp_intsA {K : PySem.W.Frag} {H : Hp} : ∀ ns : List Int, DpAll K H (ns.map V.int) (ns.map PyData.int)
  | [] => .nil
  | n :: ns => .cons (.int n) (dp_intsA ns)
theorem dp_app {K : PySem.W.Frag} {H : Hp} : ∀ {xs ys : List V} {ds es : List PyData}, DpAll K H xs ds → DpAll K H ys es → DpAll K H (xs ++ ys) (ds ++ es)
  | _, _, _, _, .nil, h => h
  | _, _, _, _, .cons a b, h => .cons a (dp_app b h)
theorem small_int {i : Int} (h0 : 0 ≤ i) (h : i ≤ 60) : SmallD (.int i) := by
  have z : ∀ j : Fin 61, (PyData.int ((j : Nat) : Int)).showable = true ∧ (PyData.int ((j : Nat) : Int)).hasDict = false ∧ (PyData.int ((j : Nat) : Int)).depth ≤ 5 ∧ (PyData.int ((j : Nat) : Int)).shown.length ≤ 30 := by decide +kernel
  obtain ⟨j, rfl⟩ : ∃ j : Nat, i = (j : Int) := ⟨i.toNat, by omega⟩
  obtain ⟨h1, h2, h3, h4⟩ := z ⟨j, by omega⟩
  exact ⟨h1, h2, h3, h4⟩
/-- no new number behind ns, of data -/
def BadNm (K : PySem.W.Frag) (G : Hp) (n : Nat) (ns : List Int) (x : V) : Prop := ∃ ty d, OddV G x ty ∧ (ty = "int" → ∃ i, x = .int i ∧ (¬ (0 ≤ i ∧ i < (n : Int)) ∨ i ∈ ns)) ∧ Dp K G x d ∧ SmallD d
theorem badNm_at {K : PySem.W.Frag} {G : Hp} {n : Nat} {ns : List Int} {pl : Addr} (hn : n ≤ 60) (h1 : G pl = some (.lst [.int 0])) (hns : ∀ i ∈ ns, 0 ≤ i ∧ i < (n : Int)) {r : Int} (h0 : 0 ≤ r) (h8 : r < 7 + (ns.length : Int)) :
    ∃ x, atI ([V.int (n : Int), V.int (-1), V.non, V.bl true, V.str (Str.ofString "0"), V.ref pl, V.int (10 ^ (20 : Int).toNat)] ++ ns.map V.int) r = some x ∧ BadNm K G n ns x := by
  obtain ⟨r, rfl⟩ : ∃ m : Nat, r = (m : Int) := ⟨r.toNat, by omega⟩
  by_cases c : r < 7
  · have : r = 0 ∨ r = 1 ∨ r = 2 ∨ r = 3 ∨ r = 4 ∨ r = 5 ∨ r = 6 := by omega
    rcases this with rfl | rfl | rfl | rfl | rfl | rfl | rfl
    · exact ⟨_, atI_nat (j := 0) rfl, "int", _, .int _, fun _ => ⟨_, rfl, .inl (by omega)⟩, .int _, small_int (by omega) (by omega)⟩
    · exact ⟨_, atI_nat (j := 1) rfl, "int", _, .int _, fun _ => ⟨_, rfl, .inl (by omega)⟩, .int _, ⟨by decide +kernel, by decide +kernel, by decide +kernel, by decide +kernel⟩⟩
    · exact ⟨_, atI_nat (j := 2) rfl, "NoneType", _, .non, fun h => absurd h (by decide), .non, ⟨by decide +kernel, by decide +kernel, by decide +kernel, by decide +kernel⟩⟩
    · exact ⟨_, atI_nat (j := 3) rfl, "bool", _, .bl true, fun h => absurd h (by decide), .bl true, ⟨by decide +kernel, by decide +kernel, by decide +kernel, by decide +kernel⟩⟩
    · exact ⟨_, atI_nat (j := 4) rfl, "str", _, .str _, fun h => absurd h (by decide), .str _, ⟨by decide +kernel, by decide +kernel, by decide +kernel, by decide +kernel⟩⟩
    · exact ⟨_, atI_nat (j := 5) rfl, "list", _, .lst h1, fun h => absurd h (by decide), .lst (SqL.of h1) (.cons (.int 0) .nil), ⟨by decide +kernel, by decide +kernel, by decide +kernel, by decide +kernel⟩⟩
    · refine ⟨_, atI_nat (j := 6) rfl, "int", _, .int _, fun _ => ⟨_, rfl, .inl ?_⟩, .int _, ⟨by decide +kernel, by decide +kernel, by decide +kernel, by decide +kernel⟩⟩
      have e : (10 : Int) ^ (20 : Int).toNat = 100000000000000000000 := by decide
      rw [e]
      omega
  · have hr : r - 7 < ns.length := by omega
    refine ⟨.int ns[r - 7], atI_nat (j := r) ?_, "int", _, .int _, fun _ => ⟨_, rfl, .inr (List.getElem_mem hr)⟩, .int _, ?_⟩
    · rw [List.getElem?_append_right (by show 7 ≤ r; omega), List.getElem?_map]
      show (ns[r - 7]?).map V.int = _
      rw [List.getElem?_eq_getElem hr] <;> rfl
    · have := hns _ (List.getElem_mem hr)
      exact small_int this.1 (by omega)
/-- the numbers with the change, as a value that is shown -/
theorem sh_bad {K : PySem.W.Frag} {G : Hp} {p : Addr} {n j : Nat} {ns : List Int} {x : V} {d : PyData} (hn : n ≤ 60) (hl : ns.length = n) (hns : ∀ i ∈ ns, 0 ≤ i ∧ i < (n : Int)) (hp : G p = some (.lst ((ns.take j).map V.int ++ [x] ++ (ns.drop (j + 1)).map V.int))) (hd : Dp K G x d) (sd : SmallD d) :
    ∃ t, ShV K G (.ref p) t := by
  have sm : ∀ i ∈ ns, SmallD (.int i) := fun i hi => by
    have := hns i hi
    exact small_int this.1 (by omega)
  obtain ⟨h1, h2, h3, h4⟩ := small_list (ds := (ns.take j).map PyData.int ++ [d] ++ (ns.drop (j + 1)).map PyData.int) (fun e he => by
    rcases List.mem_append.mp he with he | he
    · rcases List.mem_append.mp he with he | he
      · obtain ⟨i, hi, rfl⟩ := List.mem_map.mp he
        exact sm i (List.mem_of_mem_take hi)
      · rw [List.mem_singleton.mp he]
        exact sd
    · obtain ⟨i, hi, rfl⟩ := List.mem_map.mp he
      exact sm i (List.mem_of_mem_drop hi)) (by
    simp only [List.length_append, List.length_map, List.length_take, List.length_drop, List.length_singleton]
    omega)
  exact ⟨_, .dat _ (.lst (SqL.of hp) (dp_app (dp_app (dp_intsA _) (.cons hd .nil)) (dp_intsA _))) h1 h2 h3 h4⟩
/-- (word, number) twice -/
theorem n_neSI {K : PySem.W.Frag} {H : Hp} {a b : Addr} {s : Str} {i : Int} {Q : VK} (hs : PyData.strOk s = true) (h1 : H a = some (.tup [.str s, .int i])) (h2 : H b = some (.tup [.str s, .int i])) (k : Q (.bl false) H) : rNeD K (.ref a) (.ref b) H Q := by
  have z : SeqAt.shaped (.tuple [.str s, .int i]) = true := by
    unfold SeqAt.shaped
    simp [PyData.canLay0, PyData.canLayAll0, PyData.depth, PyData.depthAll, hs]
  exact ⟨_, _, .tup (SqT.of h1) (.cons (.str s) (.cons (.int i) .nil)), .tup (SqT.of h2) (.cons (.str s) (.cons (.int i) .nil)), z, z, by simpa [PyData.eqv, PyData.eqvAll] using k⟩
theorem n_eqSI {K : PySem.W.Frag} {H : Hp} {a b : Addr} {s : Str} {i : Int} {Q : VK} (hs : PyData.strOk s = true) (h1 : H a = some (.tup [.str s, .int i])) (h2 : H b = some (.tup [.str s, .int i])) (k : Q (.bl true) H) : rEqD K (.ref a) (.ref b) H Q := by
  have z : SeqAt.shaped (.tuple [.str s, .int i]) = true := by
    unfold SeqAt.shaped
    simp [PyData.canLay0, PyData.canLayAll0, PyData.depth, PyData.depthAll, hs]
  exact ⟨_, _, .tup (SqT.of h1) (.cons (.str s) (.cons (.int i) .nil)), .tup (SqT.of h2) (.cons (.str s) (.cons (.int i) .nil)), z, z, by simpa [PyData.eqv, PyData.eqvAll] using k⟩
theorem BadNm.mono {K : PySem.W.Frag} {G H : Hp} {n : Nat} {ns : List Int} {x : V} (h : BadNm K G n ns x) (e : Ex G H) : BadNm K H n ns x := by
  obtain ⟨ty, d, h1, h2, h3, h4⟩ := h
  exact ⟨ty, d, h1.mono e, h2, dp_mono e d _ h3, h4⟩
end NX

namespace NX
open PySem PySem.Spec PyProof.Rows L2
open Evl (Ex ex_l ex_t fresh_back)
/-! ### slices of tuples, tuple + tuple -/
section
variable {K : PySem.W.Frag} {G H : Hp} {L : List (Addr × HO)} {a b : Addr} {xs ys : List V} {Q : VK}
theorem n_slA {lo hi : Option Int} (S : Own G L H) (h : SqT K G a xs) (k : ∀ r G1 H1, Ex G G1 → Ex H H1 → SqT K G1 r (cutV xs lo hi) → Own G1 L H1 → Q (.ref r) H1) : rSlA K (.ref a) lo hi H Q := by
  refine ⟨a, xs, rfl, S.st h, fun e => k a G H (Ex.refl G) (Ex.refl H) ?_ S, fun _ p hp => k p _ _ (S.still hp).2.1 (Ex.new hp) (SqT.of (S.still hp).2.2) (S.still hp).1⟩
  have z : cutV xs lo hi = xs := by
    unfold cutV
    rw [e.1, e.2, List.drop_zero, Nat.sub_zero, List.take_length]
  rw [z]
  exact h
theorem n_catA (S : Own G L H) (h : SqT K G a xs) (h2 : SqT K G b ys) (hz : xs.length + ys.length ≤ 10000000) (k : ∀ r G1 H1, Ex G G1 → Ex H H1 → SqT K G1 r (xs ++ ys) → Own G1 L H1 → Q (.ref r) H1) : rCatA K (.ref a) (.ref b) H Q := by
  refine ⟨a, b, xs, ys, rfl, rfl, S.st h, S.st h2, small hz, fun e => ?_, fun _ e => ?_, fun _ _ p hp => k p _ _ (S.still hp).2.1 (Ex.new hp) (SqT.of (S.still hp).2.2) (S.still hp).1⟩
  · subst e
    exact k b G H (Ex.refl G) (Ex.refl H) h2 S
  · subst e
    exact k a G H (Ex.refl G) (Ex.refl H) (by rw [List.append_nil]; exact h) S
theorem n_clear (S : Own G ((a, .lst xs) :: L) H) (k : ∀ H1, Own G ((a, .lst []) :: L) H1 → Q .non H1) : rClear (.ref a) [] H Q := ⟨a, xs, rfl, rfl, S.get0, k _ S.put0⟩
theorem n_neP {c d : Addr} {ps qs : List Pr} {x y : List V} (h1 : SqL K H c x) (h2 : SqL K H d y) (l1 : Lks H x ps) (l2 : Lks H y qs) (k : Q (.bl (!decide (ps = qs))) H) : rNeD K (.ref c) (.ref d) H Q :=
  ⟨_, _, .lst h1 (dp_lks l1), .lst h2 (dp_lks l2), shaped_lks ps, shaped_lks qs, by rw [eqv_lks]; exact k⟩
theorem n_eqP {c d : Addr} {ps qs : List Pr} {x y : List V} (h1 : SqL K H c x) (h2 : SqL K H d y) (l1 : Lks H x ps) (l2 : Lks H y qs) (k : Q (.bl (decide (ps = qs))) H) : rEqD K (.ref c) (.ref d) H Q :=
  ⟨_, _, .lst h1 (dp_lks l1), .lst h2 (dp_lks l2), shaped_lks ps, shaped_lks qs, by rw [eqv_lks]; exact k⟩
/-- sorted(links): frozen -/
theorem n_sortPG {ps : List Pr} (S : Own G L H) (hx : SqL K G a xs) (hl : Lks G xs ps) (k : ∀ p ys G1 H1, H p = none → Ex G G1 → Ex H H1 → G1 p = some (.lst ys) → Lks G1 ys (sortP ps) → Own G1 L H1 → Q (.ref p) H1) : rSortedPO K [.ref a] H Q :=
  n_sortP S (S.sl hx) S.ex hl fun p ys G1 H1 h1 h2 h3 h4 h5 h6 => k p ys G1 H1 h1 h2 h3 h4 (h5.mono h2) h6
/-- xs.index(y): numbers, each once -/
theorem n_index {ns : List Int} {i : Nat} {x : Int} (h : SqL K H a (ns.map V.int)) (nd : ns.Nodup) (hi : ns[i]? = some x) (k : Q (.int (i : Nat)) H) : rIndex K (.ref a) [.int x] H Q :=
  ⟨a, _, .int x, i, .int x, rfl, rfl, h, rfl, all_flat ns, by rw [List.getElem?_map, hi] <;> rfl, by simp [eqV], fun m z' hm hz => by
    obtain ⟨y, hy, rfl⟩ := get_map hz
    obtain ⟨h1, e1⟩ := List.getElem?_eq_some_iff.mp hy
    obtain ⟨h2, e2⟩ := List.getElem?_eq_some_iff.mp hi
    have ne : y ≠ x := fun e => by
      have := (List.getElem_inj nd).mp (e1.trans (e.trans e2.symm))
      omega
    simp [eqV, ne], k⟩
end
end NX

namespace NX
/-! ### greatest_channels: the table -/
/-- one step of the table -/
def StepT (n : Nat) (ks : List Pr) (t t' : List Int) : Prop := t'.length = n ∧ ∀ i : Nat, i < n → IsCh ((nb ks (i : Int)).map (tv t)) (tv t' (i : Int) - 1)
def TabF (n : Nat) (ks : List Pr) (t : List Int) : Prop := StepT n ks t t
def LowT (n : Nat) (ks : List Pr) (t : List Int) : Prop := t.length = n ∧ (∀ i : Nat, i < n → 0 ≤ tv t (i : Int)) ∧ ∀ t', StepT n ks t t' → ∀ i : Nat, i < n → tv t' (i : Int) ≤ tv t (i : Int)
theorem nb_nat {n : Nat} {ks : List Pr} (h : Okl n ks) {i x : Int} (m : x ∈ nb ks i) : ∃ j : Nat, x = (j : Int) ∧ j < n := by
  have := nb_rng h m
  exact ⟨x.toNat, by omega, by omega⟩
theorem low_step {n : Nat} {ks : List Pr} {t t' : List Int} (ok : Okl n ks) (h : LowT n ks t) (s : StepT n ks t t') : LowT n ks t' := by
  refine ⟨s.1, fun i hi => by have := (s.2 i hi).1; omega, fun t'' s' i hi => ?_⟩
  have := IsCh.mono (f := tv t') (g := tv t) (List.Sublist.refl _) (fun x hx => by
    obtain ⟨j, rfl, hj⟩ := nb_nat ok hx
    exact h.2.2 t' s j hj) (s'.2 i hi) (s.2 i hi)
  omega
theorem low_sum {n : Nat} {ks : List Pr} {t t' : List Int} (h : LowT n ks t) (s : StepT n ks t t') : 0 ≤ t'.sum ∧ t'.sum ≤ t.sum ∧ (t' ≠ t → t'.sum < t.sum) := by
  have z := sum_le (s := t') (t := t) (s.1.trans h.1.symm) fun i hi => h.2.2 t' s i (by have := s.1; omega)
  exact ⟨sum_nn fun i hi => by have := (s.2 i (by have := s.1; omega)).1; omega, z⟩
theorem low_start {n : Nat} {ks : List Pr} {t : List Int} (h : t.length = n) (e : ∀ i : Nat, i < n → tv t (i : Int) = ((nb ks (i : Int)).length : Int) + 1) : LowT n ks t :=
  ⟨h, fun i hi => by rw [e i hi]; omega, fun t' s i hi => by
    have := (s.2 i hi).le_len
    rw [List.length_map] at this
    rw [e i hi]
    omega⟩
theorem TabF.tab {n : Nat} {ks : List Pr} {t : List Int} (h : TabF n ks t) : Tab (fun v : Int => 0 ≤ v ∧ v < (n : Int)) (nb ks) (tv t) := fun v ⟨h1, h2⟩ => by
  obtain ⟨i, rfl⟩ : ∃ i : Nat, v = (i : Int) := ⟨v.toNat, by omega⟩
  exact h.2 i (by omega)
theorem TabF.uniq {n : Nat} {ks : List Pr} {s t : List Int} (ok : Okl n ks) (h : TabF n ks s) (h' : TabF n ks t) : s = t := by
  have a := tab_le h.tab h'.tab id (fun v hv => hv) (fun v _ u hu => by have := nb_rng ok hu; omega) (fun v _ => ⟨_, List.Perm.refl _, by rw [List.map_id]; exact List.Sublist.refl _⟩)
  have b := tab_le h'.tab h.tab id (fun v hv => hv) (fun v _ u hu => by have := nb_rng ok hu; omega) (fun v _ => ⟨_, List.Perm.refl _, by rw [List.map_id]; exact List.Sublist.refl _⟩)
  refine tv_ext (h.1.trans h'.1.symm) fun i hi => ?_
  have hi' : i < n := by have := h.1; omega
  have c := a (i : Int) ⟨by omega, by omega⟩
  have d := b (i : Int) ⟨by omega, by omega⟩
  simp only [id] at c d
  omega
end NX

namespace NX
/-! ### renamed, without: their tables -/
theorem nb_perm {ks ls : List Pr} (p : ks.Perm ls) (i : Int) : (nb ks i).Perm (nb ls i) := p.filterMap _
theorem StepT.perm {n : Nat} {ks ls : List Pr} {t t' : List Int} (h : StepT n ks t t') (p : ks.Perm ls) : StepT n ls t t' := ⟨h.1, fun i hi => (h.2 i hi).perm ((nb_perm p _).map _)⟩
theorem TabF.perm {n : Nat} {ks ls : List Pr} {t : List Int} (h : TabF n ks t) (p : ks.Perm ls) : TabF n ls t := StepT.perm h p
theorem nb_cons (q : Pr) (ks : List Pr) (i : Int) : nb (q :: ks) i = nb [q] i ++ nb ks i := nb_app [q] ks i
theorem nb_ren {n : Nat} {ns : List Int} (h : IsNames n ns) {v : Int} (hv : 0 ≤ v ∧ v < (n : Int)) : ∀ {ks : List Pr}, Okl n ks → nb (renL ns ks) (tv ns v) = (nb ks v).map (tv ns)
  | [], _ => rfl
  | q :: ks, ok => by
    have ih := nb_ren h hv (ks := ks) fun x hx => ok x (List.mem_cons_of_mem _ hx)
    have hq := ok q List.mem_cons_self
    have e : renL ns (q :: ks) = mmP (tv ns q.1) (tv ns q.2) :: renL ns ks := rfl
    have i1 : tv ns q.1 = tv ns v → q.1 = v := fun z => h.inj ⟨hq.1, by omega⟩ hv z
    have i2 : tv ns q.2 = tv ns v → q.2 = v := fun z => h.inj ⟨by omega, hq.2.2⟩ hv z
    have ne : tv ns q.1 ≠ tv ns q.2 := fun z => by
      have := h.inj ⟨hq.1, by omega⟩ ⟨by omega, hq.2.2⟩ z
      omega
    rw [e, nb_cons, nb_cons q, List.map_append, ih, nb_one, nb_one]
    congr 1
    unfold mmP
    simp only
    by_cases c1 : q.1 = v
    · subst c1
      rw [if_pos rfl]
      by_cases c : tv ns q.1 ≤ tv ns q.2
      · rw [if_pos (by omega)]
        have : max (tv ns q.1) (tv ns q.2) = tv ns q.2 := by omega
        rw [this] <;> rfl
      · rw [if_neg (by omega), if_pos (by omega)]
        have : min (tv ns q.1) (tv ns q.2) = tv ns q.2 := by omega
        rw [this] <;> rfl
    · rw [if_neg c1]
      have n1 : tv ns q.1 ≠ tv ns v := fun z => c1 (i1 z)
      by_cases c2 : q.2 = v
      · subst c2
        rw [if_pos rfl]
        by_cases c : tv ns q.1 ≤ tv ns q.2
        · rw [if_neg (by omega), if_pos (by omega)]
          have : min (tv ns q.1) (tv ns q.2) = tv ns q.1 := by omega
          rw [this] <;> rfl
        · rw [if_pos (by omega)]
          have : max (tv ns q.1) (tv ns q.2) = tv ns q.1 := by omega
          rw [this] <;> rfl
      · rw [if_neg c2]
        have n2 : tv ns q.2 ≠ tv ns v := fun z => c2 (i2 z)
        rw [if_neg (by omega), if_neg (by omega)] <;> rfl
/-- numbers there and back -/
structure Back (n : Nat) (ns bs : List Int) : Prop where
  a : IsNames n ns
  b : IsNames n bs
  ab : ∀ v : Int, 0 ≤ v ∧ v < (n : Int) → tv bs (tv ns v) = v
  ba : ∀ v : Int, 0 ≤ v ∧ v < (n : Int) → tv ns (tv bs v) = v
theorem back_ren {n : Nat} {ns bs : List Int} (h : Back n ns bs) : ∀ {ks : List Pr}, Okl n ks → renL bs (renL ns ks) = ks
  | [], _ => rfl
  | q :: ks, ok => by
    have ih := back_ren h (ks := ks) fun x hx => ok x (List.mem_cons_of_mem _ hx)
    have hq := ok q List.mem_cons_self
    show mmP (tv bs (mmP (tv ns q.1) (tv ns q.2)).1) (tv bs (mmP (tv ns q.1) (tv ns q.2)).2) :: renL bs (renL ns ks) = q :: ks
    rw [ih]
    have e1 := h.ab q.1 ⟨hq.1, by omega⟩
    have e2 := h.ab q.2 ⟨by omega, hq.2.2⟩
    have z : mmP (tv bs (mmP (tv ns q.1) (tv ns q.2)).1) (tv bs (mmP (tv ns q.1) (tv ns q.2)).2) = q := by
      unfold mmP
      simp only
      rcases Int.le_total (tv ns q.1) (tv ns q.2) with c | c
      · rw [Int.min_eq_left c, Int.max_eq_right c, e1, e2]
        exact Prod.ext (by show min q.1 q.2 = q.1; omega) (by show max q.1 q.2 = q.2; omega)
      · rw [Int.min_eq_right c, Int.max_eq_left c, e1, e2]
        exact Prod.ext (by show min q.2 q.1 = q.1; omega) (by show max q.2 q.1 = q.2; omega)
    rw [z]
theorem ren_perm {ns : List Int} {ks ls : List Pr} (p : ks.Perm ls) : (renL ns ks).Perm (renL ns ls) := p.map _
theorem back_net {n : Nat} {ns bs : List Int} (h : Back n ns bs) {ks : List Pr} (ok : Okl n ks) (u : Up ks) : sortP (renL bs (sortP (renL ns ks))) = ks := by
  rw [sortP_congr (ren_perm (sortP_perm (renL ns ks))), back_ren h ok]
  exact sortP_id u
theorem ren_tab {n : Nat} {ns bs : List Int} (h : Back n ns bs) {ls : List Pr} {t t' : List Int} (ok : Okl n ls) (ht : TabF n ls t) (ht' : TabF n (renL ns ls) t') {v : Int} (hv : 0 ≤ v ∧ v < (n : Int)) : tv t' (tv ns v) = tv t v := by
  have ok' := ren_ok h.a ok
  have a := tab_le ht'.tab ht.tab (tv ns) (fun v hv => h.a.rng hv.1 hv.2) (fun v _ u hu => by have := nb_rng ok hu; omega) (fun v hv => ⟨_, List.Perm.refl _, by rw [nb_ren h.a hv ok]; exact List.Sublist.refl _⟩) v hv
  have b := tab_le ht.tab ht'.tab (tv bs) (fun v hv => h.b.rng hv.1 hv.2) (fun v _ u hu => by have := nb_rng ok' hu; omega) (fun u hu => ⟨_, List.Perm.refl _, by
    have hb := h.b.rng hu.1 hu.2
    have e := nb_ren h.a hb ok
    rw [h.ba u hu] at e
    rw [e, List.map_map]
    have z : (nb ls (tv bs u)).map (tv bs ∘ tv ns) = nb ls (tv bs u) := by
      conv => rhs; rw [← List.map_id (nb ls (tv bs u))]
      refine List.map_congr_left fun x hx => ?_
      have := nb_rng ok hx
      exact h.ab x ⟨by omega, by omega⟩
    rw [z]
    exact List.Sublist.refl _⟩) (tv ns v) (h.a.rng hv.1 hv.2)
  rw [h.ab v hv] at b
  omega
def uns (s x : Int) : Int := if x < s then x else x + 1
theorem uns_shf {s x : Int} (h : x ≠ s) : uns s (shf s x) = x := by
  unfold uns shf
  split <;> split <;> omega
theorem shf_uns (s x : Int) : shf s (uns s x) = x := by
  unfold uns shf
  split <;> split <;> omega
theorem nb_wo {s v : Int} : ∀ ks : List Pr, ((nb (woL s ks) v).map (uns s)).Sublist (nb ks (uns s v))
  | [] => List.Sublist.refl _
  | q :: ks => by
    have ih := nb_wo (s := s) (v := v) ks
    rw [nb_cons q]
    by_cases c : s = q.1 ∨ s = q.2
    · have e : woL s (q :: ks) = woL s ks := by
        unfold woL woF
        rw [List.filter_cons, if_neg (by rw [decide_eq_true c]; exact Bool.false_ne_true)]
      rw [e]
      exact ih.trans (List.sublist_append_right _ _)
    · have e : woL s (q :: ks) = (shf s q.1, shf s q.2) :: woL s ks := by
        unfold woL woF
        rw [List.filter_cons, if_pos (by rw [decide_eq_false c]; rfl)] <;> rfl
      have n1 : q.1 ≠ s := fun z => c (.inl z.symm)
      have n2 : q.2 ≠ s := fun z => c (.inr z.symm)
      have f1 : shf s q.1 = v ↔ q.1 = uns s v := ⟨fun z => by rw [← z, uns_shf n1], fun z => by rw [z, shf_uns]⟩
      have f2 : shf s q.2 = v ↔ q.2 = uns s v := ⟨fun z => by rw [← z, uns_shf n2], fun z => by rw [z, shf_uns]⟩
      rw [e, nb_cons, List.map_append, nb_one, nb_one]
      refine List.Sublist.append ?_ ih
      simp only
      by_cases c1 : q.1 = uns s v
      · rw [if_pos (f1.mpr c1), if_pos c1, List.map_cons, uns_shf n2] <;> exact List.Sublist.refl _
      · rw [if_neg (fun z => c1 (f1.mp z)), if_neg c1]
        by_cases c2 : q.2 = uns s v
        · rw [if_pos (f2.mpr c2), if_pos c2, List.map_cons, uns_shf n1] <;> exact List.Sublist.refl _
        · rw [if_neg (fun z => c2 (f2.mp z)), if_neg c2] <;> exact List.Sublist.refl _
theorem wo_perm {s : Int} {ks ls : List Pr} (p : ks.Perm ls) : (woL s ks).Perm (woL s ls) := (p.filter _).map _
theorem wo_tab {n : Nat} {s : Int} (hs : 0 ≤ s ∧ s < (n : Int)) {ls : List Pr} {t t' : List Int} (ok : Okl n ls) (ht : TabF n ls t) (ht' : TabF (n - 1) (woL s ls) t') {v : Int} (hv : 0 ≤ v ∧ v < ((n - 1 : Nat) : Int)) : tv t' v ≤ tv t (uns s v) := by
  have ok' := wo_ok hs ok
  exact tab_le ht.tab ht'.tab (uns s) (fun v hv => by unfold uns; split <;> omega) (fun v _ u hu => by have := nb_rng ok' hu; omega) (fun v _ => ⟨_, List.Perm.refl _, nb_wo ls⟩) v hv
end NX

namespace NX
open PySem PySem.Spec PyProof.Rows L2
open Evl (Ex ex_l ex_t fresh_back)
open LamX (CodeO TabB)
abbrev s__law_names_right : Stmt := top 30
theorem sc__law_names_right : FnScope ["_law_well_here", "_law_web", "_law_size", "_law_order", "_law_at", "_law_odd", "_law_bad", "_law_shown", "_law_some"] ["_law_well_here", "_law_web", "_law_size"] (defScope s__law_names_right) := ⟨rfl, rfl, rfl, by decide +kernel, rfl, by decide +kernel, by decide +kernel⟩
/-- the name of this maker's lambdas -/
def qN (c : Addr) : Str := (envOfC "_law_names_right" (defScope s__law_names_right) 0 0 (.ref c)).qual ++ "<lambda>"
section
variable {P : Program} {w : World} {K : PySem.W.Frag} {mg : Str → Option Value} {base : Heap} {C CM C0 c Pt : Addr} {Cs : Nat → Addr} {TS : List (Addr × Str)}
theorem ok_nmR {f : Addr} {fd : FuncData} (F : FunC K "_law_names_right" "_law_names_right" s__law_names_right f fd c) (T : Txt mg) (NC : NetC K C) (TB : TabB base mg c Pt) (hmT : (Pt, qN c) ∈ TS) (hnT : (TS.map Prod.fst).Nodup) (KM : Kind8 K C0 Cs CM 5)
    (L__law_outcome : LamDefG P w K mg base "_law_outcome" "_law_ask" (OutT K C0 Cs)) (c__law_take : Cal P w K mg base 1 "_law_take" ["_law_well_here", "_law_bound"] [] spTake) (c__law_mixed : Cal P w K mg base 2 "_law_mixed" ["_law_well_here", "_law_some"] [] (spMixed K))
    (c_renamedx : Cal P w K mg base 5 "renamed" ["network", "names"] [] (spRenX C CM)) :
    FnOkG P w K mg base 12 f fd ["_law_well_here", "_law_web", "_law_size"] (spPart C TS) := by
  have huT := tab_u hnT hmT
  refine okGC F sc__law_names_right (fun vs H Q E h => ?_) (fun A outer s H vs Q E hG0 hr h => ?_)
  · obtain ⟨W, a, x, y, z, n, ks, G, ft, rfl, _⟩ := h
    rfl
  · obtain ⟨W, a, x, y, z, n, ks, G, ft, rfl, S0, tg, N, hn, k⟩ := h
    have hu65 : ∀ X : Cx, X.A.units = (A.deeper (envOfC "_law_names_right" (defScope s__law_names_right) s.heap.objs.size f (.ref c))).units → X.A.units + 65 < cLine := fun X e => by rw [e]; have := hr.un; omega
    have hG : (A.deeper (envOfC "_law_names_right" (defScope s__law_names_right) s.heap.objs.size f (.ref c))).guards = some [] := hG0
    refine ⟨_, (pss_cons (ps_set (i := 3) sc__law_names_right.nd rfl (Or.inl rfl) (pe_cal c__law_mixed (hr.mono (by first | decide | omega)) passN (pa_cons (pv 0) (pa_cons (pe_listRg rfl (by rfl) T.n_list (prg_1 (by rfl) T.n_range (pv 2))) pa_nil))))
      (pss_cons (ps_set (i := 4) sc__law_names_right.nd rfl (Or.inl rfl) (pe_cal c__law_take (hr.mono (by first | decide | omega)) passN (pa_cons (pv 0) (pa_cons (pv 2) pa_nil))))
      (pss_cons (ps_set (i := 5) sc__law_names_right.nd rfl (Or.inl rfl) (pe_op op_catL (pe_lst (pa_cons (pv 2) (pa_cons (pe_un un_neg pe_int) (pa_cons pe_non (pa_cons pe_bl (pa_cons pe_str (pa_cons (pe_lst (pa_cons pe_int pa_nil)) (pa_cons (pe_op op_pow pe_int pe_int) pa_nil)))))))) (pe_slice sl_list (pv 3) po_none (po_some (pv 4)))))
      (pss_cons (ps_set (i := 6) sc__law_names_right.nd rfl (Or.inr rfl) (pe_op op_catL (pe_op op_catL (pe_slice sl_list (pv 3) po_none (po_some (pv 4))) (pe_lst (pa_cons (pe_ix ix_list (pv 5) (pe_cal c__law_take (hr.mono (by first | decide | omega)) passN (pa_cons (pv 0) (pa_cons (pe_callB call_lenN (by rfl) T.n_len (by decide +kernel) (pa_cons (pv 5) pa_nil)) pa_nil))) (fun _ _ => rfl)) pa_nil))) (pe_slice sl_list (pv 3) (po_some (pe_op op_add (pv 4) pe_int)) po_none)))
      (pss_cons (ps_set (i := 7) sc__law_names_right.nd rfl (Or.inl rfl) (pe_callB (cr_reprV (K := K) hG (hu65 _ rfl)) (by rfl) T.n_repr (by decide +kernel) (pa_cons (pv 6) pa_nil)))
      (pss_cons (ps_if (PW.pt (pw_or (pt_cmpR (op_neD (Nat.lt_of_succ_lt (hu65 _ rfl))) (pe_lamG (k := 8) L__law_outcome hG TB hmT huT (hr.mono (by first | decide | omega)) (fun A outer s H E f c' hr => (pe_cal c_renamedx (hr.mono (by first | decide | omega)) (passE (takes_of rfl rfl rfl rfl) fun _ _ _ _ z => z) (pa_cons (pv 1) (pa_cons (pv 6) pa_nil)))) (LamX.lamS_by (sc := defScope s__law_names_right) (by decide +kernel))) (pe_tup (pa_cons pe_str (pa_cons (pv 4) pa_nil))) (nomark _)) (pw_or1 (pt_cmpR op_ne (pe_callB (cr_reprV (K := K) hG (hu65 _ rfl)) (by rfl) T.n_repr (by decide +kernel) (pa_cons (pv 6) pa_nil)) (pv 7) (nomark _))))) (pss_one (ps_ret pe_bl)) pss_nil)
      (pss_cons (ps_set (i := 8) sc__law_names_right.nd rfl (Or.inr rfl) (pe_ix ix_list (pe_lst (pa_cons pe_non (pa_cons (pe_callTy call_tupN (by rfl) T.n_tuple (by decide +kernel) (pa_cons (pv 3) pa_nil)) (pa_cons (pe_op op_catL (pv 3) (pe_lst (pa_cons (pv 2) pa_nil))) (pa_cons (pe_slice sl_list (pv 3) (po_some pe_int) po_none) (pa_cons pe_dnewT (pa_cons pe_str (pa_cons pe_int pa_nil)))))))) (pe_cal c__law_take (hr.mono (by first | decide | omega)) passN (pa_cons (pv 0) (pa_cons pe_int pa_nil))) (fun _ _ => rfl)))
      (pss_one (ps_ret (pe_cmpR (op_eqD (Nat.lt_of_succ_lt (hu65 _ rfl))) (pe_lamG (k := 8) L__law_outcome hG TB hmT huT (hr.mono (by first | decide | omega)) (fun A outer s H E f c' hr => (pe_cal c_renamedx (hr.mono (by first | decide | omega)) (passE (takes_of rfl rfl rfl rfl) fun _ _ _ _ z => z) (pa_cons (pv 1) (pa_cons (pv 8) pa_nil)))) (LamX.lamS_by (sc := defScope s__law_names_right) (by decide +kernel))) (pe_tup (pa_cons pe_str (pa_cons (pe_un un_neg pe_int) pa_nil))) (nomark _))))))))))), ?_⟩
    have hn1 := N.sz.1
    walk_at "go"
    refine n_rgG S0 (by omega) fun rp G1 H1 _ e1 _ hrp S1 => ?_
    rw [rgV_eq] at hrp
    walk_at "go"
    refine n_mixed S1 (SqL.of hrp) (data_ints K _ _) (by rw [List.length_map]; unfold rgI; rw [List.length_map, List.length_range]; omega) fun nys nq H2 a2 b2 c2 hnp _ S2 => ?_
    obtain ⟨ns, rfl, hperm⟩ := ints_perm hnp
    have hns := names_of (n := n) hperm rfl
    obtain ⟨S3, e3, hnq⟩ := S2.swap.freeze
    generalize upd G1 nq (.lst (ns.map V.int)) = G3 at S3 e3 hnq
    walk_at "go"
    refine n_take (n := (n : Int)) S3 ⟨by omega, by omega⟩ fun r4 a4 b4 d4 H4 g4 l4 S4 => ?_
    obtain ⟨j, rfl⟩ : ∃ j : Nat, r4 = (j : Int) := ⟨r4.toNat, by omega⟩
    have hj : j < n := by omega
    walk_at "go"
    refine n_lstG S4 (by show 1 ≤ 10000000; decide) fun pl G5 H5 _ e5 _ hpl S5 => ?_
    walk_at "go"
    refine g_I ⟨by decide, by decide, by decide⟩ ?_
    walk_at "go"
    refine n_lstG S5 (by show 7 ≤ 10000000; decide) fun p6 G6 H6 _ e6 _ hp6 S6 => ?_
    walk_at "go"
    refine n_sl S6 (SqL.of (S6.ex _ _ (e6 _ _ (e5 _ _ hnq)))) fun p7 G7 H7 _ e7 _ hp7 S7 => ?_
    rw [cutV_to, ← List.map_take] at hp7
    have htl : (ns.take j).length = j := by rw [List.length_take, hns.1]; omega
    refine n_catG S7 (SqL.of (S7.ex _ _ (e7 _ _ hp6))) (SqL.of (S7.ex _ _ hp7)) (by show 7 + ((ns.take j).map V.int).length ≤ 10000000; rw [List.length_map, htl]; omega) fun p8 G8 H8 _ e8 _ hp8 S8 => ?_
    walk_at "go"
    have nq8 : G8 nq = some (.lst (ns.map V.int)) := e8 _ _ (e7 _ _ (e6 _ _ (e5 _ _ hnq)))
    refine n_sl S8 (SqL.of (S8.ex _ _ nq8)) fun p9 G9 H9 _ e9 _ hp9 S9 => ?_
    rw [cutV_to, ← List.map_take] at hp9
    walk_at "go"
    refine n_len (SqL.of (S9.ex _ _ (e9 _ _ hp8))) ?_
    have hol : ([V.int (n : Int), V.int (-1), V.non, V.bl true, V.str (Str.ofString "0"), V.ref pl, V.int (10 ^ (20 : Int).toNat)] ++ (ns.take j).map V.int).length = 7 + j := by
      rw [List.length_append, List.length_map, htl] <;> rfl
    rw [hol]
    walk_at "go"
    refine n_take (n := ((7 + j : Nat) : Int)) S9 ⟨by omega, by omega⟩ fun r10 a10 b10 d10 H10 g10 l10 S10 => ?_
    have e59 : Ex G5 G9 := e6.trans (e7.trans (e8.trans e9))
    obtain ⟨xb, hxb, hbad⟩ := badNm_at (K := K) (G := noT G9) (n := n) (ns := ns.take j) (by omega) (noT_of (e59 _ _ hpl) fun ps z => by cases z) (fun i hi => hns.2.2 i (List.mem_of_mem_take hi)) g10 (by rw [htl]; omega)
    walk_at "go"
    refine g_ixL (SqL.of (S10.ex _ _ (e9 _ _ hp8))) hxb ?_
    walk_at "go"
    refine n_lstG S10 (by show 1 ≤ 10000000; decide) fun p11 G11 H11 _ e11 _ hp11 S11 => ?_
    refine n_catG S11 (SqL.of (S11.ex _ _ (e11 _ _ hp9))) (SqL.of (S11.ex _ _ hp11)) (by show ((ns.take j).map V.int).length + 1 ≤ 10000000; rw [List.length_map, htl]; omega) fun p12 G12 H12 _ e12 _ hp12 S12 => ?_
    walk_at "go"
    have nq12 : G12 nq = some (.lst (ns.map V.int)) := e12 _ _ (e11 _ _ (e9 _ _ nq8))
    rw [show ((j : Int) + 1) = ((j + 1 : Nat) : Int) by omega]
    refine n_sl S12 (SqL.of (S12.ex _ _ nq12)) fun p13 G13 H13 _ e13 _ hp13 S13 => ?_
    rw [cutV_from, ← List.map_drop] at hp13
    refine n_catG S13 (SqL.of (S13.ex _ _ (e13 _ _ hp12))) (SqL.of (S13.ex _ _ hp13)) (by simp only [List.length_append, List.length_map, List.length_take, List.length_drop, List.length_singleton, hns.1]; omega) fun p14 G14 H14 _ e14 _ hp14 S14 => ?_
    walk_at "go"
    have e914 := e11.trans (e12.trans (e13.trans e14))
    have eG14 : Ex G G14 := e1.trans (e3.trans (e5.trans (e59.trans e914)))
    obtain ⟨ty, dx, ho, hi, hdx, sd⟩ := hbad.mono (NX.Ex.noT e914)
    obtain ⟨tx, sh⟩ := sh_bad (K := K) (G := noT G14) (by omega) hns.1 hns.2.2 (noT_of hp14 fun ps z => by cases z) hdx sd
    have shA : ∀ H', Ex (noT G14) H' → ShV K H' (.ref p14) tx := fun H' e => sh.mono e fun d => dp_mono e d _
    refine n_reprV (shA _ ((ex_noT _).trans S14.ex)) ?_
    walk_at "go"
    have tg14 : TabsG G14 TS ft := tg.mono eG14
    have wok : PyData.strOk (Str.ofString "names") = true := by decide +kernel
    refine n_lamN (L := [(W, wl a10 b10 d10)]) S14 tg14 lst1 fun G15 H15 f15 e15 S15 tg15 => ?_
    intro E1 Q1 hE1 _
    walk_at "go"
    have x15 : Ex (noT G14) H15 := e15.trans S15.ex
    have hxl : ((ns.take j).map V.int ++ [xb] ++ (ns.drop (j + 1)).map V.int).length = n := by
      simp only [List.length_append, List.length_map, List.length_take, List.length_drop, List.length_singleton, hns.1]
      omega
    refine ⟨a, n, ks, .ref p14, rfl, N.mono ((NX.Ex.noT eG14).trans x15), .inr ⟨p14, _, ns.take j, xb, ty, rfl, x15 _ _ (noT_of hp14 fun ps z => by cases z), hxl, ?_, ?_, fun i hi => hns.2.2 i (List.mem_of_mem_take hi), hns.2.1.sublist (List.take_sublist _ _), ho.mono x15, hi,
      fun d H16 e16 hd => hE1 _ _ _ (out_ix KM (.inr (.inl rfl)) hd (n_retG (S15.grow e16) fun p17 G17 H17 _ e17 _ hp17 S17 => ?_))⟩⟩
    · rw [htl, List.append_assoc, List.take_append_of_le_length (by rw [List.length_map, htl]; exact Nat.le_refl _), List.take_of_length_le (by rw [List.length_map, htl]; exact Nat.le_refl _)]
    · rw [htl, List.append_assoc, List.getElem?_append_right (by rw [List.length_map, htl]; exact Nat.le_refl _), List.length_map, htl, Nat.sub_self] <;> rfl
    · rw [htl] at hp17
      walk_at "go"
      refine n_tup S17 (by show 2 ≤ 10000000; decide) fun p18 G18 H18 _ e18 _ hp18 S18 => ?_
      refine n_neSI wok (S18.ex _ _ (e18 _ _ hp17)) (S18.ex _ _ hp18) ?_
      walk_at "go"
      have c18 : Ex (noT G14) G18 := e15.trans (e17.trans e18)
      refine n_reprV (shA _ (c18.trans S18.ex)) ?_
      walk_at "go"
      refine n_neSame ?_
      walk_at "go"
      have nq18 : G18 nq = some (.lst (ns.map V.int)) := c18 _ _ (noT_of (e14 _ _ (e13 _ _ nq12)) fun ps z => by cases z)
      refine n_tupL S18 (SqL.of (S18.ex _ _ nq18)) fun p19 G19 H19 _ e19 _ hp19 S19 => ?_
      walk_at "go"
      refine n_lstG S19 (by show 1 ≤ 10000000; decide) fun p20 G20 H20 _ e20 _ hp20 S20 => ?_
      have nq20 := e20 _ _ (e19 _ _ nq18)
      refine n_catG S20 (SqL.of (S20.ex _ _ nq20)) (SqL.of (S20.ex _ _ hp20)) (by show (ns.map V.int).length + 1 ≤ 10000000; rw [List.length_map, hns.1]; omega) fun p21 G21 H21 _ e21 _ hp21 S21 => ?_
      walk_at "go"
      refine n_sl S21 (SqL.of (S21.ex _ _ (e21 _ _ nq20))) fun p22 G22 H22 _ e22 _ hp22 S22 => ?_
      rw [show (1 : Int) = ((1 : Nat) : Int) from rfl, cutV_from, ← List.map_drop] at hp22
      walk_at "go"
      refine n_dnewG' S22 fun pd G23 H23 e23 hpd S23 => ?_
      walk_at "go"
      refine n_lstG S23 (by show 7 ≤ 10000000; decide) fun p24 G24 H24 _ e24 _ hp24 S24 => ?_
      walk_at "go"
      refine n_take S24 ⟨by decide, by decide⟩ fun r25 a25 b25 d25 H25 g25 l25 S25 => ?_
      obtain ⟨v, hv, bv⟩ : ∃ v, atI [V.non, V.ref p19, V.ref p21, V.ref p22, V.ref pd, V.str (Str.ofString "01"), V.int 0] r25 = some v ∧ BadL (noT G24) n v := by
        have nl : ∀ {b : Addr} {xs : List V}, G24 b = some (.lst xs) → xs.length ≠ n → BadL (noT G24) n (.ref b) := fun {b xs} h hl => ⟨"list", .lst (noT_of h fun ps z => by cases z), fun _ => ⟨b, xs, rfl, noT_of h (fun ps z => by cases z), hl⟩⟩
        have : r25 = 0 ∨ r25 = 1 ∨ r25 = 2 ∨ r25 = 3 ∨ r25 = 4 ∨ r25 = 5 ∨ r25 = 6 := by omega
        rcases this with rfl | rfl | rfl | rfl | rfl | rfl | rfl
        · exact ⟨_, rfl, "NoneType", .non, fun h => absurd h (by decide)⟩
        · exact ⟨_, rfl, "tuple", .tup (noT_of (e24 _ _ (e23 _ _ (e22 _ _ (e21 _ _ (e20 _ _ hp19))))) fun ps z => by cases z), fun h => absurd h (by decide)⟩
        · exact ⟨_, rfl, nl (e24 _ _ (e23 _ _ (e22 _ _ hp21))) (by rw [List.length_append, List.length_map, hns.1]; simp)⟩
        · exact ⟨_, rfl, nl (e24 _ _ (e23 _ _ hp22)) (by rw [List.length_map, List.length_drop, hns.1]; omega)⟩
        · exact ⟨_, rfl, "dict", .dct (noT_of (e24 _ _ hpd) fun ps z => by cases z), fun h => absurd h (by decide)⟩
        · exact ⟨_, rfl, "str", .str _, fun h => absurd h (by decide)⟩
        · exact ⟨_, rfl, "int", .int _, fun h => absurd h (by decide)⟩
      walk_at "go"
      refine g_ixL (SqL.of (S25.ex _ _ hp24)) hv ?_
      walk_at "go"
      have e1824 : Ex G18 G24 := e19.trans (e20.trans (e21.trans (e22.trans (e23.trans e24))))
      have c24 : Ex (noT G14) G24 := c18.trans e1824
      refine n_lamN (L := [(W, wl a25 b25 d25)]) S25 ((((tg15.mono e17).mono e18)).mono e1824) lst1 fun G26 H26 f26 e26 S26 tg26 => ?_
      intro E2 Q2 hE2 _
      walk_at "go"
      have x26 : Ex (noT G24) H26 := e26.trans S26.ex
      have bv26 : BadL H26 n v := by
        obtain ⟨ty, b1, b2⟩ := bv
        refine ⟨ty, b1.mono x26, fun h => ?_⟩
        obtain ⟨t, xs, e, h1, h2⟩ := b2 h
        exact ⟨t, xs, e, x26 _ _ h1, h2⟩
      refine ⟨a, n, ks, v, rfl, N.mono ((NX.Ex.noT eG14).trans ((ex_step c24 e26).trans S26.ex)), .inl ⟨bv26, fun d H27 e27 hd => hE2 _ _ _ (out_ix KM (.inr (.inl rfl)) hd (n_retG (S26.grow e27) fun p28 G28 H28 _ e28 _ hp28 S28 => ?_))⟩⟩
      walk_at "go"
      refine n_tup S28 (by show 2 ≤ 10000000; decide) fun p29 G29 H29 _ e29 _ hp29 S29 => ?_
      refine n_eqSI wok (S29.ex _ _ (e29 _ _ hp28)) (S29.ex _ _ hp29) ?_
      walk_at "go"
      have c29 := (ex_step c24 e26).trans (e28.trans e29)
      exact k H29 G29 f26 _ _ _ ((NX.Ex.noT eG14).trans (ex_nn c29)) S29 ((tg26.mono e28).mono e29)
end
end NX

namespace NX
/-! ### two networks side by side -/
def shP (n : Nat) (q : Pr) : Pr := (q.1 + (n : Int), q.2 + (n : Int))
def shL (n : Nat) (ks : List Pr) : List Pr := ks.map (shP n)
theorem shP_inj {n : Nat} {p q : Pr} (h : shP n p = shP n q) : p = q := by
  have h1 := congrArg Prod.fst h
  have h2 := congrArg Prod.snd h
  simp only [shP] at h1 h2
  exact Prod.ext (by omega) (by omega)
theorem shL_up {n : Nat} {ks : List Pr} (u : Up ks) : Up (shL n ks) := by
  unfold shL Up
  rw [List.pairwise_map]
  refine List.Pairwise.imp (fun {a b} h => ?_) u
  rw [leP_iff] at h ⊢
  show a.1 + (n : Int) < b.1 + n ∨ a.1 + n = b.1 + n ∧ a.2 + n ≤ b.2 + (n : Int)
  omega
theorem shL_sort (n : Nat) (l : List Pr) : sortP (shL n l) = shL n (sortP l) := (sortP_eq (shL_up (sortP_up l)) ((sortP_perm l).map _)).symm
theorem side_up {n m : Nat} {ks ls : List Pr} (ok : Okl n ks) (u : Up ks) (ok2 : Okl m ls) (u2 : Up ls) : Up (ks ++ shL n ls) := by
  refine List.pairwise_append.mpr ⟨u, shL_up u2, fun a ha b hb => ?_⟩
  obtain ⟨q, hq, rfl⟩ := List.mem_map.mp hb
  have h1 := ok a ha
  have h2 := ok2 q hq
  rw [leP_iff]
  show a.1 < q.1 + (n : Int) ∨ _
  omega
theorem side_ok {n m : Nat} {ks ls : List Pr} (ok : Okl n ks) (ok2 : Okl m ls) : Okl (n + m) (ks ++ shL n ls) := fun q hq => by
  rcases List.mem_append.mp hq with h | h
  · have := ok q h; omega
  · obtain ⟨p, hp, rfl⟩ := List.mem_map.mp h
    have := ok2 p hp
    show 0 ≤ p.1 + (n : Int) ∧ p.1 + (n : Int) < p.2 + n ∧ p.2 + (n : Int) < ((n + m : Nat) : Int)
    omega
theorem side_nd {n m : Nat} {ks ls : List Pr} (ok : Okl n ks) (nd : ks.Nodup) (ok2 : Okl m ls) (nd2 : ls.Nodup) : (ks ++ shL n ls).Nodup := by
  refine List.nodup_append.mpr ⟨nd, List.Pairwise.map _ (fun a b h e => h (shP_inj e)) nd2, fun a ha b hb e => ?_⟩
  obtain ⟨q, hq, rfl⟩ := List.mem_map.mp hb
  have h1 := ok a ha
  have h2 := ok2 q hq
  rw [e] at h1
  simp only [shP] at h1
  omega
theorem side_len {n : Nat} {ks ls : List Pr} : (ks ++ shL n ls).length = ks.length + ls.length := by rw [List.length_append, shL, List.length_map]
theorem nb_none {n : Nat} {ks : List Pr} (ok : Okl n ks) {i : Int} (h : (n : Int) ≤ i) : nb ks i = [] := by
  cases e : nb ks i with
  | nil => rfl
  | cons x l =>
    have := nb_rng ok (i := i) (j := x) (by rw [e]; exact List.mem_cons_self)
    omega
theorem nb_shL (n : Nat) (i : Int) : ∀ ls : List Pr, nb (shL n ls) (i + (n : Int)) = (nb ls i).map (· + (n : Int))
  | [] => rfl
  | q :: ls => by
    have e : nb (shL n (q :: ls)) (i + (n : Int)) = nb [shP n q] (i + (n : Int)) ++ nb (shL n ls) (i + (n : Int)) := nb_app [shP n q] (shL n ls) _
    have e2 : nb (q :: ls) i = nb [q] i ++ nb ls i := nb_app [q] ls i
    rw [e, e2, List.map_append, nb_shL n i ls, nb_one, nb_one]
    congr 1
    show (if q.1 + (n : Int) = i + n then [q.2 + (n : Int)] else if q.2 + (n : Int) = i + n then [q.1 + (n : Int)] else []) = _
    by_cases c : q.1 = i
    · rw [if_pos (by omega), if_pos c] <;> rfl
    · rw [if_neg (by omega), if_neg c]
      by_cases d : q.2 = i
      · rw [if_pos (by omega), if_pos d] <;> rfl
      · rw [if_neg (by omega), if_neg d] <;> rfl
theorem nb_shL_low {n m : Nat} {ls : List Pr} (ok2 : Okl m ls) {i : Int} (h : i < (n : Int)) : nb (shL n ls) i = [] := by
  have e := nb_shL n (i - n) ls
  rw [show i - (n : Int) + n = i by omega] at e
  rw [e]
  cases c : nb ls (i - n) with
  | nil => rfl
  | cons x l =>
    have := nb_rng ok2 (i := i - n) (j := x) (by rw [c]; exact List.mem_cons_self)
    omega
theorem nb_side1 {n m : Nat} {ks ls : List Pr} (ok2 : Okl m ls) {i : Int} (h : i < (n : Int)) : nb (ks ++ shL n ls) i = nb ks i := by
  rw [nb_app, nb_shL_low ok2 h, List.append_nil]
theorem nb_side2 {n : Nat} {ks ls : List Pr} (ok : Okl n ks) {i : Int} (h : 0 ≤ i) : nb (ks ++ shL n ls) (i + (n : Int)) = (nb ls i).map (· + (n : Int)) := by
  rw [nb_app, nb_none ok (by omega), List.nil_append, nb_shL]
theorem tv_left {s t : List Int} {i : Int} (h0 : 0 ≤ i) (h : i < (s.length : Int)) : tv (s ++ t) i = tv s i := by
  obtain ⟨k, rfl⟩ : ∃ k : Nat, i = (k : Int) := ⟨i.toNat, by omega⟩
  rw [tv_nat, tv_nat, List.getD_eq_getElem?_getD, List.getD_eq_getElem?_getD, List.getElem?_append_left (by omega)]
theorem tv_right {s t : List Int} {i : Int} (h0 : 0 ≤ i) : tv (s ++ t) (i + (s.length : Int)) = tv t i := by
  obtain ⟨k, rfl⟩ : ∃ k : Nat, i = (k : Int) := ⟨i.toNat, by omega⟩
  rw [show (k : Int) + (s.length : Int) = ((k + s.length : Nat) : Int) by omega, tv_nat, tv_nat, List.getD_eq_getElem?_getD, List.getD_eq_getElem?_getD, List.getElem?_append_right (by omega), Nat.add_sub_cancel]
theorem map_left {n m : Nat} {ks ls : List Pr} {s t : List Int} (ok : Okl n ks) (ok2 : Okl m ls) (hs : s.length = n) {i : Int} (h : i < (n : Int)) : (nb (ks ++ shL n ls) i).map (tv (s ++ t)) = (nb ks i).map (tv s) := by
  rw [nb_side1 ok2 h]
  refine List.map_congr_left fun o ho => ?_
  have := nb_rng ok ho
  exact tv_left (by omega) (by omega)
theorem map_right {n m : Nat} {ks ls : List Pr} {s t : List Int} (ok : Okl n ks) (ok2 : Okl m ls) (hs : s.length = n) {i : Int} (h : 0 ≤ i) : (nb (ks ++ shL n ls) (i + (n : Int))).map (tv (s ++ t)) = (nb ls i).map (tv t) := by
  rw [nb_side2 ok h, List.map_map]
  refine List.map_congr_left fun o ho => ?_
  have := nb_rng ok2 ho
  show tv (s ++ t) (o + (n : Int)) = tv t o
  rw [← hs]
  exact tv_right (by omega)
theorem side_tab {n m : Nat} {ks ls : List Pr} {s t : List Int} (ok : Okl n ks) (ok2 : Okl m ls) (h : TabF n ks s) (g : TabF m ls t) : TabF (n + m) (ks ++ shL n ls) (s ++ t) := by
  refine ⟨by rw [List.length_append, h.1, g.1], fun i hi => ?_⟩
  by_cases c : i < n
  · rw [map_left ok ok2 h.1 (by omega), tv_left (by omega) (by have := h.1; omega)]
    exact h.2 i c
  · have e : (i : Int) = ((i - n : Nat) : Int) + (n : Int) := by omega
    rw [e, map_right ok ok2 h.1 (by omega)]
    have e2 := tv_right (s := s) (t := t) (i := ((i - n : Nat) : Int)) (by omega)
    rw [h.1] at e2
    rw [e2]
    exact g.2 (i - n) (by omega)
theorem sw_left {n m : Nat} {ks ls : List Pr} {s t : List Int} {i : Nat} (ok : Okl n ks) (ok2 : Okl m ls) (hs : s.length = n) (h : i < n) : sw (nb (ks ++ shL n ls)) (s ++ t) i = sw (nb ks) s i ++ t := by
  have ec : chn (nb (ks ++ shL n ls)) (s ++ t) i = chn (nb ks) s i := by
    unfold chn
    rw [map_left ok ok2 hs (by omega), tv_left (by omega) (by omega)]
  unfold sw
  rw [ec, List.take_append_of_le_length (by omega), List.drop_append_of_le_length (by omega)]
  simp only [List.append_assoc]
theorem sw_right {n m : Nat} {ks ls : List Pr} {s t : List Int} {i : Nat} (ok : Okl n ks) (ok2 : Okl m ls) (hs : s.length = n) : sw (nb (ks ++ shL n ls)) (s ++ t) (n + i) = s ++ sw (nb ls) t i := by
  have ec : chn (nb (ks ++ shL n ls)) (s ++ t) (n + i) = chn (nb ls) t i := by
    unfold chn
    rw [show ((n + i : Nat) : Int) = (i : Int) + (n : Int) by omega, map_right ok ok2 hs (by omega)]
    have e2 := tv_right (s := s) (t := t) (i := (i : Int)) (by omega)
    rw [hs] at e2
    rw [e2]
  unfold sw
  rw [ec, ← hs, List.take_length_add_append, show s.length + i + 1 = s.length + (i + 1) by omega, List.drop_length_add_append]
  simp only [List.append_assoc]
theorem rch_side {n m : Nat} {ks ls : List Pr} (ok : Okl n ks) (ok2 : Okl m ls) (st : List Int) : Rch (nb (ks ++ shL n ls)) (n + m) st ↔ ∃ s t, st = s ++ t ∧ Rch (nb ks) n s ∧ Rch (nb ls) m t := by
  constructor
  · intro h
    induction h with
    | zero => exact ⟨_, _, List.replicate_append_replicate.symm, .zero, .zero⟩
    | @step st i h hi ih =>
      obtain ⟨s, t, rfl, hs, ht⟩ := ih
      by_cases c : i < n
      · exact ⟨sw (nb ks) s i, t, sw_left ok ok2 hs.len c, hs.step c, ht⟩
      · refine ⟨s, sw (nb ls) t (i - n), ?_, hs, ht.step (by omega)⟩
        have e := sw_right (t := t) (i := i - n) ok ok2 hs.len
        rw [show n + (i - n) = i by omega] at e
        exact e
  · rintro ⟨s, t, rfl, hs, ht⟩
    have h1 : Rch (nb (ks ++ shL n ls)) (n + m) (s ++ List.replicate m 0) := by
      induction hs with
      | zero => rw [List.replicate_append_replicate]; exact .zero
      | @step s i h hi ih =>
        rw [← sw_left ok ok2 h.len hi]
        exact ih.step (by omega)
    induction ht with
    | zero => exact h1
    | @step t i h hi ih =>
      rw [← sw_right ok ok2 hs.len]
      exact ih.step (by omega)
/-- all pairs of states -/
def pairL (A B : List (List Int)) : List (List Int) := A.flatMap fun s => B.map fun t => s ++ t
theorem pair_nd {n : Nat} {A B : List (List Int)} (hA : A.Nodup) (hB : B.Nodup) (hl : ∀ s ∈ A, s.length = n) : (pairL A B).Nodup := by
  unfold pairL
  induction A with
  | nil => exact List.nodup_nil
  | cons a A ih =>
    rw [List.flatMap_cons]
    obtain ⟨n1, n2⟩ := List.nodup_cons.mp hA
    refine List.nodup_append.mpr ⟨List.Pairwise.map _ (fun x y h e => h (List.append_cancel_left e)) hB, ih n2 fun s hs => hl s (List.mem_cons_of_mem _ hs), fun x hx y hy e => ?_⟩
    obtain ⟨t, _, rfl⟩ := List.mem_map.mp hx
    obtain ⟨s, hs, hy⟩ := List.mem_flatMap.mp hy
    obtain ⟨u, _, rfl⟩ := List.mem_map.mp hy
    have e1 := (List.append_inj e (by rw [hl a List.mem_cons_self, hl s (List.mem_cons_of_mem _ hs)])).1
    exact n1 (e1 ▸ hs)
theorem pair_mem {A B : List (List Int)} {st : List Int} : st ∈ pairL A B ↔ ∃ s t, st = s ++ t ∧ s ∈ A ∧ t ∈ B := by
  unfold pairL
  rw [List.mem_flatMap]
  constructor
  · rintro ⟨s, hs, h⟩
    obtain ⟨t, ht, rfl⟩ := List.mem_map.mp h
    exact ⟨s, t, rfl, hs, ht⟩
  · rintro ⟨s, t, rfl, hs, ht⟩
    exact ⟨s, hs, List.mem_map.mpr ⟨t, ht, rfl⟩⟩
theorem pair_len (A B : List (List Int)) : (pairL A B).length = A.length * B.length := by
  unfold pairL
  exact flat_len (fun s => List.length_map ..) A
/-- the states of two networks side by side are all pairs -/
theorem side_bfs {n m : Nat} {ks ls : List Pr} {A B : List Ent} (ok : Okl n ks) (ok2 : Okl m ls) (hA : Bfs (nb ks) n A) (hB : Bfs (nb ls) m B) :
    ∃ E, Bfs (nb (ks ++ shL n ls)) (n + m) E ∧ (E.map Ent.st).Perm (pairL (A.map Ent.st) (B.map Ent.st)) := by
  have hmem : ∀ st, st ∈ pairL (A.map Ent.st) (B.map Ent.st) ↔ Rch (nb (ks ++ shL n ls)) (n + m) st := fun st => by
    rw [rch_side ok ok2, pair_mem]
    constructor
    · rintro ⟨s, t, e, a, b⟩; exact ⟨s, t, e, (hA.all s).mp a, (hB.all t).mp b⟩
    · rintro ⟨s, t, e, a, b⟩; exact ⟨s, t, e, (hA.all s).mpr a, (hB.all t).mpr b⟩
  obtain ⟨E, hE, _⟩ := bfs_ex (nbr := nb (ks ++ shL n ls)) (n := n + m) (B := (pairL (A.map Ent.st) (B.map Ent.st)).length) fun L nd hL => len_le_of_sub nd fun s hs => (hmem s).mpr (hL s hs)
  refine ⟨E, hE, (List.perm_ext_iff_of_nodup hE.okk.nd (pair_nd hA.okk.nd hB.okk.nd fun s hs => ((hA.all s).mp hs).len)).mpr fun s => ?_⟩
  rw [hE.all, hmem]
/-- a network of at most 3 stations has few states -/
theorem few_states {n : Nat} {ks : List Pr} {B : Nat} (ok : Okl n ks) (u : Up ks) (nd : ks.Nodup) (hb : prodL (List.replicate n (n + 1)) ≤ B) : ∃ E, Bfs (nb ks) n E ∧ E.length ≤ B := by
  refine bfs_ex fun L ndL hL => Nat.le_trans (rch_count (cs := List.replicate n (n + 1)) List.length_replicate (fun j hj => ?_) L ndL hL) hb
  rw [List.getD_eq_getElem?_getD, List.getElem?_replicate, if_pos hj]
  have := I_len ok u nd (j : Int)
  show _ ≤ n + 1
  omega
end NX

namespace NX
open PySem PySem.Spec PyProof.Rows L2
open Evl (Ex ex_l ex_t fresh_back)
abbrev s_Network___len__ : Stmt := inClass (top 15) 2
theorem sc_Network___len__ : FnScope ["self"] ["self"] (defScope s_Network___len__) := ⟨rfl, rfl, rfl, by decide +kernel, rfl, by decide +kernel, by decide +kernel⟩
abbrev s_Network___eq__ : Stmt := inClass (top 15) 3
theorem sc_Network___eq__ : FnScope ["self", "other"] ["self", "other"] (defScope s_Network___eq__) := ⟨rfl, rfl, rfl, by decide +kernel, rfl, by decide +kernel, by decide +kernel⟩
section
variable {P : Program} {w : World} {K : PySem.W.Frag} {mg : Str → Option Value} {base : Heap}
theorem ok_len {f C : Addr} {fd : FuncData} (F : Fun K "__len__" "Network.__len__" s_Network___len__ f fd) (T : Txt mg) (NC : NetC K C) : FnOk P w K mg base CX0 1 f fd ["self"] (spLen C) := by
  refine F.ok sc_Network___len__ (fun vs H Q E h => ?_) (fun cdv A outer s H vs Q E hr h => ?_)
  · obtain ⟨a, n, ks, rfl, _⟩ := h
    rfl
  · obtain ⟨a, n, ks, rfl, N, k⟩ := h
    obtain ⟨dx, kp, np, xs, nps, o⟩ := N.at_
    refine ⟨_, (pss_one (ps_ret (pe_callB call_lenN (by rfl) T.n_len (by decide +kernel) (pa_cons (pe_fld (pv 0) rfl) pa_nil)))), ?_⟩
    walk_at "go"
    refine n_fld o.ins NC.cl NC.nN (nf_near kp np) ?_
    walk_at "go"
    refine n_len (SqL.of o.near) ?_
    rw [List.length_map, o.len]
    exact k
theorem ok_eq {f C : Addr} {fd : FuncData} (F : Fun K "__eq__" "Network.__eq__" s_Network___eq__ f fd) (T : Txt mg) (NC : NetC K C) (hC : mg "Network" = some (.ref C)) (M_len : Mth P w K mg base 1 C "__len__" ["self"] (spLen C)) :
    FnOk P w K mg base CX0 3 f fd ["self", "other"] (spEqN C) := by
  refine F.ok sc_Network___eq__ (fun vs H Q E h => ?_) (fun cdv A outer s H vs Q E hr h => ?_)
  · obtain ⟨a, b, n, m, ks, ls, rfl, _⟩ := h
    rfl
  · obtain ⟨a, b, n, m, ks, ls, rfl, N1, N2, k⟩ := h
    have hu65 : ∀ X : Cx, X.A = A.deeper (envOfC "Network.__eq__" (defScope s_Network___eq__) s.heap.objs.size f cdv) → X.A.units + 65 < cLine := fun X e => by rw [e]; have := hr.un; omega
    obtain ⟨dx, kp, np, xs, nps, o⟩ := N1.at_
    obtain ⟨dx', kp', np', xs', nps', o'⟩ := N2.at_
    refine ⟨_, (pss_one (ps_ret (pe_and (pe_callB call_isi (by rfl) T.n_isinstance (by decide +kernel) (pa_cons (pv 1) (pa_cons (pe_glob (v := .ref C) (by rfl) hC rfl) pa_nil))) (pe_and (pe_cmpR op_eq (pe_callB (call_lenNet NC M_len (hr.mono (by first | decide | omega))) (by rfl) T.n_len (by decide +kernel) (pa_cons (pv 0) pa_nil)) (pe_callB (call_lenNet NC M_len (hr.mono (by first | decide | omega))) (by rfl) T.n_len (by decide +kernel) (pa_cons (pv 1) pa_nil)) (nomark _)) (pe_one (pe_cmpR (op_eqD (Nat.lt_of_succ_lt (hu65 _ rfl))) (pe_fld (pv 0) rfl) (pe_fld (pv 1) rfl) (nomark _))))))), ?_⟩
    walk_at "go"
    refine ⟨_, _, _, _, _, rfl, .own C, .base (.ins o'.ins NC.cl NC.ha NC.hn NC.ht NC.hm), NC.kit, ?_⟩
    walk_at "go"
    refine n_lenNet N1 ?_
    walk_at "go"
    refine n_lenNet N2 ?_
    walk_at "go"
    refine if_2 (fun e => ?_) (fun e => ?_)
    · have e := of_decide_eq_true e
      walk_at "go"
      refine n_fld o.ins NC.cl NC.nK (nf_kept kp np) ?_
      walk_at "go"
      refine n_fld o'.ins NC.cl NC.nK (nf_kept kp' np') ?_
      refine ⟨_, _, .lst (SqL.of o.kept) (dp_lks o.lks), .lst (SqL.of o'.kept) (dp_lks o'.lks), shaped_lks ks, shaped_lks ls, ?_⟩
      rw [eqv_lks]
      have z := k H (Ex.refl H)
      have e2 : decide (n = m ∧ ks = ls) = decide (ks = ls) := by
        have hnm : n = m := by omega
        rw [Bool.eq_iff_iff]
        simp [hnm]
      rw [e2] at z
      exact z
    · have e := of_decide_eq_false e
      have z := k H (Ex.refl H)
      have e2 : decide (n = m ∧ ks = ls) = false := decide_eq_false fun c => e (by rw [c.1])
      rw [e2] at z
      exact z
end
end NX

namespace NX
open PySem PySem.Spec PyProof.Rows L2
open Evl (Ex ex_l ex_t fresh_back)
abbrev s_side_by_side : Stmt := top 20
theorem sc_side_by_side : FnScope ["network", "other", "size", "one", "two"] ["network", "other"] (defScope s_side_by_side) := ⟨rfl, rfl, rfl, by decide +kernel, rfl, by decide +kernel, by decide +kernel⟩
def spSide (C CN : Addr) : Sp := fun vs H Q E => ∃ (a b : Addr) (n m : Nat) (ks ls : List Pr), vs = [.ref a, .ref b] ∧ NetAt C H a n ks ∧ NetAt C H b m ls ∧ (60 < n + m → Thr E CN "index" (.int (-1)) H) ∧ (n + m ≤ 60 → spNet C (n + m) (ks ++ shL n ls) H Q)
theorem n_side {C CN : Addr} {G H : Hp} {L : List (Addr × HO)} {a b : Addr} {n m : Nat} {ks ls : List Pr} {Q : VK} {E : XK} (S : Own G L H) (N : NetAt C G a n ks) (M : NetAt C G b m ls) (h : n + m ≤ 60)
    (k : ∀ x G1 H1, H x = none → Ex G G1 → Ex H H1 → Own G1 L H1 → NetAt C G1 x (n + m) (ks ++ shL n ls) → Q (.ref x) H1) : spSide C CN [.ref a, .ref b] H Q E := by
  refine ⟨a, b, n, m, ks, ls, rfl, N.mono S.ex, M.mono S.ex, fun z => by omega, fun _ => n_spNet S fun x G1 H1 h1 h2 h3 h4 h5 => k x G1 H1 h1 h2 h3 h4 ?_⟩
  rw [sortP_id (side_up N.ok N.up M.ok M.up)] at h5
  exact h5
section
variable {P : Program} {w : World} {K : PySem.W.Frag} {mg : Str → Option Value} {base : Heap} {C CN : Addr}
theorem ok_side {f : Addr} {fd : FuncData} (F : Fun K "side_by_side" "side_by_side" s_side_by_side f fd) (T : Txt mg) (NC : NetC K C) (M_len : Mth P w K mg base 1 C "__len__" ["self"] (spLen C)) (M_links : Mth P w K mg base 1 C "links" ["self"] (spLinks C))
    (c_Network : Cnw P w K mg base 3 "Network" C ["self", "stations", "links"] (spInit C)) (X_NoNetwork : Exn P w K mg base "NoNetwork" CN "index") : FnOk P w K mg base (L2.CX P w) 5 f fd ["network", "other"] (spSide C CN) := by
  refine F.okX sc_side_by_side (fun vs H Q E h => ?_) (fun cdv A outer s H vs Q E hr h => ?_)
  · obtain ⟨a, b, n, m, ks, ls, rfl, _⟩ := h
    rfl
  · obtain ⟨a, b, n, m, ks, ls, rfl, N, M, kE, k⟩ := h
    have hz := N.len
    have hz2 := M.len
    have hs := N.sz
    have hs2 := M.sz
    refine ⟨_, (pss_cons (ps_set (i := 2) sc_side_by_side.nd rfl (Or.inr rfl) (pe_callB (call_lenNet NC M_len (hr.mono (by first | decide | omega))) (by rfl) T.n_len (by decide +kernel) (pa_cons (pv 0) pa_nil)))
      (pss_cons (ps_if (pt_cmpR op_gt (pe_op op_add (pv 2) (pe_callB (call_lenNet NC M_len (hr.mono (by first | decide | omega))) (by rfl) T.n_len (by decide +kernel) (pa_cons (pv 1) pa_nil))) (pe_cst (by rfl) T.m_MAX_STATIONS) (nomark _)) (pss_one (ps_raiseE (K := K) rfl (takes_of rfl rfl rfl rfl) X_NoNetwork (hr.mono (by first | decide | omega)) (pa_cons (pe_un un_neg pe_int) pa_nil))) pss_nil)
      (pss_one (ps_ret (pe_new c_Network (hr.mono (by first | decide | omega)) passN (pa_cons (pe_op op_add (pv 2) (pe_callB (call_lenNet NC M_len (hr.mono (by first | decide | omega))) (by rfl) T.n_len (by decide +kernel) (pa_cons (pv 1) pa_nil))) (pa_cons (pe_op op_catL (pe_mth0 (pv 0) M_links NC.cl (hr.mono (by first | decide | omega)) passN) (pe_lc (own := [("one", 3), ("two", 4)]) (by rfl) sc_side_by_side.nd (pi_list (pe_mth0 (pv 1) M_links NC.cl (hr.mono (by first | decide | omega)) passN)) (blkOk_by (own := [("one", 3), ("two", 4)]) (N := ["network", "other", "size", "one", "two"]) (sc := defScope s_side_by_side) (by decide +kernel)) (fun _ _ _ _ _ => (pg_tupK (K := K) (n := 2) rfl (pgs_cons (pg_name (i := 3) sc_side_by_side.nd rfl (Or.inl rfl)) (pgs_cons (pg_name (i := 4) sc_side_by_side.nd rfl (Or.inl rfl)) pgs_nil)))) (fun _ _ _ _ _ => pts_nil) (fun _ _ _ _ _ => (pe_tup (pa_cons (pe_op op_add (pv 3) (pv 2)) (pa_cons (pe_op op_add (pv 4) (pv 2)) pa_nil)))))) pa_nil))))))), ?_⟩
    walk_at "go"
    refine n_lenNet N ?_
    walk_at "go"
    refine n_lenNet M ?_
    walk_at "go"
    refine if_2 (fun c => ?_) (fun c => ?_)
    · have c := of_decide_eq_true c
      refine s_raiseE ?_
      walk_at "go"
      exact n_raise X_NoNetwork.oex fun d H5 _ e5 hd => kE (by omega) d H5 e5 hd
    have c := of_decide_eq_false c
    have hkk := ks_len2 (side_ok N.ok M.ok) (side_up N.ok N.up M.ok M.up) (side_nd N.ok N.nd M.ok M.nd) (by omega)
    rw [side_len] at hkk
    walk_at "go"
    refine n_lenNet M ?_
    walk_at "go"
    refine ⟨N.ins (by decide) (by decide), ?_⟩
    walk_at "go"
    refine n_links (Own.start H) N fun xs p G1 H1 hl1 _ e1 e1' hp S1 => ?_
    walk_at "go"
    refine ⟨(M.mono e1').ins (by decide) (by decide), ?_⟩
    walk_at "go"
    refine n_links S1 (M.mono e1) fun ys q G2 H2 hl2 _ e2 e2' hq S2 => ?_
    walk_at "go"
    refine v_list (xs := ys) (fun j acc G' L' => L' = [] ∧ Lks G' acc (shL n (ls.take j))) S2 (SqL.of hq) (by rw [pr_len hl2]; omega) ⟨rfl, .nil⟩ ?_ ?_
    · rintro D j x acc G' L' H' hx hj e' hl' ⟨rfl, ha⟩ S'
      obtain ⟨r, hr', t, rfl, ht⟩ := pr_get hl2 hx
      refine s_gtup (SqT.of (S'.ex _ _ (e' _ _ ht))) rfl ?_
      walk_at "go"
      refine ⟨rfl, ?_⟩
      walk_at "go"
      refine n_tup S' (by show 2 ≤ 10000000; decide) fun t3 G3 H3 _ e3 _ ht3 S3 => ?_
      refine c_yes S3 (e'.trans e3) hl' hj ⟨rfl, ?_⟩
      rw [take_snoc hr']
      unfold shL
      rw [List.map_append]
      exact pr_snoc (ha.mono e3) ⟨t3, rfl, ht3⟩
    · rintro p3 acc G3 L3 H3 e3 hl3 ⟨rfl, ha⟩ S3
      rw [pr_len hl2, List.take_length] at ha
      walk_at "go"
      refine n_cat S3 (SqL.of (S3.ex _ _ (e3 _ _ (e2 _ _ hp)))) S3.l0 (by rw [pr_len hl1, pr_len ha, shL, List.length_map]; omega) fun q4 H4 _ S4 => ?_
      walk_at "go"
      have eH4 : Ex H H4 := ((e1.trans e2).trans e3).trans S4.ex
      refine n_netN (n := n + m) (ps := ks ++ shL n ls) S4.get0 (pr_app ((hl1.mono (e2.trans e3)).mono S4.ex) (ha.mono S4.ex)) (side_ok N.ok M.ok) (side_nd N.ok N.nd M.ok M.nd) ⟨by omega, by omega⟩ (by rw [side_len]; omega) fun x H8 hx e8 N8 => ?_
      exact k (by omega) x H8 (fresh_back eH4 hx) (eH4.trans e8) (N8.mono (nw_mono eH4))
end
end NX

namespace NX
open PySem PySem.Spec PyProof.Rows L2
open Evl (Ex ex_l ex_t fresh_back)
open LamX (CodeO TabB)
abbrev s__law_named_right : Stmt := top 31
theorem sc__law_named_right : FnScope ["_law_well_here", "_law_web", "_law_size", "_law_first", "_law_second", "_law_order"] ["_law_well_here", "_law_web", "_law_size"] (defScope s__law_named_right) := ⟨rfl, rfl, rfl, by decide +kernel, rfl, by decide +kernel, by decide +kernel⟩
abbrev s__law_right : Stmt := top 32
theorem sc__law_right : FnScope ["_law_well_here", "_law_size", "_law_web"] ["_law_well_here"] (defScope s__law_right) := ⟨rfl, rfl, rfl, by decide +kernel, rfl, by decide +kernel, by decide +kernel⟩
abbrev s_law : Stmt := top 33
theorem sc_law : FnScope ["_law_script", "_law_turn", "_law_cell"] ["_law_script"] (defScope s_law) := ⟨rfl, rfl, rfl, by decide +kernel, rfl, by decide +kernel, by decide +kernel⟩
def qL (c : Addr) : Str := (envOfC "law" (defScope s_law) 0 0 (.ref c)).qual ++ "<lambda>"
def spNamed (C : Addr) : Sp := fun vs H Q _ => ∃ (W a : Addr) (x y z : Int) (n : Nat) (ks : List Pr), vs = [.ref W, .ref a, .int (n : Int)] ∧ H W = some (wl x y z) ∧ NetAt C (cut H [(W, wl x y z)]) a n ks ∧ n ≤ 10 ∧ ∀ H', Ex (cut H [(W, wl x y z)]) H' → Q (.bl true) H'
def spRight (TS : List (Addr × Str)) : Sp := fun vs H Q _ => ∃ (W : Addr) (x y z : Int) (G : Hp) (f : Addr → Array Value), vs = [.ref W] ∧ Own G ((W, wl x y z) :: tl TS f) H ∧ TabsG G TS f ∧ ∀ H' G' f', Ex (noT G) (noT G') → Own G' (tl TS f') H' → TabsG G' TS f' → Q (.bl true) H'
def spLawT (K : PySem.W.Frag) (TS : List (Addr × Str)) : Sp := fun vs H Q _ => ∃ (a : Addr) (ns : List Int), vs = [.ref a] ∧ SqL K H a (ns.map V.int) ∧ ns.length ≤ 63 ∧ (∀ p ∈ TS, H p.1 = some (.tbl #[])) ∧ ∀ H', Q (.bl true) H'
section
variable {P : Program} {w : World} {K : PySem.W.Frag} {mg : Str → Option Value} {base : Heap} {C CS CN CM CL C0 c Pt : Addr} {Cs : Nat → Addr} {TS : List (Addr × Str)}
theorem ok_ndR {f : Addr} {fd : FuncData} (F : Fun K "_law_named_right" "_law_named_right" s__law_named_right f fd) (T : Txt mg) (NC : NetC K C) (M_eq : Mth P w K mg base 3 C "__eq__" ["self", "other"] (spEqN C)) (M_links : Mth P w K mg base 1 C "links" ["self"] (spLinks C))
    (c_Network : Cnw P w K mg base 3 "Network" C ["self", "stations", "links"] (spInit C)) (c__law_take : Cal P w K mg base 1 "_law_take" ["_law_well_here", "_law_bound"] [] spTake) (c__law_mixed : Cal P w K mg base 2 "_law_mixed" ["_law_well_here", "_law_some"] [] (spMixed K))
    (c_renamed : Cal P w K mg base 5 "renamed" ["network", "names"] [] (spRen K C)) (k_renamed_0_names_network : CalK P w K mg base 5 "renamed" ["network", "names"] 0 ["names", "network"] (fun vs zs => vs ++ zs.reverse) (spRen K C))
    (c_side_by_side : Cal P w K mg base 5 "side_by_side" ["network", "other"] [] (spSide C CN)) (k_side_by_side_0_other_network : CalK P w K mg base 5 "side_by_side" ["network", "other"] 0 ["other", "network"] (fun vs zs => vs ++ zs.reverse) (spSide C CN))
    (c_without : Cal P w K mg base 5 "without" ["network", "station"] [] (spWo C)) (k_without_0_station_network : CalK P w K mg base 5 "without" ["network", "station"] 0 ["station", "network"] (fun vs zs => vs ++ zs.reverse) (spWo C))
    (c_unlinked : Cal P w K mg base 5 "unlinked" ["network", "one", "other"] [] (spUnlinked C CL)) (k_unlinked_0_other_one_network : CalK P w K mg base 5 "unlinked" ["network", "one", "other"] 0 ["other", "one", "network"] (fun vs zs => vs ++ zs.reverse) (spUnlinked C CL))
    (c_linked : Cal P w K mg base 5 "linked" ["network", "one", "other"] [] (spLinked C CL)) (k_linked_0_other_one_network : CalK P w K mg base 5 "linked" ["network", "one", "other"] 0 ["other", "one", "network"] (fun vs zs => vs ++ zs.reverse) (spLinked C CL)) :
    FnOk P w K mg base CX0 7 f fd ["_law_well_here", "_law_web", "_law_size"] (spNamed C) := by
  refine F.ok sc__law_named_right (fun vs H Q E h => ?_) (fun cdv A outer s H vs Q E hr h => ?_)
  · obtain ⟨W, a, x, y, z, n, ks, rfl, _⟩ := h
    rfl
  · obtain ⟨W, a, x, y, z, n, ks, rfl, hW, N, hn, k⟩ := h
    have hu65 : ∀ X : Cx, X.A = A.deeper (envOfC "_law_named_right" (defScope s__law_named_right) s.heap.objs.size f cdv) → X.A.units + 65 < cLine := fun X e => by rw [e]; have := hr.un; omega
    have S0 := Own.give (o := wl x y z) hW
    generalize cut H [(W, wl x y z)] = G at S0 k N
    refine ⟨_, (pss_cons (ps_par (i := 3) (j := 4) rfl sc__law_named_right.nd rfl rfl (by decide) rfl rfl (pa_cons (pe_cal c__law_take (hr.mono (by first | decide | omega)) passN (pa_cons (pv 0) (pa_cons (pv 2) pa_nil))) (pa_cons (pe_cal c__law_take (hr.mono (by first | decide | omega)) passN (pa_cons (pv 0) (pa_cons (pv 2) pa_nil))) pa_nil)) rfl)
      (pss_cons (ps_set (i := 5) sc__law_named_right.nd rfl (Or.inl rfl) (pe_cal c__law_mixed (hr.mono (by first | decide | omega)) passN (pa_cons (pv 0) (pa_cons (pe_listRg rfl (by rfl) T.n_list (prg_1 (by rfl) T.n_range (pv 2))) pa_nil))))
      (pss_cons (ps_if (pt_cmpR (op_neNet NC M_eq (hr.mono (by first | decide | omega))) (pe_calK0 k_renamed_0_names_network (hr.mono (by first | decide | omega)) passN (pk_cons (pv 5) (pk_cons (pv 1) pk_nil))) (pe_cal c_renamed (hr.mono (by first | decide | omega)) passN (pa_cons (pv 1) (pa_cons (pv 5) pa_nil))) (nomark _)) (pss_one (ps_ret pe_bl)) pss_nil)
      (pss_cons (ps_if (pt_cmpR (op_neNet NC M_eq (hr.mono (by first | decide | omega))) (pe_calK0 k_side_by_side_0_other_network (hr.mono (by first | decide | omega)) passN (pk_cons (pe_new c_Network (hr.mono (by first | decide | omega)) passN (pa_cons pe_int (pa_cons (pe_lst pa_nil) pa_nil))) (pk_cons (pv 1) pk_nil))) (pe_cal c_side_by_side (hr.mono (by first | decide | omega)) passN (pa_cons (pv 1) (pa_cons (pe_new c_Network (hr.mono (by first | decide | omega)) passN (pa_cons pe_int (pa_cons (pe_lst pa_nil) pa_nil))) pa_nil))) (nomark _)) (pss_one (ps_ret pe_bl)) pss_nil)
      (pss_cons (ps_if (PW.pt (pw_and (pt_cmpR op_gt (pv 2) pe_int (nomark _)) (pw_and1 (pt_cmpR (op_neNet NC M_eq (hr.mono (by first | decide | omega))) (pe_calK0 k_without_0_station_network (hr.mono (by first | decide | omega)) passN (pk_cons (pv 3) (pk_cons (pv 1) pk_nil))) (pe_cal c_without (hr.mono (by first | decide | omega)) passN (pa_cons (pv 1) (pa_cons (pv 3) pa_nil))) (nomark _))))) (pss_one (ps_ret pe_bl)) pss_nil)
      (pss_cons (ps_if (pt_cmpR op_eq (pv 3) (pv 4) (nomark _)) (pss_one (ps_ret pe_bl)) pss_nil)
      (pss_cons (ps_if (pt_cmpR (op_inD (hu65 _ rfl)) (pe_tup (pa_cons (pe_callB (call_minN rfl) (by rfl) T.n_min (by decide +kernel) (pa_cons (pv 3) (pa_cons (pv 4) pa_nil))) (pa_cons (pe_callB (call_maxN rfl) (by rfl) T.n_max (by decide +kernel) (pa_cons (pv 3) (pa_cons (pv 4) pa_nil))) pa_nil))) (pe_mth0 (pv 1) M_links NC.cl (hr.mono (by first | decide | omega)) passN) rfl) (pss_one (ps_ret (pe_cmpR (op_eqNet NC M_eq (hr.mono (by first | decide | omega))) (pe_calK0 k_unlinked_0_other_one_network (hr.mono (by first | decide | omega)) passN (pk_cons (pv 4) (pk_cons (pv 3) (pk_cons (pv 1) pk_nil)))) (pe_cal c_unlinked (hr.mono (by first | decide | omega)) passN (pa_cons (pv 1) (pa_cons (pv 3) (pa_cons (pv 4) pa_nil)))) (nomark _)))) pss_nil)
      (pss_one (ps_ret (pe_cmpR (op_eqNet NC M_eq (hr.mono (by first | decide | omega))) (pe_calK0 k_linked_0_other_one_network (hr.mono (by first | decide | omega)) passN (pk_cons (pv 4) (pk_cons (pv 3) (pk_cons (pv 1) pk_nil)))) (pe_cal c_linked (hr.mono (by first | decide | omega)) passN (pa_cons (pv 1) (pa_cons (pv 3) (pa_cons (pv 4) pa_nil)))) (nomark _))))))))))), ?_⟩
    have hn1 := N.sz.1
    walk_at "go"
    refine n_take (n := (n : Int)) S0 ⟨by omega, by omega⟩ fun r1 a1 b1 d1 H1 g1 l1 S1 => ?_
    walk_at "go"
    refine n_take (n := (n : Int)) S1 ⟨by omega, by omega⟩ fun r2 a2 b2 d2 H2 g2 l2 S2 => ?_
    walk_at "go"
    refine n_rgG S2 (by omega) fun rp G4 H4 _ e4 _ hrp S4 => ?_
    rw [rgV_eq] at hrp
    walk_at "go"
    refine n_mixed S4 (SqL.of hrp) (data_ints K _ _) (by rw [List.length_map]; unfold rgI; rw [List.length_map, List.length_range]; omega) fun nys nq H5 a5 b5 c5 hnp _ S5 => ?_
    obtain ⟨ns, rfl, hperm⟩ := ints_perm hnp
    have hns := names_of (n := n) hperm rfl
    obtain ⟨S6, e6, hnq⟩ := S5.swap.freeze
    generalize upd G4 nq (.lst (ns.map V.int)) = G6 at S6 e6 hnq
    have eG6 : Ex G G6 := e4.trans e6
    walk_at "go"
    refine ⟨rfl, rfl, n_ren S6 (N.mono eG6) (S6.ex _ _ hnq) hns fun x7 G7 H7 _ e7 _ S7 N7 => ?_⟩
    walk_at "go"
    refine n_ren S7 (N.mono (eG6.trans e7)) (S7.ex _ _ (e7 _ _ hnq)) hns fun x8 G8 H8 _ e8 _ S8 N8 => ?_
    refine n_neNet S8 (N7.mono e8) N8 fun H9 S9 => ?_
    walk_at "go"
    refine if_ff (ntrue ⟨rfl, rfl⟩) ?_
    walk_at "go"
    refine n_lst S9 (by decide) fun p10 H10 _ S10 => ?_
    walk_at "go"
    refine n_net (n := 2) (ps := []) S10 S10.get0 .nil (fun q hq => nomatch hq) (by simp) (by decide) (by decide) fun x11 G11 H11 _ e11 _ S11 N11 => ?_
    walk_at "go"
    have eG11 : Ex G G11 := eG6.trans (e7.trans (e8.trans e11))
    refine ⟨rfl, rfl, n_side S11 (N.mono eG11) N11 (by omega) fun x12 G12 H12 _ e12 _ S12 N12 => ?_⟩
    walk_at "go"
    refine n_lst S12 (by decide) fun p13 H13 _ S13 => ?_
    walk_at "go"
    refine n_net (n := 2) (ps := []) S13 S13.get0 .nil (fun q hq => nomatch hq) (by simp) (by decide) (by decide) fun x14 G14 H14 _ e14 _ S14 N14 => ?_
    walk_at "go"
    have eG14 : Ex G G14 := eG11.trans (e12.trans e14)
    refine n_side S14 (N.mono eG14) N14 (by omega) fun x15 G15 H15 _ e15 _ S15 N15 => ?_
    refine n_neNet S15 (N12.mono (e14.trans e15)) N15 fun H16 S16 => ?_
    walk_at "go"
    refine if_ff (ntrue ⟨rfl, rfl⟩) ?_
    walk_at "go"
    have eG15 : Ex G G15 := eG14.trans e15
    refine if_2 (fun cn => ?_) (fun cn => ?_)
    · have cn := of_decide_eq_true cn
      walk_at "go"
      refine ⟨rfl, rfl, n_wo S16 (N.mono eG15) ⟨g1, l1⟩ (by omega) fun x17 G17 H17 _ e17 _ S17 N17 => ?_⟩
      walk_at "go"
      refine n_wo S17 (N.mono (eG15.trans e17)) ⟨g1, l1⟩ (by omega) fun x18 G18 H18 _ e18 _ S18 N18 => ?_
      refine n_neNet S18 (N17.mono e18) N18 fun H19 S19 => ?_
      walk_at "go"
      refine if_ff (ntrue ⟨rfl, rfl⟩) ?_
      walk_at "go"
      have eG18 : Ex G G18 := eG15.trans (e17.trans e18)
      refine if_2 (fun c => ?_) (fun c => ?_)
      · walk_at "go"
        exact k _ (eG18.trans S19.ex)
      · have c := of_decide_eq_false c
        walk_at "go"
        refine n_tup S19 (by show 2 ≤ 10000000; decide) fun t30 G30 H30 _ e30 _ ht30 S30 => ?_
        walk_at "go"
        have N30 : NetAt C G30 a n ks := N.mono (eG18.trans e30)
        refine ⟨(N30.mono S30.ex).ins (by decide) (by decide), ?_⟩
        walk_at "go"
        refine n_links S30 N30 fun xs31 p31 G31 H31 hl31 _ e31 _ hp31 S31 => ?_
        refine n_inP (q := mmP r1 r2) (S31.ex _ _ (e31 _ _ ht30)) (SqL.of (S31.ex _ _ hp31)) (hl31.mono S31.ex) ?_
        have N31 : NetAt C G31 a n ks := N30.mono e31
        have eG31 : Ex G G31 := eG18.trans (e30.trans e31)
        walk_at "go"
        refine if_2 (fun cm => ?_) (fun cm => ?_)
        · have cm := of_decide_eq_true cm
          walk_at "go"
          refine ⟨rfl, rfl, a, n, ks, r1, r2, rfl, N31.mono S31.ex, ⟨g1, l1⟩, ⟨g2, l2⟩, fun h => absurd cm h, fun _ => n_spNet S31 fun x32 G32 H32 _ e32 _ S32 N32 => ?_⟩
          walk_at "go"
          refine ⟨a, n, ks, r1, r2, rfl, (N31.mono e32).mono S32.ex, ⟨g1, l1⟩, ⟨g2, l2⟩, fun h => absurd cm h, fun _ => n_spNet S32 fun x33 G33 H33 _ e33 _ S33 N33 => ?_⟩
          refine n_eqNet S33 (N32.mono e33) N33 fun H34 S34 => ?_
          walk_at "go"
          rw [dtrue ⟨rfl, rfl⟩]
          exact k _ (eG31.trans (e32.trans (e33.trans S34.ex)))
        · have cm := of_decide_eq_false cm
          walk_at "go"
          refine ⟨rfl, rfl, a, n, ks, r1, r2, rfl, N31.mono S31.ex, ⟨g1, l1⟩, ⟨g2, l2⟩, fun h => (h.elim c cm).elim, fun _ _ => n_spNet S31 fun x32 G32 H32 _ e32 _ S32 N32 => ?_⟩
          walk_at "go"
          refine ⟨a, n, ks, r1, r2, rfl, (N31.mono e32).mono S32.ex, ⟨g1, l1⟩, ⟨g2, l2⟩, fun h => (h.elim c cm).elim, fun _ _ => n_spNet S32 fun x33 G33 H33 _ e33 _ S33 N33 => ?_⟩
          refine n_eqNet S33 (N32.mono e33) N33 fun H34 S34 => ?_
          walk_at "go"
          rw [dtrue ⟨rfl, rfl⟩]
          exact k _ (eG31.trans (e32.trans (e33.trans S34.ex)))
    · walk_at "go"
      refine if_2 (fun c => ?_) (fun c => ?_)
      · walk_at "go"
        exact k _ (eG15.trans S16.ex)
      · have c := of_decide_eq_false c
        walk_at "go"
        refine n_tup S16 (by show 2 ≤ 10000000; decide) fun t30 G30 H30 _ e30 _ ht30 S30 => ?_
        walk_at "go"
        have N30 : NetAt C G30 a n ks := N.mono (eG15.trans e30)
        refine ⟨(N30.mono S30.ex).ins (by decide) (by decide), ?_⟩
        walk_at "go"
        refine n_links S30 N30 fun xs31 p31 G31 H31 hl31 _ e31 _ hp31 S31 => ?_
        refine n_inP (q := mmP r1 r2) (S31.ex _ _ (e31 _ _ ht30)) (SqL.of (S31.ex _ _ hp31)) (hl31.mono S31.ex) ?_
        have N31 : NetAt C G31 a n ks := N30.mono e31
        have eG31 : Ex G G31 := eG15.trans (e30.trans e31)
        walk_at "go"
        refine if_2 (fun cm => ?_) (fun cm => ?_)
        · have cm := of_decide_eq_true cm
          walk_at "go"
          refine ⟨rfl, rfl, a, n, ks, r1, r2, rfl, N31.mono S31.ex, ⟨g1, l1⟩, ⟨g2, l2⟩, fun h => absurd cm h, fun _ => n_spNet S31 fun x32 G32 H32 _ e32 _ S32 N32 => ?_⟩
          walk_at "go"
          refine ⟨a, n, ks, r1, r2, rfl, (N31.mono e32).mono S32.ex, ⟨g1, l1⟩, ⟨g2, l2⟩, fun h => absurd cm h, fun _ => n_spNet S32 fun x33 G33 H33 _ e33 _ S33 N33 => ?_⟩
          refine n_eqNet S33 (N32.mono e33) N33 fun H34 S34 => ?_
          walk_at "go"
          rw [dtrue ⟨rfl, rfl⟩]
          exact k _ (eG31.trans (e32.trans (e33.trans S34.ex)))
        · have cm := of_decide_eq_false cm
          walk_at "go"
          refine ⟨rfl, rfl, a, n, ks, r1, r2, rfl, N31.mono S31.ex, ⟨g1, l1⟩, ⟨g2, l2⟩, fun h => (h.elim c cm).elim, fun _ _ => n_spNet S31 fun x32 G32 H32 _ e32 _ S32 N32 => ?_⟩
          walk_at "go"
          refine ⟨a, n, ks, r1, r2, rfl, (N31.mono e32).mono S32.ex, ⟨g1, l1⟩, ⟨g2, l2⟩, fun h => (h.elim c cm).elim, fun _ _ => n_spNet S32 fun x33 G33 H33 _ e33 _ S33 N33 => ?_⟩
          refine n_eqNet S33 (N32.mono e33) N33 fun H34 S34 => ?_
          walk_at "go"
          rw [dtrue ⟨rfl, rfl⟩]
          exact k _ (eG31.trans (e32.trans (e33.trans S34.ex)))
theorem ok_right {f : Addr} {fd : FuncData} (F : Fun K "_law_right" "_law_right" s__law_right f fd) (T : Txt mg) (NC : NetC K C) (c_Network : Cnw P w K mg base 3 "Network" C ["self", "stations", "links"] (spInit C)) (c__law_take : Cal P w K mg base 1 "_law_take" ["_law_well_here", "_law_bound"] [] spTake)
    (c__law_links : Cal P w K mg base 3 "_law_links" ["_law_well_here", "_law_size"] [] spLinksT) (c__law_stations_right : CalG P w K mg base 12 "_law_stations_right" ["_law_well_here", "_law_web", "_law_size"] (spPart C TS)) (c__law_names_right : CalG P w K mg base 12 "_law_names_right" ["_law_well_here", "_law_web", "_law_size"] (spPart C TS))
    (c__law_named_right : Cal P w K mg base 7 "_law_named_right" ["_law_well_here", "_law_web", "_law_size"] [] (spNamed C)) : FnOkG P w K mg base 13 f fd ["_law_well_here"] (spRight TS) := by
  refine okG F sc__law_right (fun vs H Q E h => ?_) (fun cdv A outer s H vs Q E hG0 hr h => ?_)
  · obtain ⟨W, x, y, z, G, ft, rfl, _⟩ := h
    rfl
  · obtain ⟨W, x, y, z, G, ft, rfl, S0, tg, k⟩ := h
    have hG : (A.deeper (envOfC "_law_right" (defScope s__law_right) s.heap.objs.size f cdv)).guards = some [] := hG0
    refine ⟨_, (pss_cons (ps_set (i := 1) sc__law_right.nd rfl (Or.inl rfl) (pe_op op_add pe_int (pe_cal c__law_take (hr.mono (by first | decide | omega)) passN (pa_cons (pv 0) (pa_cons pe_int pa_nil)))))
      (pss_cons (ps_set (i := 2) sc__law_right.nd rfl (Or.inl rfl) (pe_new c_Network (hr.mono (by first | decide | omega)) passN (pa_cons (pv 1) (pa_cons (pe_cal c__law_links (hr.mono (by first | decide | omega)) passN (pa_cons (pv 0) (pa_cons (pv 1) pa_nil))) pa_nil))))
      (pss_cons (ps_if (PW.pt (pw_or (pt_not (pt_val (pe_calG c__law_stations_right hG (hr.mono (by first | decide | omega)) pass0 (pa_cons (pv 0) (pa_cons (pv 2) (pa_cons (pv 1) pa_nil)))))) (pw_or1 (pt_not (pt_val (pe_calG c__law_names_right hG (hr.mono (by first | decide | omega)) pass0 (pa_cons (pv 0) (pa_cons (pv 2) (pa_cons (pv 1) pa_nil))))))))) (pss_one (ps_ret pe_bl)) pss_nil)
      (pss_one (ps_ret (pe_cal c__law_named_right (hr.mono (by first | decide | omega)) passN (pa_cons (pv 0) (pa_cons (pv 2) (pa_cons (pv 1) pa_nil))))))))), ?_⟩
    walk_at "go"
    refine n_take S0 ⟨by decide, by decide⟩ fun r1 a1 b1 d1 H1 g1 l1 S1 => ?_
    obtain ⟨n, hn⟩ : ∃ n : Nat, 1 + r1 = (n : Int) := ⟨(1 + r1).toNat, by omega⟩
    walk_at "go"
    rw [hn]
    refine n_linksT S1 (by omega) (by omega) fun xs ls lq G2 H2 a2 b2 d2 e2 S2 hl2 ok nd => ?_
    have hz := okl_len ok nd (show n ≤ 60 by omega)
    obtain ⟨S3, e3, hlq⟩ := S2.swap.freeze
    have hl3 := hl2.mono e3
    generalize upd G2 lq (.lst xs) = G3 at S3 e3 hlq hl3
    walk_at "go"
    refine n_net (n := n) S3 (S3.ex _ _ hlq) (hl3.mono S3.ex) ok nd ⟨by omega, by omega⟩ hz fun a G4 H4 _ e4 _ S4 N4 => ?_
    walk_at "go"
    have eG4 : Ex G G4 := e2.trans (e3.trans e4)
    refine ⟨W, a, _, _, _, n, _, G4, ft, rfl, S4, tg.mono eG4, N4.noT, by omega, fun H5 G5 f5 x5 y5 z5 e5 S5 tg5 => ?_⟩
    walk_at "go"
    refine ⟨W, a, _, _, _, n, _, G5, f5, rfl, S5, tg5, N4.noT.mono e5, by omega, fun H6 G6 f6 x6 y6 z6 e6 S6 tg6 => ?_⟩
    walk_at "go"
    have N6 : NetAt C G6 a n (sortP ls) := N4.noT.mono ((e5.trans e6).trans (ex_noT _))
    refine ⟨W, a, _, _, _, n, _, rfl, S6.get0, N6.mono S6.keep, by omega, fun H7 e7 => ?_⟩
    exact k H7 G6 f6 ((NX.Ex.noT eG4).trans (e5.trans e6)) (S6.pass e7) tg6
theorem ok_law {f : Addr} {fd : FuncData} (F : FunC K "law" "law" s_law f fd c) (T : Txt mg) (NC : NetC K C) (TB : TabB base mg c Pt) (hmT : (Pt, qL c) ∈ TS) (hnT : (TS.map Prod.fst).Nodup) (KN : Kind8 K C0 Cs CN 6)
    (L__law_outcome : LamDefG P w K mg base "_law_outcome" "_law_ask" (OutT K C0 Cs)) (c__law_well : Cal P w K mg base 1 "_law_well" ["_law_cell", "_law_turn"] [] spWell) (c__law_right : CalG P w K mg base 13 "_law_right" ["_law_well_here"] (spRight TS))
    (c_Network : Cnw P w K mg base 3 "Network" C ["self", "stations", "links"] (spInit C)) (c_withoutx : Cal P w K mg base 5 "without" ["network", "station"] [] (spWoX C CS CN)) : FnOkG P w K mg base 14 f fd ["_law_script"] (spLawT K TS) := by
  have huT := tab_u hnT hmT
  refine okGC F sc_law (fun vs H Q E h => ?_) (fun A outer s H vs Q E hG0 hr h => ?_)
  · obtain ⟨a, ns, rfl, _⟩ := h
    rfl
  · obtain ⟨a, ns, rfl, hS, hn, hT, k⟩ := h
    have hu65 : ∀ X : Cx, X.A.units = (A.deeper (envOfC "law" (defScope s_law) s.heap.objs.size f (.ref c))).units → X.A.units + 65 < cLine := fun X e => by rw [e]; have := hr.un; omega
    have hG : (A.deeper (envOfC "law" (defScope s_law) s.heap.objs.size f (.ref c))).guards = some [] := hG0
    have S0 := own_tabs hT hnT
    have hS0 := ex_l (ex_noT _) (sq_tabs hT hS)
    have tg0 : TabsG (cut H (tl TS fun _ => #[])) TS fun _ => #[] := TabsG.nil _ _
    generalize cut H (tl TS fun _ => #[]) = G0 at S0 hS0 tg0
    refine ⟨_, (pss_cons (ps_for PassesOwn.never rfl (pi_enum (by rfl) T.n_enumerate (pa_cons (pe_slice sl_list (pe_op op_catL (pv 0) (pe_lst (pa_cons pe_int pa_nil))) po_none (po_some pe_int)) pa_nil)) (pg_tup (n := 2) rfl (pgs_cons (pg_name (i := 1) sc_law.nd rfl (Or.inl rfl)) (pgs_cons (pg_name (i := 2) sc_law.nd rfl (Or.inl rfl)) pgs_nil))) (pss_one (ps_if (pt_not (pt_val (pe_calG c__law_right hG (hr.mono (by first | decide | omega)) pass0 (pa_cons (pe_cal c__law_well (hr.mono (by first | decide | omega)) passN (pa_cons (pv 2) (pa_cons (pv 1) pa_nil))) pa_nil)))) (pss_one (ps_ret pe_bl)) pss_nil)))
      (pss_one (ps_ret (pe_cmpR (op_eqD (Nat.lt_of_succ_lt (hu65 _ rfl))) (pe_lamG (k := 8) L__law_outcome hG TB hmT huT (hr.mono (by first | decide | omega)) (fun A outer s H E f c' hr => (pe_cal c_withoutx (hr.mono (by first | decide | omega)) (passE (takes_of rfl rfl rfl rfl) fun _ _ _ _ z => z) (pa_cons (pe_new c_Network (hr.mono (by first | decide | omega)) passN (pa_cons pe_int (pa_cons (pe_lst pa_nil) pa_nil))) (pa_cons pe_int pa_nil)))) (LamX.lamS_by (sc := defScope s_law) (by decide +kernel))) (pe_tup (pa_cons pe_str (pa_cons (pe_un un_neg pe_int) pa_nil))) (nomark _))))), ?_⟩
    walk_at "go"
    refine n_lstG S0 (by show 1 ≤ 10000000; decide) fun p G1 H1 _ e1 _ hp S1 => ?_
    walk_at "go"
    refine n_catG S1 (S1.sl (ex_l e1 hS0)) (SqL.of (S1.ex _ _ hp)) (by rw [List.length_map]; simp; omega) fun q2 G2 H2 _ e2 _ hq S2 => ?_
    walk_at "go"
    refine n_sl S2 (SqL.of (S2.ex _ _ hq)) fun t G3 H3 _ e3 _ ht S3 => ?_
    have hc : cutV (ns.map V.int ++ [.int 0]) none (some ((6 : Nat) : Int)) = ((ns ++ [0]).take 6).map V.int := by
      rw [cutV_to, List.map_take, List.map_append] <;> rfl
    have ht : G3 t = some (.lst (((ns ++ [0]).take 6).map V.int)) := ht.trans (by rw [← hc] <;> rfl)
    walk_at "go"
    refine w_enum (fun i σ' H' => (∃ x y, σ' = [some (.ref a), x, y]) ∧ ∃ G' ft, Own G' (tl TS ft) H' ∧ TabsG G' TS ft ∧ G' t = some (.lst (((ns ++ [0]).take 6).map V.int))) (SqL.of (S3.ex _ _ ht)) ⟨⟨_, _, rfl⟩, G3, _, S3, ((tg0.mono e1).mono e2).mono e3, ht⟩ (fun i σ' H' ⟨_, G', ft, S, _, ht'⟩ => SqL.of (S.ex _ _ ht')) ?_ ?_
    · rintro i x T' σ' H' hx ⟨⟨x0, y0, rfl⟩, G', ft, S, tg, ht'⟩ hT
      obtain ⟨z, _, rfl⟩ := get_map hx
      have S4 := S.grow (Ex.new (o := .tup [.int (i : Int), .int z]) hT)
      refine s_gtup (SqT.of upd_same) rfl ?_
      walk_at "go"
      refine ⟨_, _, rfl, fun a5 b5 c5 => n_retO S4 rfl fun W H5 hW e5 S5 => ?_⟩
      walk_at "go"
      refine ⟨W, _, _, _, G', ft, rfl, S5, tg, fun H6 G6 f6 e6 S6 tg6 => ?_⟩
      walk_at "go"
      exact ⟨⟨_, _, rfl⟩, G6, f6, S6, tg6, (of_noT (e6 _ _ (noT_of ht' fun qs z => by cases z))).1⟩
    · rintro σ' H' ⟨⟨x, y, rfl⟩, G', ft, S, tg, ht'⟩
      walk_at "go"
      refine n_lamN (L := []) S tg (fun p hp => nomatch hp) fun G5 H5 f5 e5 S5 tg5 => ?_
      intro E1 Q1 hE1 _
      walk_at "go"
      refine n_lst S5 (by decide) fun p6 H6 _ S6 => ?_
      walk_at "go"
      refine n_net (n := 1) (ps := []) S6 S6.get0 .nil (fun q hq => nomatch hq) (by simp) (by decide) (by decide) fun x7 G7 H7 _ e7 _ S7 N7 => ?_
      walk_at "go"
      refine ⟨x7, 1, _, .int 0, rfl, N7.mono S7.ex, .inr ⟨⟨0, rfl, by decide, by decide⟩, rfl, fun d H8 e8 hd => hE1 _ _ _ (out_ix KN (.inr (.inr (.inl rfl))) hd (n_retG (S7.grow e8) fun p9 G9 H9 _ e9 _ hp9 S9 => ?_))⟩⟩
      walk_at "go"
      refine n_tup S9 (by show 2 ≤ 10000000; decide) fun p10 G10 H10 _ e10 _ hp10 S10 => ?_
      refine n_eqSI (by decide +kernel) (S10.ex _ _ (e10 _ _ hp9)) (S10.ex _ _ hp10) ?_
      walk_at "go"
      exact k _
end
end NX

namespace NX
open PySem PySem.Spec PyProof.Rows L2
section
variable {P : Program} {w : World} {K : PySem.W.Frag} {mg : Str → Option Value} {base : Heap}
theorem mkCal {x : Str} {f : Addr} {fd : FuncData} {k : Nat} {ps : List Str} {sp : Sp} (F : FnOk P w K mg base (L2.CX P w) k f fd ps sp) (g : mg x = some (.ref f)) (kp : PySem.W.keepIn K (.ref f) = true) (b : Binds K fd ps []) : Cal P w K mg base k x ps [] sp := ⟨f, fd, [], F, g, kp, b, .nil⟩
/-- how a plain def binds keywords -/
theorem fun_kbn {x qual : Str} {st : Stmt} {f : Addr} {fd : FuncData} {ps ks : List Str} {n : Nat} {g : List Value → List Value → List Value} {gV : List V → List V → List V} (F : Fun K x qual st f fd)
    (hrel : ∀ {vs : List V} {us : List Value} {zs : List V} {ws : List Value}, Vals vs us → Vals zs ws → Vals (gV vs zs) (g us ws))
    (h : ∀ (kV doc pm : Value) (an : Option Addr) (cdv ct : Value) (us ws : List Value), us.length = n → ws.length = ks.length → bindArgs (PySem.W.fnOf x qual (defArgs st) (defBody st) (defScope st) .none kV doc pm an cdv ct) ⟨us, ks.zip ws⟩ = pure (ps.zip (g us ws))) : KBn K fd ps n ks g gV := by
  obtain ⟨oc, od, kV, doc, pm, an, cdv, ct, osl, rfl, lk, hcd⟩ := F.ex
  exact ⟨fun s us ws _ h1 h2 => .of_eq (h kV doc pm an cdv ct us ws h1 h2), hrel⟩
theorem mkCalK {x : Str} {f : Addr} {fd : FuncData} {k n : Nat} {ps ks : List Str} {g : List Value → List Value → List Value} {gV : List V → List V → List V} {sp : Sp} (F : FnOk P w K mg base (L2.CX P w) k f fd ps sp) (hm : mg x = some (.ref f)) (kp : PySem.W.keepIn K (.ref f) = true) (b : KBn K fd ps n ks g gV) :
    CalK P w K mg base k x ps n ks gV sp := ⟨f, fd, g, F, hm, kp, b⟩
theorem walk {l : PySem.W.OpenLaw} {q : Program} {loose : List Str} {XP : (Str → Option Value) → Heap → Prop} {YP : World → Heap → Prop} {d : DefRec} {K : Params → PySem.W.Frag} {k : Nat} (hn : l.most = some 63) (hdf : d.params.defaults = []) (hr : Room k callerA)
    (hY : ∀ (w : World) (h : Heap), YP w h → (K w.params).In h) {sp : PySem.W.Frag → Sp}
    (F : ∀ (w : World) (mg : Str → Option Value) (fa : Addr) (h : Heap), (K w.params).In h → h.Ns mainGlobals mg → mg d.name = some (.ref fa) →
      ∃ fd : FuncData, (∀ (s : Shared) (u : Value), BindsTo s fd ⟨[u], []⟩ [("_law_script", u)]) ∧ ∀ base : Heap, (K w.params).In base → base.Ns mainGlobals mg → FnOk l.prog w (K w.params) mg base CX0 k fa fd ["_law_script"] (sp (K w.params)))
    (hsp : ∀ (K : PySem.W.Frag) (H : Hp) (a : Addr) (ns : List Int), ns.length ≤ 63 → SqL K H a (ns.map V.int) → sp K [.ref a] H (fun v _ => v = .bl true) fun _ _ _ => False) :
    PySem.W.WalkO q loose XP YP l.row.toRowW d [] (fun f vs => PySem.call f vs) :=
  L2.walk_of (n := 63) (k := k) (x := "_law_script") (CX := fun _ => CX0) (sp := fun w => sp (K w.params)) hn (by decide) hdf hr hY F (fun w _ a ns hl _ hS => hsp (K w.params) _ a ns hl hS) fun _ _ _ _ _ z => z
end
end NX


namespace NX
open PySem PySem.Spec PyProof.Rows L2
open LamX (TabB)
theorem all_mk {l : PySem.W.OpenLaw} {w : World} {K : PySem.W.Frag} {h : Heap} {mg : Str → Option Value} {fa f_is_int f_is_link f_link_of f_linked f_unlinked f_side_by_side f_renamed f_without f__law_well f__law_take f__law_mixed f__law_links f__law_outcome f__law_stations_right f__law_names_right f__law_named_right f__law_right f_law C f_M_init f_M_len f_M_eq f_M_links f_M_check_station C0 C_NoStation f_I_NoStation C_NoLink f_I_NoLink C_NoNames f_I_NoNames C_NoNetwork f_I_NoNetwork C_NoChannel C_TooMany C_NoClosedSet C_NoState cA__law_stations_right Pt__law_stations_right cA__law_names_right Pt__law_names_right cA_law Pt_law : Addr} (X : K.In h) (G : h.Ns mainGlobals mg) (hfa : mg "law" = some (.ref fa))
    {od_is_int an_is_int od_is_link an_is_link od_link_of an_link_of od_linked an_linked od_unlinked an_unlinked od_side_by_side an_side_by_side od_renamed an_renamed od_without an_without od__law_well an__law_well od__law_take an__law_take od__law_mixed an__law_mixed od__law_links an__law_links od__law_outcome an__law_outcome od__law_stations_right an__law_stations_right od__law_names_right an__law_names_right od__law_named_right an__law_named_right od__law_right an__law_right od_law an_law od_M_init an_M_init od_M_len an_M_len od_M_eq an_M_eq od_M_links an_M_links od_M_check_station an_M_check_station od_I_NoStation an_I_NoStation od_I_NoLink an_I_NoLink od_I_NoNames an_I_NoNames od_I_NoNetwork an_I_NoNetwork : Option Addr} {sl_is_int sl_is_link sl_link_of sl_linked sl_unlinked sl_side_by_side sl_renamed sl_without sl__law_well sl__law_take sl__law_mixed sl__law_links sl__law_outcome sl__law_stations_right sl__law_names_right sl__law_named_right sl__law_right sl_law sl_M_init sl_M_len sl_M_eq sl_M_links sl_M_check_station sl_I_NoStation sl_I_NoLink sl_I_NoNames sl_I_NoNetwork : Array (Option Value)} {oc_is_int dc_is_int pm_is_int cd_is_int ct_is_int kV_is_int oc_is_link dc_is_link pm_is_link cd_is_link ct_is_link kV_is_link oc_link_of dc_link_of pm_link_of cd_link_of ct_link_of kV_link_of oc_linked dc_linked pm_linked cd_linked ct_linked kV_linked oc_unlinked dc_unlinked pm_unlinked cd_unlinked ct_unlinked kV_unlinked oc_side_by_side dc_side_by_side pm_side_by_side cd_side_by_side ct_side_by_side kV_side_by_side oc_renamed dc_renamed pm_renamed cd_renamed ct_renamed kV_renamed oc_without dc_without pm_without cd_without ct_without kV_without oc__law_well dc__law_well pm__law_well cd__law_well ct__law_well kV__law_well oc__law_take dc__law_take pm__law_take cd__law_take ct__law_take kV__law_take oc__law_mixed dc__law_mixed pm__law_mixed cd__law_mixed ct__law_mixed kV__law_mixed oc__law_links dc__law_links pm__law_links cd__law_links ct__law_links kV__law_links oc__law_outcome dc__law_outcome pm__law_outcome cd__law_outcome ct__law_outcome kV__law_outcome oc__law_stations_right dc__law_stations_right pm__law_stations_right cd__law_stations_right ct__law_stations_right kV__law_stations_right oc__law_names_right dc__law_names_right pm__law_names_right cd__law_names_right ct__law_names_right kV__law_names_right oc__law_named_right dc__law_named_right pm__law_named_right cd__law_named_right ct__law_named_right kV__law_named_right oc__law_right dc__law_right pm__law_right cd__law_right ct__law_right kV__law_right oc_law dc_law pm_law cd_law ct_law kV_law oc_M_init dc_M_init pm_M_init cd_M_init ct_M_init kV_M_init oc_M_len dc_M_len pm_M_len cd_M_len ct_M_len kV_M_len oc_M_eq dc_M_eq pm_M_eq cd_M_eq ct_M_eq kV_M_eq oc_M_links dc_M_links pm_M_links cd_M_links ct_M_links kV_M_links oc_M_check_station dc_M_check_station pm_M_check_station cd_M_check_station ct_M_check_station kV_M_check_station oc_I_NoStation dc_I_NoStation pm_I_NoStation cd_I_NoStation ct_I_NoStation kV_I_NoStation oc_I_NoLink dc_I_NoLink pm_I_NoLink cd_I_NoLink ct_I_NoLink kV_I_NoLink oc_I_NoNames dc_I_NoNames pm_I_NoNames cd_I_NoNames ct_I_NoNames kV_I_NoNames oc_I_NoNetwork dc_I_NoNetwork pm_I_NoNetwork cd_I_NoNetwork ct_I_NoNetwork kV_I_NoNetwork : Value} {t_MAX_STATIONS : Tok} {nm_NoStation q_NoStation : Str} {N_NoStation : Addr} {bs_NoStation sub_NoStation : List Value} {sn_NoStation : List Str} {ab_NoStation : Bool} {col_NoStation : Option Bool} {dd_NoStation : Option Addr} {m0_NoStation m1_NoStation m2_NoStation m3_NoStation m5_NoStation : Option Value} {nm_NoLink q_NoLink : Str} {N_NoLink : Addr} {bs_NoLink sub_NoLink : List Value} {sn_NoLink : List Str} {ab_NoLink : Bool} {col_NoLink : Option Bool} {dd_NoLink : Option Addr} {m0_NoLink m1_NoLink m2_NoLink m3_NoLink m5_NoLink : Option Value} {nm_NoNames q_NoNames : Str} {N_NoNames : Addr} {bs_NoNames sub_NoNames : List Value} {sn_NoNames : List Str} {ab_NoNames : Bool} {col_NoNames : Option Bool} {dd_NoNames : Option Addr} {m0_NoNames m1_NoNames m2_NoNames m3_NoNames m5_NoNames : Option Value} {nm_NoNetwork q_NoNetwork : Str} {N_NoNetwork : Addr} {bs_NoNetwork sub_NoNetwork : List Value} {sn_NoNetwork : List Str} {ab_NoNetwork : Bool} {col_NoNetwork : Option Bool} {dd_NoNetwork : Option Addr} {m0_NoNetwork m1_NoNetwork m2_NoNetwork m3_NoNetwork m5_NoNetwork : Option Value}
    (z_ValueError : PySem.W.nsIn K mainGlobals "ValueError" = some none)
    (z_all : PySem.W.nsIn K mainGlobals "all" = some none)
    (z_bool : PySem.W.nsIn K mainGlobals "bool" = some none)
    (z_enumerate : PySem.W.nsIn K mainGlobals "enumerate" = some none)
    (z_int : PySem.W.nsIn K mainGlobals "int" = some none)
    (z_isinstance : PySem.W.nsIn K mainGlobals "isinstance" = some none)
    (z_len : PySem.W.nsIn K mainGlobals "len" = some none)
    (z_list : PySem.W.nsIn K mainGlobals "list" = some none)
    (z_max : PySem.W.nsIn K mainGlobals "max" = some none)
    (z_min : PySem.W.nsIn K mainGlobals "min" = some none)
    (z_range : PySem.W.nsIn K mainGlobals "range" = some none)
    (z_repr : PySem.W.nsIn K mainGlobals "repr" = some none)
    (z_set : PySem.W.nsIn K mainGlobals "set" = some none)
    (z_sorted : PySem.W.nsIn K mainGlobals "sorted" = some none)
    (z_tuple : PySem.W.nsIn K mainGlobals "tuple" = some none)
    (v_MAX_STATIONS : PySem.W.nsIn K mainGlobals "MAX_STATIONS" = some (some (.int 60 t_MAX_STATIONS)))
    (a_is_int : PySem.W.nsIn K mainGlobals "is_int" = some (some (.ref f_is_int)))
    (l_is_int : K.lookup f_is_int = some ⟨oc_is_int, od_is_int, .func (PySem.W.fnOf "is_int" "is_int" (defArgs s_is_int) (defBody s_is_int) (defScope s_is_int) .none kV_is_int dc_is_int pm_is_int an_is_int cd_is_int ct_is_int), sl_is_int⟩)
    (c_is_int : PySem.W.codeIn K cd_is_int "is_int" = true)
    (k_is_int : PySem.W.keepIn K (.ref f_is_int) = true)
    (a_is_link : PySem.W.nsIn K mainGlobals "is_link" = some (some (.ref f_is_link)))
    (l_is_link : K.lookup f_is_link = some ⟨oc_is_link, od_is_link, .func (PySem.W.fnOf "is_link" "is_link" (defArgs s_is_link) (defBody s_is_link) (defScope s_is_link) .none kV_is_link dc_is_link pm_is_link an_is_link cd_is_link ct_is_link), sl_is_link⟩)
    (c_is_link : PySem.W.codeIn K cd_is_link "is_link" = true)
    (k_is_link : PySem.W.keepIn K (.ref f_is_link) = true)
    (a_link_of : PySem.W.nsIn K mainGlobals "link_of" = some (some (.ref f_link_of)))
    (l_link_of : K.lookup f_link_of = some ⟨oc_link_of, od_link_of, .func (PySem.W.fnOf "link_of" "link_of" (defArgs s_link_of) (defBody s_link_of) (defScope s_link_of) .none kV_link_of dc_link_of pm_link_of an_link_of cd_link_of ct_link_of), sl_link_of⟩)
    (c_link_of : PySem.W.codeIn K cd_link_of "link_of" = true)
    (k_link_of : PySem.W.keepIn K (.ref f_link_of) = true)
    (a_linked : PySem.W.nsIn K mainGlobals "linked" = some (some (.ref f_linked)))
    (l_linked : K.lookup f_linked = some ⟨oc_linked, od_linked, .func (PySem.W.fnOf "linked" "linked" (defArgs s_linked) (defBody s_linked) (defScope s_linked) .none kV_linked dc_linked pm_linked an_linked cd_linked ct_linked), sl_linked⟩)
    (c_linked : PySem.W.codeIn K cd_linked "linked" = true)
    (k_linked : PySem.W.keepIn K (.ref f_linked) = true)
    (a_unlinked : PySem.W.nsIn K mainGlobals "unlinked" = some (some (.ref f_unlinked)))
    (l_unlinked : K.lookup f_unlinked = some ⟨oc_unlinked, od_unlinked, .func (PySem.W.fnOf "unlinked" "unlinked" (defArgs s_unlinked) (defBody s_unlinked) (defScope s_unlinked) .none kV_unlinked dc_unlinked pm_unlinked an_unlinked cd_unlinked ct_unlinked), sl_unlinked⟩)
    (c_unlinked : PySem.W.codeIn K cd_unlinked "unlinked" = true)
    (k_unlinked : PySem.W.keepIn K (.ref f_unlinked) = true)
    (a_side_by_side : PySem.W.nsIn K mainGlobals "side_by_side" = some (some (.ref f_side_by_side)))
    (l_side_by_side : K.lookup f_side_by_side = some ⟨oc_side_by_side, od_side_by_side, .func (PySem.W.fnOf "side_by_side" "side_by_side" (defArgs s_side_by_side) (defBody s_side_by_side) (defScope s_side_by_side) .none kV_side_by_side dc_side_by_side pm_side_by_side an_side_by_side cd_side_by_side ct_side_by_side), sl_side_by_side⟩)
    (c_side_by_side : PySem.W.codeIn K cd_side_by_side "side_by_side" = true)
    (k_side_by_side : PySem.W.keepIn K (.ref f_side_by_side) = true)
    (a_renamed : PySem.W.nsIn K mainGlobals "renamed" = some (some (.ref f_renamed)))
    (l_renamed : K.lookup f_renamed = some ⟨oc_renamed, od_renamed, .func (PySem.W.fnOf "renamed" "renamed" (defArgs s_renamed) (defBody s_renamed) (defScope s_renamed) .none kV_renamed dc_renamed pm_renamed an_renamed cd_renamed ct_renamed), sl_renamed⟩)
    (c_renamed : PySem.W.codeIn K cd_renamed "renamed" = true)
    (k_renamed : PySem.W.keepIn K (.ref f_renamed) = true)
    (a_without : PySem.W.nsIn K mainGlobals "without" = some (some (.ref f_without)))
    (l_without : K.lookup f_without = some ⟨oc_without, od_without, .func (PySem.W.fnOf "without" "without" (defArgs s_without) (defBody s_without) (defScope s_without) .none kV_without dc_without pm_without an_without cd_without ct_without), sl_without⟩)
    (c_without : PySem.W.codeIn K cd_without "without" = true)
    (k_without : PySem.W.keepIn K (.ref f_without) = true)
    (a__law_well : PySem.W.nsIn K mainGlobals "_law_well" = some (some (.ref f__law_well)))
    (l__law_well : K.lookup f__law_well = some ⟨oc__law_well, od__law_well, .func (PySem.W.fnOf "_law_well" "_law_well" (defArgs s__law_well) (defBody s__law_well) (defScope s__law_well) .none kV__law_well dc__law_well pm__law_well an__law_well cd__law_well ct__law_well), sl__law_well⟩)
    (c__law_well : PySem.W.codeIn K cd__law_well "_law_well" = true)
    (k__law_well : PySem.W.keepIn K (.ref f__law_well) = true)
    (a__law_take : PySem.W.nsIn K mainGlobals "_law_take" = some (some (.ref f__law_take)))
    (l__law_take : K.lookup f__law_take = some ⟨oc__law_take, od__law_take, .func (PySem.W.fnOf "_law_take" "_law_take" (defArgs s__law_take) (defBody s__law_take) (defScope s__law_take) .none kV__law_take dc__law_take pm__law_take an__law_take cd__law_take ct__law_take), sl__law_take⟩)
    (c__law_take : PySem.W.codeIn K cd__law_take "_law_take" = true)
    (k__law_take : PySem.W.keepIn K (.ref f__law_take) = true)
    (a__law_mixed : PySem.W.nsIn K mainGlobals "_law_mixed" = some (some (.ref f__law_mixed)))
    (l__law_mixed : K.lookup f__law_mixed = some ⟨oc__law_mixed, od__law_mixed, .func (PySem.W.fnOf "_law_mixed" "_law_mixed" (defArgs s__law_mixed) (defBody s__law_mixed) (defScope s__law_mixed) .none kV__law_mixed dc__law_mixed pm__law_mixed an__law_mixed cd__law_mixed ct__law_mixed), sl__law_mixed⟩)
    (c__law_mixed : PySem.W.codeIn K cd__law_mixed "_law_mixed" = true)
    (k__law_mixed : PySem.W.keepIn K (.ref f__law_mixed) = true)
    (a__law_links : PySem.W.nsIn K mainGlobals "_law_links" = some (some (.ref f__law_links)))
    (l__law_links : K.lookup f__law_links = some ⟨oc__law_links, od__law_links, .func (PySem.W.fnOf "_law_links" "_law_links" (defArgs s__law_links) (defBody s__law_links) (defScope s__law_links) .none kV__law_links dc__law_links pm__law_links an__law_links cd__law_links ct__law_links), sl__law_links⟩)
    (c__law_links : PySem.W.codeIn K cd__law_links "_law_links" = true)
    (k__law_links : PySem.W.keepIn K (.ref f__law_links) = true)
    (a__law_outcome : PySem.W.nsIn K mainGlobals "_law_outcome" = some (some (.ref f__law_outcome)))
    (l__law_outcome : K.lookup f__law_outcome = some ⟨oc__law_outcome, od__law_outcome, .func (PySem.W.fnOf "_law_outcome" "_law_outcome" (defArgs s__law_outcome) (defBody s__law_outcome) (defScope s__law_outcome) .none kV__law_outcome dc__law_outcome pm__law_outcome an__law_outcome cd__law_outcome ct__law_outcome), sl__law_outcome⟩)
    (c__law_outcome : PySem.W.codeIn K cd__law_outcome "_law_outcome" = true)
    (k__law_outcome : PySem.W.keepIn K (.ref f__law_outcome) = true)
    (a__law_stations_right : PySem.W.nsIn K mainGlobals "_law_stations_right" = some (some (.ref f__law_stations_right)))
    (l__law_stations_right : K.lookup f__law_stations_right = some ⟨oc__law_stations_right, od__law_stations_right, .func (PySem.W.fnOf "_law_stations_right" "_law_stations_right" (defArgs s__law_stations_right) (defBody s__law_stations_right) (defScope s__law_stations_right) .none kV__law_stations_right dc__law_stations_right pm__law_stations_right an__law_stations_right cd__law_stations_right ct__law_stations_right), sl__law_stations_right⟩)
    (c__law_stations_right : PySem.W.codeIn K cd__law_stations_right "_law_stations_right" = true)
    (k__law_stations_right : PySem.W.keepIn K (.ref f__law_stations_right) = true)
    (a__law_names_right : PySem.W.nsIn K mainGlobals "_law_names_right" = some (some (.ref f__law_names_right)))
    (l__law_names_right : K.lookup f__law_names_right = some ⟨oc__law_names_right, od__law_names_right, .func (PySem.W.fnOf "_law_names_right" "_law_names_right" (defArgs s__law_names_right) (defBody s__law_names_right) (defScope s__law_names_right) .none kV__law_names_right dc__law_names_right pm__law_names_right an__law_names_right cd__law_names_right ct__law_names_right), sl__law_names_right⟩)
    (c__law_names_right : PySem.W.codeIn K cd__law_names_right "_law_names_right" = true)
    (k__law_names_right : PySem.W.keepIn K (.ref f__law_names_right) = true)
    (a__law_named_right : PySem.W.nsIn K mainGlobals "_law_named_right" = some (some (.ref f__law_named_right)))
    (l__law_named_right : K.lookup f__law_named_right = some ⟨oc__law_named_right, od__law_named_right, .func (PySem.W.fnOf "_law_named_right" "_law_named_right" (defArgs s__law_named_right) (defBody s__law_named_right) (defScope s__law_named_right) .none kV__law_named_right dc__law_named_right pm__law_named_right an__law_named_right cd__law_named_right ct__law_named_right), sl__law_named_right⟩)
    (c__law_named_right : PySem.W.codeIn K cd__law_named_right "_law_named_right" = true)
    (k__law_named_right : PySem.W.keepIn K (.ref f__law_named_right) = true)
    (a__law_right : PySem.W.nsIn K mainGlobals "_law_right" = some (some (.ref f__law_right)))
    (l__law_right : K.lookup f__law_right = some ⟨oc__law_right, od__law_right, .func (PySem.W.fnOf "_law_right" "_law_right" (defArgs s__law_right) (defBody s__law_right) (defScope s__law_right) .none kV__law_right dc__law_right pm__law_right an__law_right cd__law_right ct__law_right), sl__law_right⟩)
    (c__law_right : PySem.W.codeIn K cd__law_right "_law_right" = true)
    (k__law_right : PySem.W.keepIn K (.ref f__law_right) = true)
    (a_law : PySem.W.nsIn K mainGlobals "law" = some (some (.ref f_law)))
    (l_law : K.lookup f_law = some ⟨oc_law, od_law, .func (PySem.W.fnOf "law" "law" (defArgs s_law) (defBody s_law) (defScope s_law) .none kV_law dc_law pm_law an_law cd_law ct_law), sl_law⟩)
    (c_law : PySem.W.codeIn K cd_law "law" = true)
    (k_law : PySem.W.keepIn K (.ref f_law) = true)
    (aC : PySem.W.nsIn K mainGlobals "Network" = some (some (.ref C)))
    (a_M_init : PySem.W.findIn K (.ref C) "__init__" = some (some (.ref f_M_init)))
    (i_M_init : PySem.W.isFn K (.ref f_M_init) = true)
    (l_M_init : K.lookup f_M_init = some ⟨oc_M_init, od_M_init, .func (PySem.W.fnOf "__init__" "Network.__init__" (defArgs s_Network___init__) (defBody s_Network___init__) (defScope s_Network___init__) .none kV_M_init dc_M_init pm_M_init an_M_init cd_M_init ct_M_init), sl_M_init⟩)
    (c_M_init : PySem.W.codeIn K cd_M_init "Network.__init__" = true)
    (k_M_init : PySem.W.keepIn K (.ref f_M_init) = true)
    (a_M_len : PySem.W.findIn K (.ref C) "__len__" = some (some (.ref f_M_len)))
    (i_M_len : PySem.W.isFn K (.ref f_M_len) = true)
    (l_M_len : K.lookup f_M_len = some ⟨oc_M_len, od_M_len, .func (PySem.W.fnOf "__len__" "Network.__len__" (defArgs s_Network___len__) (defBody s_Network___len__) (defScope s_Network___len__) .none kV_M_len dc_M_len pm_M_len an_M_len cd_M_len ct_M_len), sl_M_len⟩)
    (c_M_len : PySem.W.codeIn K cd_M_len "Network.__len__" = true)
    (k_M_len : PySem.W.keepIn K (.ref f_M_len) = true)
    (a_M_eq : PySem.W.findIn K (.ref C) "__eq__" = some (some (.ref f_M_eq)))
    (i_M_eq : PySem.W.isFn K (.ref f_M_eq) = true)
    (l_M_eq : K.lookup f_M_eq = some ⟨oc_M_eq, od_M_eq, .func (PySem.W.fnOf "__eq__" "Network.__eq__" (defArgs s_Network___eq__) (defBody s_Network___eq__) (defScope s_Network___eq__) .none kV_M_eq dc_M_eq pm_M_eq an_M_eq cd_M_eq ct_M_eq), sl_M_eq⟩)
    (c_M_eq : PySem.W.codeIn K cd_M_eq "Network.__eq__" = true)
    (k_M_eq : PySem.W.keepIn K (.ref f_M_eq) = true)
    (a_M_links : PySem.W.findIn K (.ref C) "links" = some (some (.ref f_M_links)))
    (i_M_links : PySem.W.isFn K (.ref f_M_links) = true)
    (l_M_links : K.lookup f_M_links = some ⟨oc_M_links, od_M_links, .func (PySem.W.fnOf "links" "Network.links" (defArgs s_Network_links) (defBody s_Network_links) (defScope s_Network_links) .none kV_M_links dc_M_links pm_M_links an_M_links cd_M_links ct_M_links), sl_M_links⟩)
    (c_M_links : PySem.W.codeIn K cd_M_links "Network.links" = true)
    (k_M_links : PySem.W.keepIn K (.ref f_M_links) = true)
    (a_M_check_station : PySem.W.findIn K (.ref C) "check_station" = some (some (.ref f_M_check_station)))
    (i_M_check_station : PySem.W.isFn K (.ref f_M_check_station) = true)
    (l_M_check_station : K.lookup f_M_check_station = some ⟨oc_M_check_station, od_M_check_station, .func (PySem.W.fnOf "check_station" "Network.check_station" (defArgs s_Network_check_station) (defBody s_Network_check_station) (defScope s_Network_check_station) .none kV_M_check_station dc_M_check_station pm_M_check_station an_M_check_station cd_M_check_station ct_M_check_station), sl_M_check_station⟩)
    (c_M_check_station : PySem.W.codeIn K cd_M_check_station "Network.check_station" = true)
    (k_M_check_station : PySem.W.keepIn K (.ref f_M_check_station) = true)
    (pg : PySem.W.plainGet K C Str.empty = true)
    (hd : PySem.W.hasDictIn K C = true)
    (po : PySem.W.plainOver K C = true)
    (sa : PySem.W.findIn K (.ref C) "__setattr__" = some (some (.builtin "object.__setattr__")))
    (mk : PySem.W.makesIn K C = true)
    (kc : PySem.W.keepIn K (.ref C) = true)
    (nK : PySem.W.findIn K (.ref C) "kept" = some none)
    (nN : PySem.W.findIn K (.ref C) "near" = some none)
    (ha : PySem.W.findIn K (.ref C) "__class__" = some (some (.builtin "object.__class__")))
    (hn : PySem.W.specialIn K (.builtin "object.__class__") "__get__" = some (some (.builtin "getset_descriptor.__get__")))
    (ht : PySem.W.takesIn K (.builtin "object.__class__") = some true)
    (hm : PySem.W.mroIn K C (.type "object") = some true)
    (ne : PySem.W.findIn K (.ref C) "__ne__" = some (some (.builtin "object.__ne__")))
    (aB : PySem.W.nsIn K mainGlobals "ChannelError" = some (some (.ref C0)))
    (rdB : PySem.W.readsIn K C0 (.type "type") = true)
    (gaB : PySem.W.specialIn K (.ref C0) "__getattribute__" = some (some (.builtin "type.__getattribute__")))
    (vVB : PySem.W.findCls K (.ref C0) (.type "type") "__init__" = some (.val (.builtin "ValueError.__init__")))
    (aX_NoStation : PySem.W.nsIn K mainGlobals "NoStation" = some (some (.ref C_NoStation)))
    (xL_NoStation : K.lookup C_NoStation = some (excClassObj nm_NoStation q_NoStation C_NoStation N_NoStation bs_NoStation [.ref C0, .type "ValueError", .type "Exception", .type "BaseException", .type "object"] true sn_NoStation sub_NoStation ab_NoStation col_NoStation dd_NoStation m0_NoStation m1_NoStation m2_NoStation m3_NoStation m5_NoStation "ValueError.__new__"))
    (sa_NoStation : PySem.W.findIn K (.ref C_NoStation) "__setattr__" = some (some (.builtin "object.__setattr__")))
    (ga_NoStation : PySem.W.findIn K (.ref C_NoStation) "__getattribute__" = some (some (.builtin "BaseException.__getattribute__")))
    (gg_NoStation : PySem.W.findIn K (.ref C_NoStation) "__getattr__" = some none)
    (nf_NoStation : PySem.W.findIn K (.ref C_NoStation) "station" = some none)
    (aI_NoStation : PySem.W.findIn K (.ref C_NoStation) "__init__" = some (some (.ref f_I_NoStation)))
    (tI_NoStation : PySem.W.typeIn K (.ref f_I_NoStation) = some (.type "function"))
    (l_I_NoStation : K.lookup f_I_NoStation = some ⟨oc_I_NoStation, od_I_NoStation, .func (PySem.W.fnOf "__init__" "NoStation.__init__" (defArgs s_NoStation___init__) (defBody s_NoStation___init__) (defScope s_NoStation___init__) .none kV_I_NoStation dc_I_NoStation pm_I_NoStation an_I_NoStation cd_I_NoStation ct_I_NoStation), sl_I_NoStation⟩)
    (c_I_NoStation : PySem.W.codeIn K cd_I_NoStation "NoStation.__init__" = true)
    (k_I_NoStation : PySem.W.keepIn K (.ref f_I_NoStation) = true)
    (kC_NoStation : PySem.W.keepIn K (.ref C_NoStation) = true)
    (eC_NoStation : PySem.W.subIn K (.ref C_NoStation) (.type "BaseException") = some true)
    (tC_NoStation : PySem.W.typeIn K (.ref C_NoStation) = some (.type "type"))
    (hC_NoStation : PySem.W.hasDictIn K C_NoStation = true)
    (sC_NoStation : PySem.W.subIn K (.ref C_NoStation) (.ref C_NoStation) = some true)
    (aX_NoLink : PySem.W.nsIn K mainGlobals "NoLink" = some (some (.ref C_NoLink)))
    (xL_NoLink : K.lookup C_NoLink = some (excClassObj nm_NoLink q_NoLink C_NoLink N_NoLink bs_NoLink [.ref C0, .type "ValueError", .type "Exception", .type "BaseException", .type "object"] true sn_NoLink sub_NoLink ab_NoLink col_NoLink dd_NoLink m0_NoLink m1_NoLink m2_NoLink m3_NoLink m5_NoLink "ValueError.__new__"))
    (sa_NoLink : PySem.W.findIn K (.ref C_NoLink) "__setattr__" = some (some (.builtin "object.__setattr__")))
    (ga_NoLink : PySem.W.findIn K (.ref C_NoLink) "__getattribute__" = some (some (.builtin "BaseException.__getattribute__")))
    (gg_NoLink : PySem.W.findIn K (.ref C_NoLink) "__getattr__" = some none)
    (nf_NoLink : PySem.W.findIn K (.ref C_NoLink) "link" = some none)
    (aI_NoLink : PySem.W.findIn K (.ref C_NoLink) "__init__" = some (some (.ref f_I_NoLink)))
    (tI_NoLink : PySem.W.typeIn K (.ref f_I_NoLink) = some (.type "function"))
    (l_I_NoLink : K.lookup f_I_NoLink = some ⟨oc_I_NoLink, od_I_NoLink, .func (PySem.W.fnOf "__init__" "NoLink.__init__" (defArgs s_NoLink___init__) (defBody s_NoLink___init__) (defScope s_NoLink___init__) .none kV_I_NoLink dc_I_NoLink pm_I_NoLink an_I_NoLink cd_I_NoLink ct_I_NoLink), sl_I_NoLink⟩)
    (c_I_NoLink : PySem.W.codeIn K cd_I_NoLink "NoLink.__init__" = true)
    (k_I_NoLink : PySem.W.keepIn K (.ref f_I_NoLink) = true)
    (kC_NoLink : PySem.W.keepIn K (.ref C_NoLink) = true)
    (eC_NoLink : PySem.W.subIn K (.ref C_NoLink) (.type "BaseException") = some true)
    (tC_NoLink : PySem.W.typeIn K (.ref C_NoLink) = some (.type "type"))
    (hC_NoLink : PySem.W.hasDictIn K C_NoLink = true)
    (sC_NoLink : PySem.W.subIn K (.ref C_NoLink) (.ref C_NoLink) = some true)
    (aX_NoNames : PySem.W.nsIn K mainGlobals "NoNames" = some (some (.ref C_NoNames)))
    (xL_NoNames : K.lookup C_NoNames = some (excClassObj nm_NoNames q_NoNames C_NoNames N_NoNames bs_NoNames [.ref C0, .type "ValueError", .type "Exception", .type "BaseException", .type "object"] true sn_NoNames sub_NoNames ab_NoNames col_NoNames dd_NoNames m0_NoNames m1_NoNames m2_NoNames m3_NoNames m5_NoNames "ValueError.__new__"))
    (sa_NoNames : PySem.W.findIn K (.ref C_NoNames) "__setattr__" = some (some (.builtin "object.__setattr__")))
    (ga_NoNames : PySem.W.findIn K (.ref C_NoNames) "__getattribute__" = some (some (.builtin "BaseException.__getattribute__")))
    (gg_NoNames : PySem.W.findIn K (.ref C_NoNames) "__getattr__" = some none)
    (nf_NoNames : PySem.W.findIn K (.ref C_NoNames) "index" = some none)
    (aI_NoNames : PySem.W.findIn K (.ref C_NoNames) "__init__" = some (some (.ref f_I_NoNames)))
    (tI_NoNames : PySem.W.typeIn K (.ref f_I_NoNames) = some (.type "function"))
    (l_I_NoNames : K.lookup f_I_NoNames = some ⟨oc_I_NoNames, od_I_NoNames, .func (PySem.W.fnOf "__init__" "NoNames.__init__" (defArgs s_NoNames___init__) (defBody s_NoNames___init__) (defScope s_NoNames___init__) .none kV_I_NoNames dc_I_NoNames pm_I_NoNames an_I_NoNames cd_I_NoNames ct_I_NoNames), sl_I_NoNames⟩)
    (c_I_NoNames : PySem.W.codeIn K cd_I_NoNames "NoNames.__init__" = true)
    (k_I_NoNames : PySem.W.keepIn K (.ref f_I_NoNames) = true)
    (kC_NoNames : PySem.W.keepIn K (.ref C_NoNames) = true)
    (eC_NoNames : PySem.W.subIn K (.ref C_NoNames) (.type "BaseException") = some true)
    (tC_NoNames : PySem.W.typeIn K (.ref C_NoNames) = some (.type "type"))
    (hC_NoNames : PySem.W.hasDictIn K C_NoNames = true)
    (sC_NoNames : PySem.W.subIn K (.ref C_NoNames) (.ref C_NoNames) = some true)
    (aX_NoNetwork : PySem.W.nsIn K mainGlobals "NoNetwork" = some (some (.ref C_NoNetwork)))
    (xL_NoNetwork : K.lookup C_NoNetwork = some (excClassObj nm_NoNetwork q_NoNetwork C_NoNetwork N_NoNetwork bs_NoNetwork [.ref C0, .type "ValueError", .type "Exception", .type "BaseException", .type "object"] true sn_NoNetwork sub_NoNetwork ab_NoNetwork col_NoNetwork dd_NoNetwork m0_NoNetwork m1_NoNetwork m2_NoNetwork m3_NoNetwork m5_NoNetwork "ValueError.__new__"))
    (sa_NoNetwork : PySem.W.findIn K (.ref C_NoNetwork) "__setattr__" = some (some (.builtin "object.__setattr__")))
    (ga_NoNetwork : PySem.W.findIn K (.ref C_NoNetwork) "__getattribute__" = some (some (.builtin "BaseException.__getattribute__")))
    (gg_NoNetwork : PySem.W.findIn K (.ref C_NoNetwork) "__getattr__" = some none)
    (nf_NoNetwork : PySem.W.findIn K (.ref C_NoNetwork) "index" = some none)
    (aI_NoNetwork : PySem.W.findIn K (.ref C_NoNetwork) "__init__" = some (some (.ref f_I_NoNetwork)))
    (tI_NoNetwork : PySem.W.typeIn K (.ref f_I_NoNetwork) = some (.type "function"))
    (l_I_NoNetwork : K.lookup f_I_NoNetwork = some ⟨oc_I_NoNetwork, od_I_NoNetwork, .func (PySem.W.fnOf "__init__" "NoNetwork.__init__" (defArgs s_NoNetwork___init__) (defBody s_NoNetwork___init__) (defScope s_NoNetwork___init__) .none kV_I_NoNetwork dc_I_NoNetwork pm_I_NoNetwork an_I_NoNetwork cd_I_NoNetwork ct_I_NoNetwork), sl_I_NoNetwork⟩)
    (c_I_NoNetwork : PySem.W.codeIn K cd_I_NoNetwork "NoNetwork.__init__" = true)
    (k_I_NoNetwork : PySem.W.keepIn K (.ref f_I_NoNetwork) = true)
    (kC_NoNetwork : PySem.W.keepIn K (.ref C_NoNetwork) = true)
    (eC_NoNetwork : PySem.W.subIn K (.ref C_NoNetwork) (.type "BaseException") = some true)
    (tC_NoNetwork : PySem.W.typeIn K (.ref C_NoNetwork) = some (.type "type"))
    (hC_NoNetwork : PySem.W.hasDictIn K C_NoNetwork = true)
    (sC_NoNetwork : PySem.W.subIn K (.ref C_NoNetwork) (.ref C_NoNetwork) = some true)
    (aX_NoChannel : PySem.W.nsIn K mainGlobals "NoChannel" = some (some (.ref C_NoChannel)))
    (aX_TooMany : PySem.W.nsIn K mainGlobals "TooMany" = some (some (.ref C_TooMany)))
    (aX_NoClosedSet : PySem.W.nsIn K mainGlobals "NoClosedSet" = some (some (.ref C_NoClosedSet)))
    (aX_NoState : PySem.W.nsIn K mainGlobals "NoState" = some (some (.ref C_NoState)))
    (spn : PySem.W.specialIn K (.builtin "object.__class__") "__get__" = some (some (.builtin "getset_descriptor.__get__")))
    (tkn : PySem.W.takesIn K (.builtin "object.__class__") = some true)
    (e0B : PySem.W.subIn K (.ref C0) (.type "BaseException") = some true)
    (h0B : PySem.W.hasDictIn K C0 = true)
    (t0B : PySem.W.typeIn K (.ref C0) = some (.type "type"))
    (cl_NoStation : (PySem.W.clsIn K C_NoStation).isSome = true)
    (hc_NoStation : PySem.W.findIn K (.ref C_NoStation) "__class__" = some (some (.builtin "object.__class__")))
    (mo_NoStation : PySem.W.mroIn K C_NoStation (.type "object") = some true)
    (s0_NoStation : PySem.W.subIn K (.ref C_NoStation) (.ref C0) = some true)
    (kd_NoStation_NoStation : PySem.W.kitOne K (.ref C_NoStation) (.ref C_NoStation) = some true)
    (kd_NoStation_NoNames : PySem.W.kitOne K (.ref C_NoStation) (.ref C_NoNames) = some false)
    (kd_NoStation_NoNetwork : PySem.W.kitOne K (.ref C_NoStation) (.ref C_NoNetwork) = some false)
    (kd_NoStation_NoChannel : PySem.W.kitOne K (.ref C_NoStation) (.ref C_NoChannel) = some false)
    (kd_NoStation_TooMany : PySem.W.kitOne K (.ref C_NoStation) (.ref C_TooMany) = some false)
    (kd_NoStation_NoClosedSet : PySem.W.kitOne K (.ref C_NoStation) (.ref C_NoClosedSet) = some false)
    (kd_NoStation_NoState : PySem.W.kitOne K (.ref C_NoStation) (.ref C_NoState) = some false)
    (kd_NoStation_NoLink : PySem.W.kitOne K (.ref C_NoStation) (.ref C_NoLink) = some false)
    (cl_NoNames : (PySem.W.clsIn K C_NoNames).isSome = true)
    (hc_NoNames : PySem.W.findIn K (.ref C_NoNames) "__class__" = some (some (.builtin "object.__class__")))
    (mo_NoNames : PySem.W.mroIn K C_NoNames (.type "object") = some true)
    (s0_NoNames : PySem.W.subIn K (.ref C_NoNames) (.ref C0) = some true)
    (kd_NoNames_NoStation : PySem.W.kitOne K (.ref C_NoNames) (.ref C_NoStation) = some false)
    (kd_NoNames_NoNames : PySem.W.kitOne K (.ref C_NoNames) (.ref C_NoNames) = some true)
    (kd_NoNames_NoNetwork : PySem.W.kitOne K (.ref C_NoNames) (.ref C_NoNetwork) = some false)
    (kd_NoNames_NoChannel : PySem.W.kitOne K (.ref C_NoNames) (.ref C_NoChannel) = some false)
    (kd_NoNames_TooMany : PySem.W.kitOne K (.ref C_NoNames) (.ref C_TooMany) = some false)
    (kd_NoNames_NoClosedSet : PySem.W.kitOne K (.ref C_NoNames) (.ref C_NoClosedSet) = some false)
    (kd_NoNames_NoState : PySem.W.kitOne K (.ref C_NoNames) (.ref C_NoState) = some false)
    (kd_NoNames_NoLink : PySem.W.kitOne K (.ref C_NoNames) (.ref C_NoLink) = some false)
    (cl_NoNetwork : (PySem.W.clsIn K C_NoNetwork).isSome = true)
    (hc_NoNetwork : PySem.W.findIn K (.ref C_NoNetwork) "__class__" = some (some (.builtin "object.__class__")))
    (mo_NoNetwork : PySem.W.mroIn K C_NoNetwork (.type "object") = some true)
    (s0_NoNetwork : PySem.W.subIn K (.ref C_NoNetwork) (.ref C0) = some true)
    (kd_NoNetwork_NoStation : PySem.W.kitOne K (.ref C_NoNetwork) (.ref C_NoStation) = some false)
    (kd_NoNetwork_NoNames : PySem.W.kitOne K (.ref C_NoNetwork) (.ref C_NoNames) = some false)
    (kd_NoNetwork_NoNetwork : PySem.W.kitOne K (.ref C_NoNetwork) (.ref C_NoNetwork) = some true)
    (kd_NoNetwork_NoChannel : PySem.W.kitOne K (.ref C_NoNetwork) (.ref C_NoChannel) = some false)
    (kd_NoNetwork_TooMany : PySem.W.kitOne K (.ref C_NoNetwork) (.ref C_TooMany) = some false)
    (kd_NoNetwork_NoClosedSet : PySem.W.kitOne K (.ref C_NoNetwork) (.ref C_NoClosedSet) = some false)
    (kd_NoNetwork_NoState : PySem.W.kitOne K (.ref C_NoNetwork) (.ref C_NoState) = some false)
    (kd_NoNetwork_NoLink : PySem.W.kitOne K (.ref C_NoNetwork) (.ref C_NoLink) = some false)
    (tb__law_stations_right : PySem.W.tabIn K "_law_stations_right" = some (cA__law_stations_right, Pt__law_stations_right))
    (ch__law_stations_right : PySem.W.codeHdIn K cA__law_stations_right Pt__law_stations_right = true)
    (nP__law_stations_right : K.lookup Pt__law_stations_right = none)
    (ec__law_stations_right : cd__law_stations_right = Value.ref cA__law_stations_right)
    (gP__law_stations_right : h.get? Pt__law_stations_right = some { cls := .none, data := .fields #[] })
    (tb__law_names_right : PySem.W.tabIn K "_law_names_right" = some (cA__law_names_right, Pt__law_names_right))
    (ch__law_names_right : PySem.W.codeHdIn K cA__law_names_right Pt__law_names_right = true)
    (nP__law_names_right : K.lookup Pt__law_names_right = none)
    (ec__law_names_right : cd__law_names_right = Value.ref cA__law_names_right)
    (gP__law_names_right : h.get? Pt__law_names_right = some { cls := .none, data := .fields #[] })
    (tb_law : PySem.W.tabIn K "law" = some (cA_law, Pt_law))
    (ch_law : PySem.W.codeHdIn K cA_law Pt_law = true)
    (nP_law : K.lookup Pt_law = none)
    (ec_law : cd_law = Value.ref cA_law)
    (gP_law : h.get? Pt_law = some { cls := .none, data := .fields #[] })
    (kv_NoStation : PySem.W.kitOne K (.ref C_NoStation) (.type "ValueError") = some true)
    (kv_NoNames : PySem.W.kitOne K (.ref C_NoNames) (.type "ValueError") = some true)
    (kv_NoNetwork : PySem.W.kitOne K (.ref C_NoNetwork) (.type "ValueError") = some true)
    (ndPt : [Pt__law_stations_right, Pt__law_names_right, Pt_law].Nodup) : LawTG l w K 14 mg fa h := by
  have e := hfa.symm.trans (PySem.W.mg_of X G a_law)
  cases e
  have T : Txt mg := ⟨PySem.W.mg_none_of X G z_ValueError, PySem.W.mg_none_of X G z_all, PySem.W.mg_none_of X G z_bool, PySem.W.mg_none_of X G z_enumerate, PySem.W.mg_none_of X G z_int, PySem.W.mg_none_of X G z_isinstance, PySem.W.mg_none_of X G z_len, PySem.W.mg_none_of X G z_list, PySem.W.mg_none_of X G z_max, PySem.W.mg_none_of X G z_min, PySem.W.mg_none_of X G z_range, PySem.W.mg_none_of X G z_repr, PySem.W.mg_none_of X G z_set, PySem.W.mg_none_of X G z_sorted, PySem.W.mg_none_of X G z_tuple, ⟨_, PySem.W.mg_of X G v_MAX_STATIONS⟩⟩
  subst ec__law_stations_right
  subst ec__law_names_right
  subst ec_law
  have F_is_int := fun_mk (st := s_is_int) l_is_int c_is_int k_is_int
  have g_is_int := PySem.W.mg_of X G a_is_int
  have b_is_int := F_is_int.binds (ps := ["value"]) fun _ _ _ _ _ _ us hl => match us, hl with | [_], _ => rfl
  have F_is_link := fun_mk (st := s_is_link) l_is_link c_is_link k_is_link
  have g_is_link := PySem.W.mg_of X G a_is_link
  have b_is_link := F_is_link.binds (ps := ["value", "stations"]) fun _ _ _ _ _ _ us hl => match us, hl with | [_, _], _ => rfl
  have F_link_of := fun_mk (st := s_link_of) l_link_of c_link_of k_link_of
  have g_link_of := PySem.W.mg_of X G a_link_of
  have b_link_of := F_link_of.binds (ps := ["network", "one", "other"]) fun _ _ _ _ _ _ us hl => match us, hl with | [_, _, _], _ => rfl
  have F_linked := fun_mk (st := s_linked) l_linked c_linked k_linked
  have g_linked := PySem.W.mg_of X G a_linked
  have b_linked := F_linked.binds (ps := ["network", "one", "other"]) fun _ _ _ _ _ _ us hl => match us, hl with | [_, _, _], _ => rfl
  have F_unlinked := fun_mk (st := s_unlinked) l_unlinked c_unlinked k_unlinked
  have g_unlinked := PySem.W.mg_of X G a_unlinked
  have b_unlinked := F_unlinked.binds (ps := ["network", "one", "other"]) fun _ _ _ _ _ _ us hl => match us, hl with | [_, _, _], _ => rfl
  have F_side_by_side := fun_mk (st := s_side_by_side) l_side_by_side c_side_by_side k_side_by_side
  have g_side_by_side := PySem.W.mg_of X G a_side_by_side
  have b_side_by_side := F_side_by_side.binds (ps := ["network", "other"]) fun _ _ _ _ _ _ us hl => match us, hl with | [_, _], _ => rfl
  have F_renamed := fun_mk (st := s_renamed) l_renamed c_renamed k_renamed
  have g_renamed := PySem.W.mg_of X G a_renamed
  have b_renamed := F_renamed.binds (ps := ["network", "names"]) fun _ _ _ _ _ _ us hl => match us, hl with | [_, _], _ => rfl
  have F_without := fun_mk (st := s_without) l_without c_without k_without
  have g_without := PySem.W.mg_of X G a_without
  have b_without := F_without.binds (ps := ["network", "station"]) fun _ _ _ _ _ _ us hl => match us, hl with | [_, _], _ => rfl
  have F__law_well := fun_mk (st := s__law_well) l__law_well c__law_well k__law_well
  have g__law_well := PySem.W.mg_of X G a__law_well
  have b__law_well := F__law_well.binds (ps := ["_law_cell", "_law_turn"]) fun _ _ _ _ _ _ us hl => match us, hl with | [_, _], _ => rfl
  have F__law_take := fun_mk (st := s__law_take) l__law_take c__law_take k__law_take
  have g__law_take := PySem.W.mg_of X G a__law_take
  have b__law_take := F__law_take.binds (ps := ["_law_well_here", "_law_bound"]) fun _ _ _ _ _ _ us hl => match us, hl with | [_, _], _ => rfl
  have F__law_mixed := fun_mk (st := s__law_mixed) l__law_mixed c__law_mixed k__law_mixed
  have g__law_mixed := PySem.W.mg_of X G a__law_mixed
  have b__law_mixed := F__law_mixed.binds (ps := ["_law_well_here", "_law_some"]) fun _ _ _ _ _ _ us hl => match us, hl with | [_, _], _ => rfl
  have F__law_links := fun_mk (st := s__law_links) l__law_links c__law_links k__law_links
  have g__law_links := PySem.W.mg_of X G a__law_links
  have b__law_links := F__law_links.binds (ps := ["_law_well_here", "_law_size"]) fun _ _ _ _ _ _ us hl => match us, hl with | [_, _], _ => rfl
  have F__law_outcome := fun_mk (st := s__law_outcome) l__law_outcome c__law_outcome k__law_outcome
  have g__law_outcome := PySem.W.mg_of X G a__law_outcome
  have b__law_outcome := F__law_outcome.binds (ps := ["_law_ask"]) fun _ _ _ _ _ _ us hl => match us, hl with | [_], _ => rfl
  have F__law_stations_right := fun_mk (st := s__law_stations_right) l__law_stations_right c__law_stations_right k__law_stations_right
  have g__law_stations_right := PySem.W.mg_of X G a__law_stations_right
  have b__law_stations_right := F__law_stations_right.binds (ps := ["_law_well_here", "_law_web", "_law_size"]) fun _ _ _ _ _ _ us hl => match us, hl with | [_, _, _], _ => rfl
  have F__law_names_right := fun_mk (st := s__law_names_right) l__law_names_right c__law_names_right k__law_names_right
  have g__law_names_right := PySem.W.mg_of X G a__law_names_right
  have b__law_names_right := F__law_names_right.binds (ps := ["_law_well_here", "_law_web", "_law_size"]) fun _ _ _ _ _ _ us hl => match us, hl with | [_, _, _], _ => rfl
  have F__law_named_right := fun_mk (st := s__law_named_right) l__law_named_right c__law_named_right k__law_named_right
  have g__law_named_right := PySem.W.mg_of X G a__law_named_right
  have b__law_named_right := F__law_named_right.binds (ps := ["_law_well_here", "_law_web", "_law_size"]) fun _ _ _ _ _ _ us hl => match us, hl with | [_, _, _], _ => rfl
  have F__law_right := fun_mk (st := s__law_right) l__law_right c__law_right k__law_right
  have g__law_right := PySem.W.mg_of X G a__law_right
  have b__law_right := F__law_right.binds (ps := ["_law_well_here"]) fun _ _ _ _ _ _ us hl => match us, hl with | [_], _ => rfl
  have F_law := fun_mk (st := s_law) l_law c_law k_law
  have g_law := PySem.W.mg_of X G a_law
  have hC := PySem.W.mg_of X G aC
  have NC : NetC K C := ⟨⟨pg, hd, po, sa⟩, nK, nN, ha, hn, ht, hm, if_pos (beq_self_eq_true _), ne⟩
  have F_M_init := fun_mk (st := s_Network___init__) l_M_init c_M_init k_M_init
  have b_M_init := F_M_init.binds (ps := ["self", "stations", "links"]) fun _ _ _ _ _ _ us hl => match us, hl with | [_, _, _], _ => rfl
  have F_M_len := fun_mk (st := s_Network___len__) l_M_len c_M_len k_M_len
  have b_M_len := F_M_len.binds (ps := ["self"]) fun _ _ _ _ _ _ us hl => match us, hl with | [_], _ => rfl
  have F_M_eq := fun_mk (st := s_Network___eq__) l_M_eq c_M_eq k_M_eq
  have b_M_eq := F_M_eq.binds (ps := ["self", "other"]) fun _ _ _ _ _ _ us hl => match us, hl with | [_, _], _ => rfl
  have F_M_links := fun_mk (st := s_Network_links) l_M_links c_M_links k_M_links
  have b_M_links := F_M_links.binds (ps := ["self"]) fun _ _ _ _ _ _ us hl => match us, hl with | [_], _ => rfl
  have F_M_check_station := fun_mk (st := s_Network_check_station) l_M_check_station c_M_check_station k_M_check_station
  have b_M_check_station := F_M_check_station.binds (ps := ["self", "station"]) fun _ _ _ _ _ _ us hl => match us, hl with | [_, _], _ => rfl
  have BC : BaseC K C0 := ⟨rdB, gaB, vVB⟩
  have m_ChannelError := PySem.W.mg_of X G aB
  have m_NoStation := PySem.W.mg_of X G aX_NoStation
  have OX_NoStation : OexC K C_NoStation := ⟨⟨_, _, _, _, _, _, _, _, _, _, _, _, _, _, _, xL_NoStation, rfl⟩, sa_NoStation, eC_NoStation, tC_NoStation, kC_NoStation⟩
  have F_I_NoStation := fun_mk (st := s_NoStation___init__) l_I_NoStation c_I_NoStation k_I_NoStation
  have b_I_NoStation := F_I_NoStation.binds (ps := ["self", "station"]) fun _ _ _ _ _ _ us hl => match us, hl with | [_, _], _ => rfl
  have XF_NoStation : XfC K C_NoStation := ⟨ga_NoStation, gg_NoStation, eC_NoStation, hC_NoStation⟩
  have te_NoStation : PySem.W.exmOne K (.ref C_NoStation) (.ref C_NoStation) = some true := PySem.W.exm_ref eC_NoStation hC_NoStation tC_NoStation sC_NoStation
  have m_NoLink := PySem.W.mg_of X G aX_NoLink
  have OX_NoLink : OexC K C_NoLink := ⟨⟨_, _, _, _, _, _, _, _, _, _, _, _, _, _, _, xL_NoLink, rfl⟩, sa_NoLink, eC_NoLink, tC_NoLink, kC_NoLink⟩
  have F_I_NoLink := fun_mk (st := s_NoLink___init__) l_I_NoLink c_I_NoLink k_I_NoLink
  have b_I_NoLink := F_I_NoLink.binds (ps := ["self", "link"]) fun _ _ _ _ _ _ us hl => match us, hl with | [_, _], _ => rfl
  have XF_NoLink : XfC K C_NoLink := ⟨ga_NoLink, gg_NoLink, eC_NoLink, hC_NoLink⟩
  have te_NoLink : PySem.W.exmOne K (.ref C_NoLink) (.ref C_NoLink) = some true := PySem.W.exm_ref eC_NoLink hC_NoLink tC_NoLink sC_NoLink
  have m_NoNames := PySem.W.mg_of X G aX_NoNames
  have OX_NoNames : OexC K C_NoNames := ⟨⟨_, _, _, _, _, _, _, _, _, _, _, _, _, _, _, xL_NoNames, rfl⟩, sa_NoNames, eC_NoNames, tC_NoNames, kC_NoNames⟩
  have F_I_NoNames := fun_mk (st := s_NoNames___init__) l_I_NoNames c_I_NoNames k_I_NoNames
  have b_I_NoNames := F_I_NoNames.binds (ps := ["self", "index"]) fun _ _ _ _ _ _ us hl => match us, hl with | [_, _], _ => rfl
  have XF_NoNames : XfC K C_NoNames := ⟨ga_NoNames, gg_NoNames, eC_NoNames, hC_NoNames⟩
  have te_NoNames : PySem.W.exmOne K (.ref C_NoNames) (.ref C_NoNames) = some true := PySem.W.exm_ref eC_NoNames hC_NoNames tC_NoNames sC_NoNames
  have m_NoNetwork := PySem.W.mg_of X G aX_NoNetwork
  have OX_NoNetwork : OexC K C_NoNetwork := ⟨⟨_, _, _, _, _, _, _, _, _, _, _, _, _, _, _, xL_NoNetwork, rfl⟩, sa_NoNetwork, eC_NoNetwork, tC_NoNetwork, kC_NoNetwork⟩
  have F_I_NoNetwork := fun_mk (st := s_NoNetwork___init__) l_I_NoNetwork c_I_NoNetwork k_I_NoNetwork
  have b_I_NoNetwork := F_I_NoNetwork.binds (ps := ["self", "index"]) fun _ _ _ _ _ _ us hl => match us, hl with | [_, _], _ => rfl
  have XF_NoNetwork : XfC K C_NoNetwork := ⟨ga_NoNetwork, gg_NoNetwork, eC_NoNetwork, hC_NoNetwork⟩
  have te_NoNetwork : PySem.W.exmOne K (.ref C_NoNetwork) (.ref C_NoNetwork) = some true := PySem.W.exm_ref eC_NoNetwork hC_NoNetwork tC_NoNetwork sC_NoNetwork
  have m_NoChannel := PySem.W.mg_of X G aX_NoChannel
  have m_TooMany := PySem.W.mg_of X G aX_TooMany
  have m_NoClosedSet := PySem.W.mg_of X G aX_NoClosedSet
  have m_NoState := PySem.W.mg_of X G aX_NoState
  have ED_NoStation : ExcD K C_NoStation := ⟨cl_NoStation, ga_NoStation, gg_NoStation, eC_NoStation, hc_NoStation, spn, tkn, mo_NoStation⟩
  have tB_NoStation : PySem.W.exmOne K (.ref C_NoStation) (.ref C0) = some true := PySem.W.exm_ref e0B h0B t0B s0_NoStation
  have ED_NoNames : ExcD K C_NoNames := ⟨cl_NoNames, ga_NoNames, gg_NoNames, eC_NoNames, hc_NoNames, spn, tkn, mo_NoNames⟩
  have tB_NoNames : PySem.W.exmOne K (.ref C_NoNames) (.ref C0) = some true := PySem.W.exm_ref e0B h0B t0B s0_NoNames
  have ED_NoNetwork : ExcD K C_NoNetwork := ⟨cl_NoNetwork, ga_NoNetwork, gg_NoNetwork, eC_NoNetwork, hc_NoNetwork, spn, tkn, mo_NoNetwork⟩
  have tB_NoNetwork : PySem.W.exmOne K (.ref C_NoNetwork) (.ref C0) = some true := PySem.W.exm_ref e0B h0B t0B s0_NoNetwork
  have FC__law_stations_right : FunC K "_law_stations_right" "_law_stations_right" s__law_stations_right _ _ cA__law_stations_right := ⟨⟨_, _, _, _, _, _, _, _, rfl, l__law_stations_right, c__law_stations_right⟩⟩
  have FC__law_names_right : FunC K "_law_names_right" "_law_names_right" s__law_names_right _ _ cA__law_names_right := ⟨⟨_, _, _, _, _, _, _, _, rfl, l__law_names_right, c__law_names_right⟩⟩
  have FC_law : FunC K "law" "law" s_law _ _ cA_law := ⟨⟨_, _, _, _, _, _, _, _, rfl, l_law, c_law⟩⟩
  refine ⟨PySem.W.fnOf "law" "law" (defArgs s_law) (defBody s_law) (defScope s_law) .none kV_law dc_law pm_law an_law (.ref cA_law) ct_law, [(cA__law_stations_right, Pt__law_stations_right), (cA__law_names_right, Pt__law_names_right), (cA_law, Pt_law)],
    spLawT K [(Pt__law_stations_right, qS cA__law_stations_right), (Pt__law_names_right, qN cA__law_names_right), (Pt_law, qL cA_law)], ?_, ?_, ?_, fun s v => .of_eq rfl, fun H a ns hl hT hS => ⟨a, ns, rfl, hS, hl, ?_, fun _ => rfl⟩, fun base _ _ hTB => ?_⟩
  · intro p hp
    rcases List.mem_cons.mp hp with rfl | hp
    · exact gP__law_stations_right
    rcases List.mem_cons.mp hp with rfl | hp
    · exact gP__law_names_right
    rw [List.mem_singleton.mp hp]
    exact gP_law
  · intro p hp
    rcases List.mem_cons.mp hp with rfl | hp
    · exact nP__law_stations_right
    rcases List.mem_cons.mp hp with rfl | hp
    · exact nP__law_names_right
    rw [List.mem_singleton.mp hp]
    exact nP_law
  · intro p hp
    rcases List.mem_cons.mp hp with rfl | hp
    · exact PySem.W.codeHd_of_K X ch__law_stations_right
    rcases List.mem_cons.mp hp with rfl | hp
    · exact PySem.W.codeHd_of_K X ch__law_names_right
    rw [List.mem_singleton.mp hp]
    exact PySem.W.codeHd_of_K X ch_law
  · intro p hp
    rcases List.mem_cons.mp hp with rfl | hp
    · exact hT (cA__law_stations_right, Pt__law_stations_right) (.head _)
    rcases List.mem_cons.mp hp with rfl | hp
    · exact hT (cA__law_names_right, Pt__law_names_right) (.tail _ (.head _))
    rw [List.mem_singleton.mp hp]
    exact hT (cA_law, Pt_law) (.tail _ (.tail _ (.head _)))
  have TBs := hTB (cA__law_stations_right, Pt__law_stations_right) (.head _)
  have TBn := hTB (cA__law_names_right, Pt__law_names_right) (.tail _ (.head _))
  have TBl := hTB (cA_law, Pt_law) (.tail _ (.tail _ (.head _)))
  have X_NoStation : Exn l.prog w K mg base "NoStation" C_NoStation "station" := ⟨_, _, m_NoStation, OX_NoStation, aI_NoStation, tI_NoStation, fn_up (ok_ini_NoStation F_I_NoStation m_ChannelError BC nf_NoStation), b_I_NoStation⟩
  have X_NoLink : Exn l.prog w K mg base "NoLink" C_NoLink "link" := ⟨_, _, m_NoLink, OX_NoLink, aI_NoLink, tI_NoLink, fn_up (ok_ini_NoLink F_I_NoLink m_ChannelError BC nf_NoLink), b_I_NoLink⟩
  have X_NoNames : Exn l.prog w K mg base "NoNames" C_NoNames "index" := ⟨_, _, m_NoNames, OX_NoNames, aI_NoNames, tI_NoNames, fn_up (ok_ini_NoNames F_I_NoNames m_ChannelError BC nf_NoNames), b_I_NoNames⟩
  have X_NoNetwork : Exn l.prog w K mg base "NoNetwork" C_NoNetwork "index" := ⟨_, _, m_NoNetwork, OX_NoNetwork, aI_NoNetwork, tI_NoNetwork, fn_up (ok_ini_NoNetwork F_I_NoNetwork m_ChannelError BC nf_NoNetwork), b_I_NoNetwork⟩
  have K8_NoStation : Kind8 K C0 (cs8 C_NoStation C_NoChannel C_TooMany C_NoClosedSet C_NoLink C_NoNames C_NoNetwork C_NoState) C_NoStation 0 := ⟨by decide, XF_NoStation, nf_NoStation, ED_NoStation, tB_NoStation, kd8 kd_NoStation_NoStation kd_NoStation_NoChannel kd_NoStation_TooMany kd_NoStation_NoClosedSet kd_NoStation_NoLink kd_NoStation_NoNames kd_NoStation_NoNetwork kd_NoStation_NoState, kv_NoStation⟩
  have K8_NoNames : Kind8 K C0 (cs8 C_NoStation C_NoChannel C_TooMany C_NoClosedSet C_NoLink C_NoNames C_NoNetwork C_NoState) C_NoNames 5 := ⟨by decide, XF_NoNames, nf_NoNames, ED_NoNames, tB_NoNames, kd8 kd_NoNames_NoStation kd_NoNames_NoChannel kd_NoNames_TooMany kd_NoNames_NoClosedSet kd_NoNames_NoLink kd_NoNames_NoNames kd_NoNames_NoNetwork kd_NoNames_NoState, kv_NoNames⟩
  have K8_NoNetwork : Kind8 K C0 (cs8 C_NoStation C_NoChannel C_TooMany C_NoClosedSet C_NoLink C_NoNames C_NoNetwork C_NoState) C_NoNetwork 6 := ⟨by decide, XF_NoNetwork, nf_NoNetwork, ED_NoNetwork, tB_NoNetwork, kd8 kd_NoNetwork_NoStation kd_NoNetwork_NoChannel kd_NoNetwork_TooMany kd_NoNetwork_NoClosedSet kd_NoNetwork_NoLink kd_NoNetwork_NoNames kd_NoNetwork_NoNetwork kd_NoNetwork_NoState, kv_NoNetwork⟩
  have O_is_int : FnOk l.prog w K mg base (L2.CX l.prog w) 1 _ _ _ _ := fn_up (ok_is_int F_is_int T)
  have c_is_int := mkCal O_is_int g_is_int F_is_int.kp b_is_int
  have O_is_link : FnOk l.prog w K mg base (L2.CX l.prog w) 2 _ _ _ _ := fn_up (ok_is_link F_is_link T c_is_int)
  have c_is_link := mkCal O_is_link g_is_link F_is_link.kp b_is_link
  have O_init : FnOk l.prog w K mg base (L2.CX l.prog w) 3 _ _ _ _ := fn_up (ok_init F_M_init T NC c_is_int c_is_link)
  have c_Network : Cnw l.prog w K mg base 3 "Network" C ["self", "stations", "links"] (spInit C) := ⟨_, _, ⟨mk, a_M_init, i_M_init, kc⟩, O_init, hC, b_M_init⟩
  have M_len : Mth l.prog w K mg base 1 C "__len__" ["self"] (spLen C) := ⟨_, _, ⟨a_M_len, i_M_len, F_M_len.kp⟩, fn_up (ok_len F_M_len T NC), b_M_len⟩
  have M_eq : Mth l.prog w K mg base 3 C "__eq__" ["self", "other"] (spEqN C) := ⟨_, _, ⟨a_M_eq, i_M_eq, F_M_eq.kp⟩, fn_up (ok_eq F_M_eq T NC hC M_len), b_M_eq⟩
  have M_links : Mth l.prog w K mg base 1 C "links" ["self"] (spLinks C) := ⟨_, _, ⟨a_M_links, i_M_links, F_M_links.kp⟩, fn_up (ok_links F_M_links T NC), b_M_links⟩
  have M_chk : Mth l.prog w K mg base 2 C "check_station" ["self", "station"] (spChk C) := ⟨_, _, ⟨a_M_check_station, i_M_check_station, F_M_check_station.kp⟩, fn_up (ok_chk F_M_check_station T NC c_is_int), b_M_check_station⟩
  have M_chkX : Mth l.prog w K mg base 3 C "check_station" ["self", "station"] (spChkX C C_NoStation) := ⟨_, _, ⟨a_M_check_station, i_M_check_station, F_M_check_station.kp⟩, ok_chkX F_M_check_station T NC c_is_int X_NoStation, b_M_check_station⟩
  have c_linkOf := mkCal (ok_linkOf F_link_of T NC M_chk X_NoLink) g_link_of F_link_of.kp b_link_of
  have c_linkOfX := mkCal (ok_linkOfX F_link_of T NC M_chkX X_NoLink) g_link_of F_link_of.kp b_link_of
  have O_linked := ok_linked F_linked T NC M_len M_links c_Network c_linkOf X_NoLink
  have c_linked := mkCal O_linked g_linked F_linked.kp b_linked
  have c_linkedX := mkCal (ok_linkedX F_linked T NC M_len M_links c_Network c_linkOfX X_NoLink) g_linked F_linked.kp b_linked
  have O_unlinked := ok_unlinked F_unlinked T NC M_len M_links c_Network c_linkOf X_NoLink
  have c_unlinked := mkCal O_unlinked g_unlinked F_unlinked.kp b_unlinked
  have c_unlinkedX := mkCal (ok_unlinkedX F_unlinked T NC M_len M_links c_Network c_linkOfX X_NoLink) g_unlinked F_unlinked.kp b_unlinked
  have O_side := ok_side F_side_by_side T NC M_len M_links c_Network X_NoNetwork
  have c_side := mkCal O_side g_side_by_side F_side_by_side.kp b_side_by_side
  have O_ren : FnOk l.prog w K mg base (L2.CX l.prog w) 5 _ _ _ _ := fn_up (ok_ren F_renamed T NC c_is_int M_len M_links c_Network)
  have c_ren := mkCal O_ren g_renamed F_renamed.kp b_renamed
  have c_renX := mkCal (ok_renX F_renamed T NC c_is_int M_len M_links c_Network X_NoNames) g_renamed F_renamed.kp b_renamed
  have O_wo : FnOk l.prog w K mg base (L2.CX l.prog w) 5 _ _ _ _ := fn_up (ok_wo F_without T NC M_len M_links M_chk c_Network)
  have c_wo := mkCal O_wo g_without F_without.kp b_without
  have c_woX := mkCal (ok_woX F_without T NC M_len M_links M_chkX c_Network X_NoNetwork) g_without F_without.kp b_without
  have k_renamed : CalK l.prog w K mg base 5 "renamed" ["network", "names"] 0 ["names", "network"] (fun vs zs => vs ++ zs.reverse) (spRen K C) :=
    mkCalK O_ren g_renamed F_renamed.kp (fun_kbn (g := fun us ws => us ++ ws.reverse) F_renamed (fun r1 r2 => r1.append (Vals.reverse r2)) (fun kV doc pm an cdv ct us ws h1 h2 => match us, h1, ws, h2 with | [], _, [_, _], _ => rfl))
  have k_side_by_side : CalK l.prog w K mg base 5 "side_by_side" ["network", "other"] 0 ["other", "network"] (fun vs zs => vs ++ zs.reverse) (spSide C C_NoNetwork) :=
    mkCalK O_side g_side_by_side F_side_by_side.kp (fun_kbn (g := fun us ws => us ++ ws.reverse) F_side_by_side (fun r1 r2 => r1.append (Vals.reverse r2)) (fun kV doc pm an cdv ct us ws h1 h2 => match us, h1, ws, h2 with | [], _, [_, _], _ => rfl))
  have k_without : CalK l.prog w K mg base 5 "without" ["network", "station"] 0 ["station", "network"] (fun vs zs => vs ++ zs.reverse) (spWo C) :=
    mkCalK O_wo g_without F_without.kp (fun_kbn (g := fun us ws => us ++ ws.reverse) F_without (fun r1 r2 => r1.append (Vals.reverse r2)) (fun kV doc pm an cdv ct us ws h1 h2 => match us, h1, ws, h2 with | [], _, [_, _], _ => rfl))
  have k_unlinked : CalK l.prog w K mg base 5 "unlinked" ["network", "one", "other"] 0 ["other", "one", "network"] (fun vs zs => vs ++ zs.reverse) (spUnlinked C C_NoLink) :=
    mkCalK O_unlinked g_unlinked F_unlinked.kp (fun_kbn (g := fun us ws => us ++ ws.reverse) F_unlinked (fun r1 r2 => r1.append (Vals.reverse r2)) (fun kV doc pm an cdv ct us ws h1 h2 => match us, h1, ws, h2 with | [], _, [_, _, _], _ => rfl))
  have k_linked : CalK l.prog w K mg base 5 "linked" ["network", "one", "other"] 0 ["other", "one", "network"] (fun vs zs => vs ++ zs.reverse) (spLinked C C_NoLink) :=
    mkCalK O_linked g_linked F_linked.kp (fun_kbn (g := fun us ws => us ++ ws.reverse) F_linked (fun r1 r2 => r1.append (Vals.reverse r2)) (fun kV doc pm an cdv ct us ws h1 h2 => match us, h1, ws, h2 with | [], _, [_, _, _], _ => rfl))
  have O__law_well : FnOk l.prog w K mg base (L2.CX l.prog w) 1 _ _ _ _ := fn_up (ok_well F__law_well T)
  have c__law_well := mkCal O__law_well g__law_well F__law_well.kp b__law_well
  have O__law_take : FnOk l.prog w K mg base (L2.CX l.prog w) 1 _ _ _ _ := fn_up (ok_take F__law_take)
  have c__law_take := mkCal O__law_take g__law_take F__law_take.kp b__law_take
  have O__law_mixed : FnOk l.prog w K mg base (L2.CX l.prog w) 2 _ _ _ _ := fn_up (ok_mixed F__law_mixed T c__law_take)
  have c__law_mixed := mkCal O__law_mixed g__law_mixed F__law_mixed.kp b__law_mixed
  have O__law_links : FnOk l.prog w K mg base (L2.CX l.prog w) 3 _ _ _ _ := fn_up (ok_linksT F__law_links T c__law_take c__law_mixed)
  have c__law_links := mkCal O__law_links g__law_links F__law_links.kp b__law_links
  have L_out : LamDefG l.prog w K mg base "_law_outcome" "_law_ask" (OutT K C0 (cs8 C_NoStation C_NoChannel C_TooMany C_NoClosedSet C_NoLink C_NoNames C_NoNetwork C_NoState)) := by
    refine ⟨_, _, _, _, _, _, _, _, _, _, _, _, g__law_outcome, k__law_outcome, l__law_outcome, c__law_outcome, b__law_outcome, sc__law_outcome, rfl, by first | exact Or.inl rfl | exact Or.inr (Or.inl rfl), ?_⟩
    intro X' q _ _ hKe hme _ hgd hun
    subst hKe hme
    exact out_gives T m_ChannelError ⟨m_NoStation, m_NoChannel, m_TooMany, m_NoClosedSet, m_NoLink, m_NoNames, m_NoNetwork, m_NoState⟩ hgd hun
  have c_st : CalG l.prog w K mg base 12 "_law_stations_right" ["_law_well_here", "_law_web", "_law_size"] (spPart C [(Pt__law_stations_right, qS cA__law_stations_right), (Pt__law_names_right, qN cA__law_names_right), (Pt_law, qL cA_law)]) := ⟨_, _, ok_stR (TS := [(Pt__law_stations_right, qS cA__law_stations_right), (Pt__law_names_right, qN cA__law_names_right), (Pt_law, qL cA_law)]) FC__law_stations_right T NC TBs (.head _) ndPt K8_NoStation L_out c__law_take c_linkedX c_unlinkedX c_woX, g__law_stations_right, F__law_stations_right.kp, b__law_stations_right⟩
  have c_nm : CalG l.prog w K mg base 12 "_law_names_right" ["_law_well_here", "_law_web", "_law_size"] (spPart C [(Pt__law_stations_right, qS cA__law_stations_right), (Pt__law_names_right, qN cA__law_names_right), (Pt_law, qL cA_law)]) := ⟨_, _, ok_nmR (TS := [(Pt__law_stations_right, qS cA__law_stations_right), (Pt__law_names_right, qN cA__law_names_right), (Pt_law, qL cA_law)]) FC__law_names_right T NC TBn (.tail _ (.head _)) ndPt K8_NoNames L_out c__law_take c__law_mixed c_renX, g__law_names_right, F__law_names_right.kp, b__law_names_right⟩
  have O_nd : FnOk l.prog w K mg base (L2.CX l.prog w) 7 _ _ _ _ := fn_up (ok_ndR F__law_named_right T NC M_eq M_links c_Network c__law_take c__law_mixed c_ren k_renamed c_side k_side_by_side c_wo k_without c_unlinked k_unlinked c_linked k_linked)
  have c_nd := mkCal O_nd g__law_named_right F__law_named_right.kp b__law_named_right
  have c_right : CalG l.prog w K mg base 13 "_law_right" ["_law_well_here"] (spRight [(Pt__law_stations_right, qS cA__law_stations_right), (Pt__law_names_right, qN cA__law_names_right), (Pt_law, qL cA_law)]) := ⟨_, _, ok_right F__law_right T NC c_Network c__law_take c__law_links c_st c_nm c_nd, g__law_right, F__law_right.kp, b__law_right⟩
  exact ok_law (TS := [(Pt__law_stations_right, qS cA__law_stations_right), (Pt__law_names_right, qN cA__law_names_right), (Pt_law, qL cA_law)]) FC_law T NC TBl (.tail _ (.tail _ (.head _))) ndPt K8_NoNetwork L_out c__law_well c_right c_Network c_woX
end NX
open PySem PySem.W PyProof.Rows in
set_option maxRecDepth 100000 in
set_option maxHeartbeats 0 in
theorem PySem.Challenge.cw_nextchannel_k54_invalid_changes_holds : PySem.Challenge.rw_nextchannel_k54_invalid_changes.Holds := by
  w_on; o_law; k_head; (case hw => w_witness2)
  k_fill
  refine NX.walkTG (l := PySem.Challenge.rw_nextchannel_k54_invalid_changes) (k := 14) rfl rfl ⟨rfl, by decide, by decide⟩ (fun w h Y => PySem.W.km_in_of Y) ?F
  case F =>
    intro w mg fa h Y KX G hmg
    have hT := PySem.W.km_tabs_of Y
    refine' NX.all_mk KX G hmg ?h_z_ValueError ?h_z_all ?h_z_bool ?h_z_enumerate ?h_z_int ?h_z_isinstance ?h_z_len ?h_z_list ?h_z_max ?h_z_min ?h_z_range ?h_z_repr ?h_z_set ?h_z_sorted ?h_z_tuple ?h_v_MAX_STATIONS ?h_a_is_int ?h_l_is_int ?h_c_is_int ?h_k_is_int ?h_a_is_link ?h_l_is_link ?h_c_is_link ?h_k_is_link ?h_a_link_of ?h_l_link_of ?h_c_link_of ?h_k_link_of ?h_a_linked ?h_l_linked ?h_c_linked ?h_k_linked ?h_a_unlinked ?h_l_unlinked ?h_c_unlinked ?h_k_unlinked ?h_a_side_by_side ?h_l_side_by_side ?h_c_side_by_side ?h_k_side_by_side ?h_a_renamed ?h_l_renamed ?h_c_renamed ?h_k_renamed ?h_a_without ?h_l_without ?h_c_without ?h_k_without ?h_a__law_well ?h_l__law_well ?h_c__law_well ?h_k__law_well ?h_a__law_take ?h_l__law_take ?h_c__law_take ?h_k__law_take ?h_a__law_mixed ?h_l__law_mixed ?h_c__law_mixed ?h_k__law_mixed ?h_a__law_links ?h_l__law_links ?h_c__law_links ?h_k__law_links ?h_a__law_outcome ?h_l__law_outcome ?h_c__law_outcome ?h_k__law_outcome ?h_a__law_stations_right ?h_l__law_stations_right ?h_c__law_stations_right ?h_k__law_stations_right ?h_a__law_names_right ?h_l__law_names_right ?h_c__law_names_right ?h_k__law_names_right ?h_a__law_named_right ?h_l__law_named_right ?h_c__law_named_right ?h_k__law_named_right ?h_a__law_right ?h_l__law_right ?h_c__law_right ?h_k__law_right ?h_a_law ?h_l_law ?h_c_law ?h_k_law ?h_aC ?h_a_M_init ?h_i_M_init ?h_l_M_init ?h_c_M_init ?h_k_M_init ?h_a_M_len ?h_i_M_len ?h_l_M_len ?h_c_M_len ?h_k_M_len ?h_a_M_eq ?h_i_M_eq ?h_l_M_eq ?h_c_M_eq ?h_k_M_eq ?h_a_M_links ?h_i_M_links ?h_l_M_links ?h_c_M_links ?h_k_M_links ?h_a_M_check_station ?h_i_M_check_station ?h_l_M_check_station ?h_c_M_check_station ?h_k_M_check_station ?h_pg ?h_hd ?h_po ?h_sa ?h_mk ?h_kc ?h_nK ?h_nN ?h_ha ?h_hn ?h_ht ?h_hm ?h_ne ?h_aB ?h_rdB ?h_gaB ?h_vVB ?h_aX_NoStation ?h_xL_NoStation ?h_sa_NoStation ?h_ga_NoStation ?h_gg_NoStation ?h_nf_NoStation ?h_aI_NoStation ?h_tI_NoStation ?h_l_I_NoStation ?h_c_I_NoStation ?h_k_I_NoStation ?h_kC_NoStation ?h_eC_NoStation ?h_tC_NoStation ?h_hC_NoStation ?h_sC_NoStation ?h_aX_NoLink ?h_xL_NoLink ?h_sa_NoLink ?h_ga_NoLink ?h_gg_NoLink ?h_nf_NoLink ?h_aI_NoLink ?h_tI_NoLink ?h_l_I_NoLink ?h_c_I_NoLink ?h_k_I_NoLink ?h_kC_NoLink ?h_eC_NoLink ?h_tC_NoLink ?h_hC_NoLink ?h_sC_NoLink ?h_aX_NoNames ?h_xL_NoNames ?h_sa_NoNames ?h_ga_NoNames ?h_gg_NoNames ?h_nf_NoNames ?h_aI_NoNames ?h_tI_NoNames ?h_l_I_NoNames ?h_c_I_NoNames ?h_k_I_NoNames ?h_kC_NoNames ?h_eC_NoNames ?h_tC_NoNames ?h_hC_NoNames ?h_sC_NoNames ?h_aX_NoNetwork ?h_xL_NoNetwork ?h_sa_NoNetwork ?h_ga_NoNetwork ?h_gg_NoNetwork ?h_nf_NoNetwork ?h_aI_NoNetwork ?h_tI_NoNetwork ?h_l_I_NoNetwork ?h_c_I_NoNetwork ?h_k_I_NoNetwork ?h_kC_NoNetwork ?h_eC_NoNetwork ?h_tC_NoNetwork ?h_hC_NoNetwork ?h_sC_NoNetwork ?h_aX_NoChannel ?h_aX_TooMany ?h_aX_NoClosedSet ?h_aX_NoState ?h_spn ?h_tkn ?h_e0B ?h_h0B ?h_t0B ?h_cl_NoStation ?h_hc_NoStation ?h_mo_NoStation ?h_s0_NoStation ?h_kd_NoStation_NoStation ?h_kd_NoStation_NoNames ?h_kd_NoStation_NoNetwork ?h_kd_NoStation_NoChannel ?h_kd_NoStation_TooMany ?h_kd_NoStation_NoClosedSet ?h_kd_NoStation_NoState ?h_kd_NoStation_NoLink ?h_cl_NoNames ?h_hc_NoNames ?h_mo_NoNames ?h_s0_NoNames ?h_kd_NoNames_NoStation ?h_kd_NoNames_NoNames ?h_kd_NoNames_NoNetwork ?h_kd_NoNames_NoChannel ?h_kd_NoNames_TooMany ?h_kd_NoNames_NoClosedSet ?h_kd_NoNames_NoState ?h_kd_NoNames_NoLink ?h_cl_NoNetwork ?h_hc_NoNetwork ?h_mo_NoNetwork ?h_s0_NoNetwork ?h_kd_NoNetwork_NoStation ?h_kd_NoNetwork_NoNames ?h_kd_NoNetwork_NoNetwork ?h_kd_NoNetwork_NoChannel ?h_kd_NoNetwork_TooMany ?h_kd_NoNetwork_NoClosedSet ?h_kd_NoNetwork_NoState ?h_kd_NoNetwork_NoLink ?h_tb__law_stations_right ?h_ch__law_stations_right ?h_nP__law_stations_right ?h_ec__law_stations_right ?h_gP__law_stations_right ?h_tb__law_names_right ?h_ch__law_names_right ?h_nP__law_names_right ?h_ec__law_names_right ?h_gP__law_names_right ?h_tb_law ?h_ch_law ?h_nP_law ?h_ec_law ?h_gP_law ?h_kv_NoStation ?h_kv_NoNames ?h_kv_NoNetwork ?h_ndPt
    (case h_z_ValueError => first | k_is | rfl | exact if_pos (beq_self_eq_true _) | exact hT _ (by decide) | decide)
    (case h_z_all => first | k_is | rfl | exact if_pos (beq_self_eq_true _) | exact hT _ (by decide) | decide)
    (case h_z_bool => first | k_is | rfl | exact if_pos (beq_self_eq_true _) | exact hT _ (by decide) | decide)
    (case h_z_enumerate => first | k_is | rfl | exact if_pos (beq_self_eq_true _) | exact hT _ (by decide) | decide)
    (case h_z_int => first | k_is | rfl | exact if_pos (beq_self_eq_true _) | exact hT _ (by decide) | decide)
    (case h_z_isinstance => first | k_is | rfl | exact if_pos (beq_self_eq_true _) | exact hT _ (by decide) | decide)
    (case h_z_len => first | k_is | rfl | exact if_pos (beq_self_eq_true _) | exact hT _ (by decide) | decide)
    (case h_z_list => first | k_is | rfl | exact if_pos (beq_self_eq_true _) | exact hT _ (by decide) | decide)
    (case h_z_max => first | k_is | rfl | exact if_pos (beq_self_eq_true _) | exact hT _ (by decide) | decide)
    (case h_z_min => first | k_is | rfl | exact if_pos (beq_self_eq_true _) | exact hT _ (by decide) | decide)
    (case h_z_range => first | k_is | rfl | exact if_pos (beq_self_eq_true _) | exact hT _ (by decide) | decide)
    (case h_z_repr => first | k_is | rfl | exact if_pos (beq_self_eq_true _) | exact hT _ (by decide) | decide)
    (case h_z_set => first | k_is | rfl | exact if_pos (beq_self_eq_true _) | exact hT _ (by decide) | decide)
    (case h_z_sorted => first | k_is | rfl | exact if_pos (beq_self_eq_true _) | exact hT _ (by decide) | decide)
    (case h_z_tuple => first | k_is | rfl | exact if_pos (beq_self_eq_true _) | exact hT _ (by decide) | decide)
    (case h_v_MAX_STATIONS => first | k_is | rfl | exact if_pos (beq_self_eq_true _) | exact hT _ (by decide) | decide)
    (case h_a_is_int => first | k_is | rfl | exact if_pos (beq_self_eq_true _) | exact hT _ (by decide) | decide)
    (case h_l_is_int => first | k_is | rfl | exact if_pos (beq_self_eq_true _) | exact hT _ (by decide) | decide)
    (case h_c_is_int => first | k_is | rfl | exact if_pos (beq_self_eq_true _) | exact hT _ (by decide) | decide)
    (case h_k_is_int => first | k_is | rfl | exact if_pos (beq_self_eq_true _) | exact hT _ (by decide) | decide)
    (case h_a_is_link => first | k_is | rfl | exact if_pos (beq_self_eq_true _) | exact hT _ (by decide) | decide)
    (case h_l_is_link => first | k_is | rfl | exact if_pos (beq_self_eq_true _) | exact hT _ (by decide) | decide)
    (case h_c_is_link => first | k_is | rfl | exact if_pos (beq_self_eq_true _) | exact hT _ (by decide) | decide)
    (case h_k_is_link => first | k_is | rfl | exact if_pos (beq_self_eq_true _) | exact hT _ (by decide) | decide)
    (case h_a_link_of => first | k_is | rfl | exact if_pos (beq_self_eq_true _) | exact hT _ (by decide) | decide)
    (case h_l_link_of => first | k_is | rfl | exact if_pos (beq_self_eq_true _) | exact hT _ (by decide) | decide)
    (case h_c_link_of => first | k_is | rfl | exact if_pos (beq_self_eq_true _) | exact hT _ (by decide) | decide)
    (case h_k_link_of => first | k_is | rfl | exact if_pos (beq_self_eq_true _) | exact hT _ (by decide) | decide)
    (case h_a_linked => first | k_is | rfl | exact if_pos (beq_self_eq_true _) | exact hT _ (by decide) | decide)
    (case h_l_linked => first | k_is | rfl | exact if_pos (beq_self_eq_true _) | exact hT _ (by decide) | decide)
    (case h_c_linked => first | k_is | rfl | exact if_pos (beq_self_eq_true _) | exact hT _ (by decide) | decide)
    (case h_k_linked => first | k_is | rfl | exact if_pos (beq_self_eq_true _) | exact hT _ (by decide) | decide)
    (case h_a_unlinked => first | k_is | rfl | exact if_pos (beq_self_eq_true _) | exact hT _ (by decide) | decide)
    (case h_l_unlinked => first | k_is | rfl | exact if_pos (beq_self_eq_true _) | exact hT _ (by decide) | decide)
    (case h_c_unlinked => first | k_is | rfl | exact if_pos (beq_self_eq_true _) | exact hT _ (by decide) | decide)
    (case h_k_unlinked => first | k_is | rfl | exact if_pos (beq_self_eq_true _) | exact hT _ (by decide) | decide)
    (case h_a_side_by_side => first | k_is | rfl | exact if_pos (beq_self_eq_true _) | exact hT _ (by decide) | decide)
    (case h_l_side_by_side => first | k_is | rfl | exact if_pos (beq_self_eq_true _) | exact hT _ (by decide) | decide)
    (case h_c_side_by_side => first | k_is | rfl | exact if_pos (beq_self_eq_true _) | exact hT _ (by decide) | decide)
    (case h_k_side_by_side => first | k_is | rfl | exact if_pos (beq_self_eq_true _) | exact hT _ (by decide) | decide)
    (case h_a_renamed => first | k_is | rfl | exact if_pos (beq_self_eq_true _) | exact hT _ (by decide) | decide)
    (case h_l_renamed => first | k_is | rfl | exact if_pos (beq_self_eq_true _) | exact hT _ (by decide) | decide)
    (case h_c_renamed => first | k_is | rfl | exact if_pos (beq_self_eq_true _) | exact hT _ (by decide) | decide)
    (case h_k_renamed => first | k_is | rfl | exact if_pos (beq_self_eq_true _) | exact hT _ (by decide) | decide)
    (case h_a_without => first | k_is | rfl | exact if_pos (beq_self_eq_true _) | exact hT _ (by decide) | decide)
    (case h_l_without => first | k_is | rfl | exact if_pos (beq_self_eq_true _) | exact hT _ (by decide) | decide)
    (case h_c_without => first | k_is | rfl | exact if_pos (beq_self_eq_true _) | exact hT _ (by decide) | decide)
    (case h_k_without => first | k_is | rfl | exact if_pos (beq_self_eq_true _) | exact hT _ (by decide) | decide)
    (case h_a__law_well => first | k_is | rfl | exact if_pos (beq_self_eq_true _) | exact hT _ (by decide) | decide)
    (case h_l__law_well => first | k_is | rfl | exact if_pos (beq_self_eq_true _) | exact hT _ (by decide) | decide)
    (case h_c__law_well => first | k_is | rfl | exact if_pos (beq_self_eq_true _) | exact hT _ (by decide) | decide)
    (case h_k__law_well => first | k_is | rfl | exact if_pos (beq_self_eq_true _) | exact hT _ (by decide) | decide)
    (case h_a__law_take => first | k_is | rfl | exact if_pos (beq_self_eq_true _) | exact hT _ (by decide) | decide)
    (case h_l__law_take => first | k_is | rfl | exact if_pos (beq_self_eq_true _) | exact hT _ (by decide) | decide)
    (case h_c__law_take => first | k_is | rfl | exact if_pos (beq_self_eq_true _) | exact hT _ (by decide) | decide)
    (case h_k__law_take => first | k_is | rfl | exact if_pos (beq_self_eq_true _) | exact hT _ (by decide) | decide)
    (case h_a__law_mixed => first | k_is | rfl | exact if_pos (beq_self_eq_true _) | exact hT _ (by decide) | decide)
    (case h_l__law_mixed => first | k_is | rfl | exact if_pos (beq_self_eq_true _) | exact hT _ (by decide) | decide)
    (case h_c__law_mixed => first | k_is | rfl | exact if_pos (beq_self_eq_true _) | exact hT _ (by decide) | decide)
    (case h_k__law_mixed => first | k_is | rfl | exact if_pos (beq_self_eq_true _) | exact hT _ (by decide) | decide)
    (case h_a__law_links => first | k_is | rfl | exact if_pos (beq_self_eq_true _) | exact hT _ (by decide) | decide)
    (case h_l__law_links => first | k_is | rfl | exact if_pos (beq_self_eq_true _) | exact hT _ (by decide) | decide)
    (case h_c__law_links => first | k_is | rfl | exact if_pos (beq_self_eq_true _) | exact hT _ (by decide) | decide)
    (case h_k__law_links => first | k_is | rfl | exact if_pos (beq_self_eq_true _) | exact hT _ (by decide) | decide)
    (case h_a__law_outcome => first | k_is | rfl | exact if_pos (beq_self_eq_true _) | exact hT _ (by decide) | decide)
    (case h_l__law_outcome => first | k_is | rfl | exact if_pos (beq_self_eq_true _) | exact hT _ (by decide) | decide)
    (case h_c__law_outcome => first | k_is | rfl | exact if_pos (beq_self_eq_true _) | exact hT _ (by decide) | decide)
    (case h_k__law_outcome => first | k_is | rfl | exact if_pos (beq_self_eq_true _) | exact hT _ (by decide) | decide)
    (case h_a__law_stations_right => first | k_is | rfl | exact if_pos (beq_self_eq_true _) | exact hT _ (by decide) | decide)
    (case h_l__law_stations_right => first | k_is | rfl | exact if_pos (beq_self_eq_true _) | exact hT _ (by decide) | decide)
    (case h_c__law_stations_right => first | k_is | rfl | exact if_pos (beq_self_eq_true _) | exact hT _ (by decide) | decide)
    (case h_k__law_stations_right => first | k_is | rfl | exact if_pos (beq_self_eq_true _) | exact hT _ (by decide) | decide)
    (case h_a__law_names_right => first | k_is | rfl | exact if_pos (beq_self_eq_true _) | exact hT _ (by decide) | decide)
    (case h_l__law_names_right => first | k_is | rfl | exact if_pos (beq_self_eq_true _) | exact hT _ (by decide) | decide)
    (case h_c__law_names_right => first | k_is | rfl | exact if_pos (beq_self_eq_true _) | exact hT _ (by decide) | decide)
    (case h_k__law_names_right => first | k_is | rfl | exact if_pos (beq_self_eq_true _) | exact hT _ (by decide) | decide)
    (case h_a__law_named_right => first | k_is | rfl | exact if_pos (beq_self_eq_true _) | exact hT _ (by decide) | decide)
    (case h_l__law_named_right => first | k_is | rfl | exact if_pos (beq_self_eq_true _) | exact hT _ (by decide) | decide)
    (case h_c__law_named_right => first | k_is | rfl | exact if_pos (beq_self_eq_true _) | exact hT _ (by decide) | decide)
    (case h_k__law_named_right => first | k_is | rfl | exact if_pos (beq_self_eq_true _) | exact hT _ (by decide) | decide)
    (case h_a__law_right => first | k_is | rfl | exact if_pos (beq_self_eq_true _) | exact hT _ (by decide) | decide)
    (case h_l__law_right => first | k_is | rfl | exact if_pos (beq_self_eq_true _) | exact hT _ (by decide) | decide)
    (case h_c__law_right => first | k_is | rfl | exact if_pos (beq_self_eq_true _) | exact hT _ (by decide) | decide)
    (case h_k__law_right => first | k_is | rfl | exact if_pos (beq_self_eq_true _) | exact hT _ (by decide) | decide)
    (case h_a_law => first | k_is | rfl | exact if_pos (beq_self_eq_true _) | exact hT _ (by decide) | decide)
    (case h_l_law => first | k_is | rfl | exact if_pos (beq_self_eq_true _) | exact hT _ (by decide) | decide)
    (case h_c_law => first | k_is | rfl | exact if_pos (beq_self_eq_true _) | exact hT _ (by decide) | decide)
    (case h_k_law => first | k_is | rfl | exact if_pos (beq_self_eq_true _) | exact hT _ (by decide) | decide)
    (case h_aC => first | k_is | rfl | exact if_pos (beq_self_eq_true _) | exact hT _ (by decide) | decide)
    (case h_a_M_init => first | k_is | rfl | exact if_pos (beq_self_eq_true _) | exact hT _ (by decide) | decide)
    (case h_i_M_init => first | k_is | rfl | exact if_pos (beq_self_eq_true _) | exact hT _ (by decide) | decide)
    (case h_l_M_init => first | k_is | rfl | exact if_pos (beq_self_eq_true _) | exact hT _ (by decide) | decide)
    (case h_c_M_init => first | k_is | rfl | exact if_pos (beq_self_eq_true _) | exact hT _ (by decide) | decide)
    (case h_k_M_init => first | k_is | rfl | exact if_pos (beq_self_eq_true _) | exact hT _ (by decide) | decide)
    (case h_a_M_len => first | k_is | rfl | exact if_pos (beq_self_eq_true _) | exact hT _ (by decide) | decide)
    (case h_i_M_len => first | k_is | rfl | exact if_pos (beq_self_eq_true _) | exact hT _ (by decide) | decide)
    (case h_l_M_len => first | k_is | rfl | exact if_pos (beq_self_eq_true _) | exact hT _ (by decide) | decide)
    (case h_c_M_len => first | k_is | rfl | exact if_pos (beq_self_eq_true _) | exact hT _ (by decide) | decide)
    (case h_k_M_len => first | k_is | rfl | exact if_pos (beq_self_eq_true _) | exact hT _ (by decide) | decide)
    (case h_a_M_eq => first | k_is | rfl | exact if_pos (beq_self_eq_true _) | exact hT _ (by decide) | decide)
    (case h_i_M_eq => first | k_is | rfl | exact if_pos (beq_self_eq_true _) | exact hT _ (by decide) | decide)
    (case h_l_M_eq => first | k_is | rfl | exact if_pos (beq_self_eq_true _) | exact hT _ (by decide) | decide)
    (case h_c_M_eq => first | k_is | rfl | exact if_pos (beq_self_eq_true _) | exact hT _ (by decide) | decide)
    (case h_k_M_eq => first | k_is | rfl | exact if_pos (beq_self_eq_true _) | exact hT _ (by decide) | decide)
    (case h_a_M_links => first | k_is | rfl | exact if_pos (beq_self_eq_true _) | exact hT _ (by decide) | decide)
    (case h_i_M_links => first | k_is | rfl | exact if_pos (beq_self_eq_true _) | exact hT _ (by decide) | decide)
    (case h_l_M_links => first | k_is | rfl | exact if_pos (beq_self_eq_true _) | exact hT _ (by decide) | decide)
    (case h_c_M_links => first | k_is | rfl | exact if_pos (beq_self_eq_true _) | exact hT _ (by decide) | decide)
    (case h_k_M_links => first | k_is | rfl | exact if_pos (beq_self_eq_true _) | exact hT _ (by decide) | decide)
    (case h_a_M_check_station => first | k_is | rfl | exact if_pos (beq_self_eq_true _) | exact hT _ (by decide) | decide)
    (case h_i_M_check_station => first | k_is | rfl | exact if_pos (beq_self_eq_true _) | exact hT _ (by decide) | decide)
    (case h_l_M_check_station => first | k_is | rfl | exact if_pos (beq_self_eq_true _) | exact hT _ (by decide) | decide)
    (case h_c_M_check_station => first | k_is | rfl | exact if_pos (beq_self_eq_true _) | exact hT _ (by decide) | decide)
    (case h_k_M_check_station => first | k_is | rfl | exact if_pos (beq_self_eq_true _) | exact hT _ (by decide) | decide)
    (case h_pg => first | k_is | rfl | exact if_pos (beq_self_eq_true _) | exact hT _ (by decide) | decide)
    (case h_hd => first | k_is | rfl | exact if_pos (beq_self_eq_true _) | exact hT _ (by decide) | decide)
    (case h_po => first | k_is | rfl | exact if_pos (beq_self_eq_true _) | exact hT _ (by decide) | decide)
    (case h_sa => first | k_is | rfl | exact if_pos (beq_self_eq_true _) | exact hT _ (by decide) | decide)
    (case h_mk => first | k_is | rfl | exact if_pos (beq_self_eq_true _) | exact hT _ (by decide) | decide)
    (case h_kc => first | k_is | rfl | exact if_pos (beq_self_eq_true _) | exact hT _ (by decide) | decide)
    (case h_nK => first | k_is | rfl | exact if_pos (beq_self_eq_true _) | exact hT _ (by decide) | decide)
    (case h_nN => first | k_is | rfl | exact if_pos (beq_self_eq_true _) | exact hT _ (by decide) | decide)
    (case h_ha => first | k_is | rfl | exact if_pos (beq_self_eq_true _) | exact hT _ (by decide) | decide)
    (case h_hn => first | k_is | rfl | exact if_pos (beq_self_eq_true _) | exact hT _ (by decide) | decide)
    (case h_ht => first | k_is | rfl | exact if_pos (beq_self_eq_true _) | exact hT _ (by decide) | decide)
    (case h_hm => first | k_is | rfl | exact if_pos (beq_self_eq_true _) | exact hT _ (by decide) | decide)
    (case h_ne => first | k_is | rfl | exact if_pos (beq_self_eq_true _) | exact hT _ (by decide) | decide)
    (case h_aB => first | k_is | rfl | exact if_pos (beq_self_eq_true _) | exact hT _ (by decide) | decide)
    (case h_rdB => first | k_is | rfl | exact if_pos (beq_self_eq_true _) | exact hT _ (by decide) | decide)
    (case h_gaB => first | k_is | rfl | exact if_pos (beq_self_eq_true _) | exact hT _ (by decide) | decide)
    (case h_vVB => first | k_is | rfl | exact if_pos (beq_self_eq_true _) | exact hT _ (by decide) | decide)
    (case h_aX_NoStation => first | k_is | rfl | exact if_pos (beq_self_eq_true _) | exact hT _ (by decide) | decide)
    (case h_xL_NoStation => first | k_is | rfl | exact if_pos (beq_self_eq_true _) | exact hT _ (by decide) | decide)
    (case h_sa_NoStation => first | k_is | rfl | exact if_pos (beq_self_eq_true _) | exact hT _ (by decide) | decide)
    (case h_ga_NoStation => first | k_is | rfl | exact if_pos (beq_self_eq_true _) | exact hT _ (by decide) | decide)
    (case h_gg_NoStation => first | k_is | rfl | exact if_pos (beq_self_eq_true _) | exact hT _ (by decide) | decide)
    (case h_nf_NoStation => first | k_is | rfl | exact if_pos (beq_self_eq_true _) | exact hT _ (by decide) | decide)
    (case h_aI_NoStation => first | k_is | rfl | exact if_pos (beq_self_eq_true _) | exact hT _ (by decide) | decide)
    (case h_tI_NoStation => first | k_is | rfl | exact if_pos (beq_self_eq_true _) | exact hT _ (by decide) | decide)
    (case h_l_I_NoStation => first | k_is | rfl | exact if_pos (beq_self_eq_true _) | exact hT _ (by decide) | decide)
    (case h_c_I_NoStation => first | k_is | rfl | exact if_pos (beq_self_eq_true _) | exact hT _ (by decide) | decide)
    (case h_k_I_NoStation => first | k_is | rfl | exact if_pos (beq_self_eq_true _) | exact hT _ (by decide) | decide)
    (case h_kC_NoStation => first | k_is | rfl | exact if_pos (beq_self_eq_true _) | exact hT _ (by decide) | decide)
    (case h_eC_NoStation => first | k_is | rfl | exact if_pos (beq_self_eq_true _) | exact hT _ (by decide) | decide)
    (case h_tC_NoStation => first | k_is | rfl | exact if_pos (beq_self_eq_true _) | exact hT _ (by decide) | decide)
    (case h_hC_NoStation => first | k_is | rfl | exact if_pos (beq_self_eq_true _) | exact hT _ (by decide) | decide)
    (case h_sC_NoStation => first | k_is | rfl | exact if_pos (beq_self_eq_true _) | exact hT _ (by decide) | decide)
    (case h_aX_NoLink => first | k_is | rfl | exact if_pos (beq_self_eq_true _) | exact hT _ (by decide) | decide)
    (case h_xL_NoLink => first | k_is | rfl | exact if_pos (beq_self_eq_true _) | exact hT _ (by decide) | decide)
    (case h_sa_NoLink => first | k_is | rfl | exact if_pos (beq_self_eq_true _) | exact hT _ (by decide) | decide)
    (case h_ga_NoLink => first | k_is | rfl | exact if_pos (beq_self_eq_true _) | exact hT _ (by decide) | decide)
    (case h_gg_NoLink => first | k_is | rfl | exact if_pos (beq_self_eq_true _) | exact hT _ (by decide) | decide)
    (case h_nf_NoLink => first | k_is | rfl | exact if_pos (beq_self_eq_true _) | exact hT _ (by decide) | decide)
    (case h_aI_NoLink => first | k_is | rfl | exact if_pos (beq_self_eq_true _) | exact hT _ (by decide) | decide)
    (case h_tI_NoLink => first | k_is | rfl | exact if_pos (beq_self_eq_true _) | exact hT _ (by decide) | decide)
    (case h_l_I_NoLink => first | k_is | rfl | exact if_pos (beq_self_eq_true _) | exact hT _ (by decide) | decide)
    (case h_c_I_NoLink => first | k_is | rfl | exact if_pos (beq_self_eq_true _) | exact hT _ (by decide) | decide)
    (case h_k_I_NoLink => first | k_is | rfl | exact if_pos (beq_self_eq_true _) | exact hT _ (by decide) | decide)
    (case h_kC_NoLink => first | k_is | rfl | exact if_pos (beq_self_eq_true _) | exact hT _ (by decide) | decide)
    (case h_eC_NoLink => first | k_is | rfl | exact if_pos (beq_self_eq_true _) | exact hT _ (by decide) | decide)
    (case h_tC_NoLink => first | k_is | rfl | exact if_pos (beq_self_eq_true _) | exact hT _ (by decide) | decide)
    (case h_hC_NoLink => first | k_is | rfl | exact if_pos (beq_self_eq_true _) | exact hT _ (by decide) | decide)
    (case h_sC_NoLink => first | k_is | rfl | exact if_pos (beq_self_eq_true _) | exact hT _ (by decide) | decide)
    (case h_aX_NoNames => first | k_is | rfl | exact if_pos (beq_self_eq_true _) | exact hT _ (by decide) | decide)
    (case h_xL_NoNames => first | k_is | rfl | exact if_pos (beq_self_eq_true _) | exact hT _ (by decide) | decide)
    (case h_sa_NoNames => first | k_is | rfl | exact if_pos (beq_self_eq_true _) | exact hT _ (by decide) | decide)
    (case h_ga_NoNames => first | k_is | rfl | exact if_pos (beq_self_eq_true _) | exact hT _ (by decide) | decide)
    (case h_gg_NoNames => first | k_is | rfl | exact if_pos (beq_self_eq_true _) | exact hT _ (by decide) | decide)
    (case h_nf_NoNames => first | k_is | rfl | exact if_pos (beq_self_eq_true _) | exact hT _ (by decide) | decide)
    (case h_aI_NoNames => first | k_is | rfl | exact if_pos (beq_self_eq_true _) | exact hT _ (by decide) | decide)
    (case h_tI_NoNames => first | k_is | rfl | exact if_pos (beq_self_eq_true _) | exact hT _ (by decide) | decide)
    (case h_l_I_NoNames => first | k_is | rfl | exact if_pos (beq_self_eq_true _) | exact hT _ (by decide) | decide)
    (case h_c_I_NoNames => first | k_is | rfl | exact if_pos (beq_self_eq_true _) | exact hT _ (by decide) | decide)
    (case h_k_I_NoNames => first | k_is | rfl | exact if_pos (beq_self_eq_true _) | exact hT _ (by decide) | decide)
    (case h_kC_NoNames => first | k_is | rfl | exact if_pos (beq_self_eq_true _) | exact hT _ (by decide) | decide)
    (case h_eC_NoNames => first | k_is | rfl | exact if_pos (beq_self_eq_true _) | exact hT _ (by decide) | decide)
    (case h_tC_NoNames => first | k_is | rfl | exact if_pos (beq_self_eq_true _) | exact hT _ (by decide) | decide)
    (case h_hC_NoNames => first | k_is | rfl | exact if_pos (beq_self_eq_true _) | exact hT _ (by decide) | decide)
    (case h_sC_NoNames => first | k_is | rfl | exact if_pos (beq_self_eq_true _) | exact hT _ (by decide) | decide)
    (case h_aX_NoNetwork => first | k_is | rfl | exact if_pos (beq_self_eq_true _) | exact hT _ (by decide) | decide)
    (case h_xL_NoNetwork => first | k_is | rfl | exact if_pos (beq_self_eq_true _) | exact hT _ (by decide) | decide)
    (case h_sa_NoNetwork => first | k_is | rfl | exact if_pos (beq_self_eq_true _) | exact hT _ (by decide) | decide)
    (case h_ga_NoNetwork => first | k_is | rfl | exact if_pos (beq_self_eq_true _) | exact hT _ (by decide) | decide)
    (case h_gg_NoNetwork => first | k_is | rfl | exact if_pos (beq_self_eq_true _) | exact hT _ (by decide) | decide)
    (case h_nf_NoNetwork => first | k_is | rfl | exact if_pos (beq_self_eq_true _) | exact hT _ (by decide) | decide)
    (case h_aI_NoNetwork => first | k_is | rfl | exact if_pos (beq_self_eq_true _) | exact hT _ (by decide) | decide)
    (case h_tI_NoNetwork => first | k_is | rfl | exact if_pos (beq_self_eq_true _) | exact hT _ (by decide) | decide)
    (case h_l_I_NoNetwork => first | k_is | rfl | exact if_pos (beq_self_eq_true _) | exact hT _ (by decide) | decide)
    (case h_c_I_NoNetwork => first | k_is | rfl | exact if_pos (beq_self_eq_true _) | exact hT _ (by decide) | decide)
    (case h_k_I_NoNetwork => first | k_is | rfl | exact if_pos (beq_self_eq_true _) | exact hT _ (by decide) | decide)
    (case h_kC_NoNetwork => first | k_is | rfl | exact if_pos (beq_self_eq_true _) | exact hT _ (by decide) | decide)
    (case h_eC_NoNetwork => first | k_is | rfl | exact if_pos (beq_self_eq_true _) | exact hT _ (by decide) | decide)
    (case h_tC_NoNetwork => first | k_is | rfl | exact if_pos (beq_self_eq_true _) | exact hT _ (by decide) | decide)
    (case h_hC_NoNetwork => first | k_is | rfl | exact if_pos (beq_self_eq_true _) | exact hT _ (by decide) | decide)
    (case h_sC_NoNetwork => first | k_is | rfl | exact if_pos (beq_self_eq_true _) | exact hT _ (by decide) | decide)
    (case h_aX_NoChannel => first | k_is | rfl | exact if_pos (beq_self_eq_true _) | exact hT _ (by decide) | decide)
    (case h_aX_TooMany => first | k_is | rfl | exact if_pos (beq_self_eq_true _) | exact hT _ (by decide) | decide)
    (case h_aX_NoClosedSet => first | k_is | rfl | exact if_pos (beq_self_eq_true _) | exact hT _ (by decide) | decide)
    (case h_aX_NoState => first | k_is | rfl | exact if_pos (beq_self_eq_true _) | exact hT _ (by decide) | decide)
    (case h_spn => first | k_is | rfl | exact if_pos (beq_self_eq_true _) | exact hT _ (by decide) | decide)
    (case h_tkn => first | k_is | rfl | exact if_pos (beq_self_eq_true _) | exact hT _ (by decide) | decide)
    (case h_e0B => first | k_is | rfl | exact if_pos (beq_self_eq_true _) | exact hT _ (by decide) | decide)
    (case h_h0B => first | k_is | rfl | exact if_pos (beq_self_eq_true _) | exact hT _ (by decide) | decide)
    (case h_t0B => first | k_is | rfl | exact if_pos (beq_self_eq_true _) | exact hT _ (by decide) | decide)
    (case h_cl_NoStation => first | k_is | rfl | exact if_pos (beq_self_eq_true _) | exact hT _ (by decide) | decide)
    (case h_hc_NoStation => first | k_is | rfl | exact if_pos (beq_self_eq_true _) | exact hT _ (by decide) | decide)
    (case h_mo_NoStation => first | k_is | rfl | exact if_pos (beq_self_eq_true _) | exact hT _ (by decide) | decide)
    (case h_s0_NoStation => first | k_is | rfl | exact if_pos (beq_self_eq_true _) | exact hT _ (by decide) | decide)
    (case h_kd_NoStation_NoStation => first | k_is | rfl | exact if_pos (beq_self_eq_true _) | exact hT _ (by decide) | decide)
    (case h_kd_NoStation_NoNames => first | k_is | rfl | exact if_pos (beq_self_eq_true _) | exact hT _ (by decide) | decide)
    (case h_kd_NoStation_NoNetwork => first | k_is | rfl | exact if_pos (beq_self_eq_true _) | exact hT _ (by decide) | decide)
    (case h_kd_NoStation_NoChannel => first | k_is | rfl | exact if_pos (beq_self_eq_true _) | exact hT _ (by decide) | decide)
    (case h_kd_NoStation_TooMany => first | k_is | rfl | exact if_pos (beq_self_eq_true _) | exact hT _ (by decide) | decide)
    (case h_kd_NoStation_NoClosedSet => first | k_is | rfl | exact if_pos (beq_self_eq_true _) | exact hT _ (by decide) | decide)
    (case h_kd_NoStation_NoState => first | k_is | rfl | exact if_pos (beq_self_eq_true _) | exact hT _ (by decide) | decide)
    (case h_kd_NoStation_NoLink => first | k_is | rfl | exact if_pos (beq_self_eq_true _) | exact hT _ (by decide) | decide)
    (case h_cl_NoNames => first | k_is | rfl | exact if_pos (beq_self_eq_true _) | exact hT _ (by decide) | decide)
    (case h_hc_NoNames => first | k_is | rfl | exact if_pos (beq_self_eq_true _) | exact hT _ (by decide) | decide)
    (case h_mo_NoNames => first | k_is | rfl | exact if_pos (beq_self_eq_true _) | exact hT _ (by decide) | decide)
    (case h_s0_NoNames => first | k_is | rfl | exact if_pos (beq_self_eq_true _) | exact hT _ (by decide) | decide)
    (case h_kd_NoNames_NoStation => first | k_is | rfl | exact if_pos (beq_self_eq_true _) | exact hT _ (by decide) | decide)
    (case h_kd_NoNames_NoNames => first | k_is | rfl | exact if_pos (beq_self_eq_true _) | exact hT _ (by decide) | decide)
    (case h_kd_NoNames_NoNetwork => first | k_is | rfl | exact if_pos (beq_self_eq_true _) | exact hT _ (by decide) | decide)
    (case h_kd_NoNames_NoChannel => first | k_is | rfl | exact if_pos (beq_self_eq_true _) | exact hT _ (by decide) | decide)
    (case h_kd_NoNames_TooMany => first | k_is | rfl | exact if_pos (beq_self_eq_true _) | exact hT _ (by decide) | decide)
    (case h_kd_NoNames_NoClosedSet => first | k_is | rfl | exact if_pos (beq_self_eq_true _) | exact hT _ (by decide) | decide)
    (case h_kd_NoNames_NoState => first | k_is | rfl | exact if_pos (beq_self_eq_true _) | exact hT _ (by decide) | decide)
    (case h_kd_NoNames_NoLink => first | k_is | rfl | exact if_pos (beq_self_eq_true _) | exact hT _ (by decide) | decide)
    (case h_cl_NoNetwork => first | k_is | rfl | exact if_pos (beq_self_eq_true _) | exact hT _ (by decide) | decide)
    (case h_hc_NoNetwork => first | k_is | rfl | exact if_pos (beq_self_eq_true _) | exact hT _ (by decide) | decide)
    (case h_mo_NoNetwork => first | k_is | rfl | exact if_pos (beq_self_eq_true _) | exact hT _ (by decide) | decide)
    (case h_s0_NoNetwork => first | k_is | rfl | exact if_pos (beq_self_eq_true _) | exact hT _ (by decide) | decide)
    (case h_kd_NoNetwork_NoStation => first | k_is | rfl | exact if_pos (beq_self_eq_true _) | exact hT _ (by decide) | decide)
    (case h_kd_NoNetwork_NoNames => first | k_is | rfl | exact if_pos (beq_self_eq_true _) | exact hT _ (by decide) | decide)
    (case h_kd_NoNetwork_NoNetwork => first | k_is | rfl | exact if_pos (beq_self_eq_true _) | exact hT _ (by decide) | decide)
    (case h_kd_NoNetwork_NoChannel => first | k_is | rfl | exact if_pos (beq_self_eq_true _) | exact hT _ (by decide) | decide)
    (case h_kd_NoNetwork_TooMany => first | k_is | rfl | exact if_pos (beq_self_eq_true _) | exact hT _ (by decide) | decide)
    (case h_kd_NoNetwork_NoClosedSet => first | k_is | rfl | exact if_pos (beq_self_eq_true _) | exact hT _ (by decide) | decide)
    (case h_kd_NoNetwork_NoState => first | k_is | rfl | exact if_pos (beq_self_eq_true _) | exact hT _ (by decide) | decide)
    (case h_kd_NoNetwork_NoLink => first | k_is | rfl | exact if_pos (beq_self_eq_true _) | exact hT _ (by decide) | decide)
    (case h_tb__law_stations_right => first | k_is | rfl | exact if_pos (beq_self_eq_true _) | exact hT _ (by decide) | decide)
    (case h_ch__law_stations_right => first | k_is | rfl | exact if_pos (beq_self_eq_true _) | exact hT _ (by decide) | decide)
    (case h_nP__law_stations_right => first | k_is | rfl | exact if_pos (beq_self_eq_true _) | exact hT _ (by decide) | decide)
    (case h_ec__law_stations_right => first | k_is | rfl | exact if_pos (beq_self_eq_true _) | exact hT _ (by decide) | decide)
    (case h_gP__law_stations_right => first | k_is | rfl | exact if_pos (beq_self_eq_true _) | exact hT _ (by decide) | decide)
    (case h_tb__law_names_right => first | k_is | rfl | exact if_pos (beq_self_eq_true _) | exact hT _ (by decide) | decide)
    (case h_ch__law_names_right => first | k_is | rfl | exact if_pos (beq_self_eq_true _) | exact hT _ (by decide) | decide)
    (case h_nP__law_names_right => first | k_is | rfl | exact if_pos (beq_self_eq_true _) | exact hT _ (by decide) | decide)
    (case h_ec__law_names_right => first | k_is | rfl | exact if_pos (beq_self_eq_true _) | exact hT _ (by decide) | decide)
    (case h_gP__law_names_right => first | k_is | rfl | exact if_pos (beq_self_eq_true _) | exact hT _ (by decide) | decide)
    (case h_tb_law => first | k_is | rfl | exact if_pos (beq_self_eq_true _) | exact hT _ (by decide) | decide)
    (case h_ch_law => first | k_is | rfl | exact if_pos (beq_self_eq_true _) | exact hT _ (by decide) | decide)
    (case h_nP_law => first | k_is | rfl | exact if_pos (beq_self_eq_true _) | exact hT _ (by decide) | decide)
    (case h_ec_law => first | k_is | rfl | exact if_pos (beq_self_eq_true _) | exact hT _ (by decide) | decide)
    (case h_gP_law => first | k_is | rfl | exact if_pos (beq_self_eq_true _) | exact hT _ (by decide) | decide)
    (case h_kv_NoStation => first | k_is | rfl | exact if_pos (beq_self_eq_true _) | exact hT _ (by decide) | decide)
    (case h_kv_NoNames => first | k_is | rfl | exact if_pos (beq_self_eq_true _) | exact hT _ (by decide) | decide)
    (case h_kv_NoNetwork => first | k_is | rfl | exact if_pos (beq_self_eq_true _) | exact hT _ (by decide) | decide)
    (case h_ndPt => first | k_is | rfl | exact if_pos (beq_self_eq_true _) | exact hT _ (by decide) | decide)
#print axioms PySem.Challenge.cw_nextchannel_k54_invalid_changes_holds

