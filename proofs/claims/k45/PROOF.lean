import PyProof.Rows.All
import Wide.All
import OpenK.AllK
import Wide.FinOn
import HandS.ForMost
import HandS.ForExc
import HandS.Evl
import HandS.IsInst
import HandS.Defaults
import HandS.Conv
import HandS.Deep
import HandS.SortInts
import HandS.SortRule
import HandS.TupAny
import HandS.TupMul
import HandS.OwnEq
import HandS.Strs
import HandS.SetFor
import HandS.ExcInit
import HandS.ExcIs
import HandS.ExcField
import HandS.ClsMeth
import HandS.Zip
import HandS.MakeKwOnly
import HandS.Lambda
import HandS.EndTab
import KE.KExcIs
import HandS.TupLen
import PySem.Challenge.RW_nextchannel_k45_whole_below_the_table
set_option Elab.async false
set_option linter.all false
set_option maxRecDepth 100000
set_option maxHeartbeats 4000000
/-! Own layer over HandS: owned local objects (Own), readings step by step (g_..). -/
namespace NX
open PySem PySem.Spec PyProof.Rows L2
open Evl (Ex ex_l ex_t fresh_back)

/-! ### heaps -/
/-- H without the addresses of L -/
def cut (H : Hp) (L : List (Addr × HO)) : Hp := fun a => if a ∈ L.map Prod.fst then none else H a
theorem cut_in {H : Hp} {L : List (Addr × HO)} {a : Addr} (h : a ∈ L.map Prod.fst) : cut H L a = none := by unfold cut; rw [if_pos h]
theorem cut_out {H : Hp} {L : List (Addr × HO)} {a : Addr} (h : a ∉ L.map Prod.fst) : cut H L a = H a := by unfold cut; rw [if_neg h]
def noTup : HO → Bool
  | .tup _ => false
  | .frz _ _ => false
  | _ => true
/-- G: what stands still; L: what the body may change, as it is now -/
structure Own (G : Hp) (L : List (Addr × HO)) (H : Hp) : Prop where
  ex : Ex G H
  at_ : ∀ p ∈ L, G p.1 = none ∧ H p.1 = some p.2
  nd : (L.map Prod.fst).Nodup
  nt : ∀ p ∈ L, noTup p.2 = true
section
variable {G H H' : Hp} {L : List (Addr × HO)} {p q r s : Addr} {o o' o1 o2 o3 o4 : HO}
theorem Own.start (H : Hp) : Own H [] H := ⟨Ex.refl H, fun _ h => (nomatch h), by simp, fun _ h => (nomatch h)⟩
theorem Own.grow (S : Own G L H) (e : Ex H H') : Own G L H' := ⟨S.ex.trans e, fun p h => ⟨(S.at_ p h).1, e _ _ (S.at_ p h).2⟩, S.nd, S.nt⟩
theorem Own.fresh (S : Own G L H) (h : H p = none) : p ∉ L.map Prod.fst := fun m => by
  obtain ⟨x, hx, e⟩ := List.mem_map.mp m
  have z := (S.at_ x hx).2
  rw [e, h] at z
  cases z
theorem Own.new (S : Own G L H) (e : Ex H H') (hp : H p = none) (h : H' p = some o) (ht : noTup o = true := by rfl) : Own G ((p, o) :: L) H' :=
  ⟨S.ex.trans e, fun x hx => by
    rcases List.mem_cons.mp hx with rfl | hx
    · exact ⟨fresh_back S.ex hp, h⟩
    · exact ⟨(S.at_ x hx).1, e _ _ (S.at_ x hx).2⟩, by
    rw [List.map_cons, List.nodup_cons]
    exact ⟨S.fresh hp, S.nd⟩, fun x hx => by
    rcases List.mem_cons.mp hx with rfl | hx
    · exact ht
    · exact S.nt x hx⟩
theorem ex_upd (hp : H p = none) : Ex H (upd H p o) := Ex.new hp
theorem Own.lay (S : Own G L H) (hp : H p = none) (ht : noTup o = true := by rfl) : Own G ((p, o) :: L) (upd H p o) := S.new (Ex.new hp) hp upd_same ht
theorem Own.forget (S : Own G ((p, o) :: L) H) : Own G L H := ⟨S.ex, fun x hx => S.at_ x (List.mem_cons_of_mem _ hx), by
  have z := S.nd
  rw [List.map_cons, List.nodup_cons] at z
  exact z.2, fun x hx => S.nt x (List.mem_cons_of_mem _ hx)⟩
theorem Own.get0 (S : Own G ((p, o) :: L) H) : H p = some o := (S.at_ _ List.mem_cons_self).2
theorem Own.get1 (S : Own G ((q, o1) :: (p, o) :: L) H) : H p = some o := S.forget.get0
theorem Own.get2 (S : Own G ((r, o2) :: (q, o1) :: (p, o) :: L) H) : H p = some o := S.forget.get1
theorem Own.get3 (S : Own G ((s, o3) :: (r, o2) :: (q, o1) :: (p, o) :: L) H) : H p = some o := S.forget.get2
theorem Own.no0 (S : Own G ((p, o) :: L) H) : G p = none := (S.at_ _ List.mem_cons_self).1
theorem Own.nin (S : Own G ((p, o) :: L) H) : p ∉ L.map Prod.fst := by
  have z := S.nd
  rw [List.map_cons, List.nodup_cons] at z
  exact z.1
theorem ex_mut (e : Ex G H) (h : G p = none) : Ex G (upd H p o) := fun a u ha => by
  rw [upd_ne (ne_of_none ha h)]
  exact e a u ha
theorem Own.put0 (S : Own G ((p, o) :: L) H) (ht : noTup o' = true := by rfl) : Own G ((p, o') :: L) (upd H p o') :=
  ⟨ex_mut S.ex S.no0, fun x hx => by
    rcases List.mem_cons.mp hx with rfl | hx
    · exact ⟨S.no0, upd_same⟩
    · have ne : x.1 ≠ p := fun e => S.nin (e ▸ List.mem_map_of_mem hx)
      rw [upd_ne ne]
      exact S.at_ x (List.mem_cons_of_mem _ hx), S.nd, fun x hx => by
    rcases List.mem_cons.mp hx with rfl | hx
    · exact ht
    · exact S.nt x (List.mem_cons_of_mem _ hx)⟩
theorem Own.perm {L' : List (Addr × HO)} (S : Own G L H) (h : L'.Perm L) : Own G L' H :=
  ⟨S.ex, fun x hx => S.at_ x (h.mem_iff.mp hx), (h.map Prod.fst).nodup_iff.mpr S.nd, fun x hx => S.nt x (h.mem_iff.mp hx)⟩
theorem Own.getM (S : Own G L H) (h : (p, o) ∈ L) : H p = some o := (S.at_ _ h).2
theorem nd_ne {L : List (Addr × HO)} (nd : (L.map Prod.fst).Nodup) {i j : Nat} {a b : Addr × HO} (hi : L[i]? = some a) (hj : L[j]? = some b) (ne : i ≠ j) : a.1 ≠ b.1 := fun e => by
  have h1 : (L.map Prod.fst)[i]? = some a.1 := by rw [List.getElem?_map, hi] <;> rfl
  have h2 : (L.map Prod.fst)[j]? = some a.1 := by rw [List.getElem?_map, hj, e] <;> rfl
  obtain ⟨l1, e1⟩ := List.getElem?_eq_some_iff.mp h1
  obtain ⟨l2, e2⟩ := List.getElem?_eq_some_iff.mp h2
  exact ne ((List.getElem_inj nd).mp (e1.trans e2.symm))
theorem Own.putM {j : Nat} (S : Own G L H) (h : L[j]? = some (p, o)) (ht : noTup o' = true := by rfl) : Own G (L.set j (p, o')) (upd H p o') := by
  have hm : (p, o) ∈ L := List.mem_of_getElem? h
  have hj : j < L.length := (List.getElem?_eq_some_iff.mp h).1
  have np : G p = none := (S.at_ _ hm).1
  have em : (L.set j (p, o')).map Prod.fst = L.map Prod.fst := by
    rw [List.map_set]
    refine List.ext_getElem? fun i => ?_
    by_cases c : j = i
    · subst c
      rw [List.getElem?_set_self (by rw [List.length_map]; exact hj), List.getElem?_map, h] <;> rfl
    · rw [List.getElem?_set_ne c]
  have cases_ : ∀ x ∈ L.set j (p, o'), x = (p, o') ∨ (x ∈ L ∧ x.1 ≠ p) := fun x hx => by
    obtain ⟨i, hi, e⟩ := List.mem_iff_getElem.mp hx
    have e' : (L.set j (p, o'))[i]? = some x := by rw [List.getElem?_eq_getElem hi, e]
    by_cases c : j = i
    · subst c
      rw [List.getElem?_set_self hj] at e'
      exact .inl (Option.some.inj e').symm
    · rw [List.getElem?_set_ne c] at e'
      exact .inr ⟨List.mem_of_getElem? e', nd_ne S.nd e' h (Ne.symm c)⟩
  refine ⟨ex_mut S.ex np, fun x hx => ?_, by rw [em]; exact S.nd, fun x hx => ?_⟩
  · rcases cases_ x hx with rfl | ⟨m, ne⟩
    · exact ⟨np, upd_same⟩
    · rw [upd_ne ne]
      exact S.at_ x m
  · rcases cases_ x hx with rfl | ⟨m, ne⟩
    · exact ht
    · exact S.nt x m
theorem Own.swap (S : Own G ((p, o) :: (q, o1) :: L) H) : Own G ((q, o1) :: (p, o) :: L) H := S.perm (List.Perm.swap _ _ _)
theorem Own.put1 (S : Own G ((q, o1) :: (p, o) :: L) H) (ht : noTup o' = true := by rfl) : Own G ((q, o1) :: (p, o') :: L) (upd H p o') := (S.swap.put0 ht).swap
theorem rot_perm {α : Type} (a b c : α) (l : List α) : (c :: a :: b :: l).Perm (a :: b :: c :: l) := (List.Perm.swap a c _).trans ((List.Perm.swap b c _).cons _)
theorem Own.rot (S : Own G ((r, o2) :: (q, o1) :: (p, o) :: L) H) : Own G ((p, o) :: (r, o2) :: (q, o1) :: L) H := S.perm (rot_perm _ _ _ _)
theorem Own.unrot (S : Own G ((p, o) :: (r, o2) :: (q, o1) :: L) H) : Own G ((r, o2) :: (q, o1) :: (p, o) :: L) H := S.perm (rot_perm _ _ _ _).symm
theorem Own.put2 (S : Own G ((r, o2) :: (q, o1) :: (p, o) :: L) H) (ht : noTup o' = true := by rfl) : Own G ((r, o2) :: (q, o1) :: (p, o') :: L) (upd H p o') := (S.rot.put0 ht).unrot
/-- what is new in H' (and the tuples of H) -/
def nw (H H' : Hp) : Hp := fun a => match H a with
  | none => H' a
  | some o => if noTup o then none else H' a
theorem nw_new {a : Addr} (h : H a = none) : nw H H' a = H' a := by unfold nw; rw [h]
theorem nw_tup {a : Addr} {o : HO} (h : H a = some o) (ht : noTup o = false) : nw H H' a = H' a := by
  unfold nw; rw [h]
  show (if noTup o = true then none else H' a) = H' a
  rw [ht] <;> rfl
theorem nw_mono {G H H' : Hp} (e : Ex G H) : Ex (nw H H') (nw G H') := fun a u h => by
  cases q : H a with
  | none =>
    rw [nw_new q] at h
    rw [nw_new (fresh_back e q)]
    exact h
  | some o =>
    cases t : noTup o with
    | true => unfold nw at h; rw [q] at h; simp [t] at h
    | false =>
      rw [nw_tup q t] at h
      cases z : G a with
      | none => rw [nw_new z]; exact h
      | some o' =>
        have y := e _ _ z
        rw [q] at y
        cases y
        rw [nw_tup z t]
        exact h
/-- what is new stands still from now on -/
theorem Own.absorb (S : Own G L H) (e : Ex H H') : Own (cut H' L) L H' ∧ Ex G (cut H' L) ∧ Ex (nw H H') (cut H' L) :=
  ⟨⟨fun a u h => by
      by_cases m : a ∈ L.map Prod.fst
      · rw [cut_in m] at h; cases h
      · rw [cut_out m] at h; exact h, fun x hx => ⟨cut_in (List.mem_map_of_mem hx), e _ _ (S.at_ x hx).2⟩, S.nd, S.nt⟩,
    fun a u h => by
      have m : a ∉ L.map Prod.fst := fun m => by
        obtain ⟨x, hx, z⟩ := List.mem_map.mp m
        have y := (S.at_ x hx).1
        rw [z, h] at y
        cases y
      rw [cut_out m]
      exact e _ _ (S.ex _ _ h),
    fun a o h => by
      cases q : H a with
      | none => rw [cut_out (S.fresh q), ← nw_new (H' := H') q]; exact h
      | some u =>
        cases t : noTup u with
        | true => unfold nw at h; rw [q] at h; simp [t] at h
        | false =>
          have m : a ∉ L.map Prod.fst := fun m => by
            obtain ⟨x, hx, z⟩ := List.mem_map.mp m
            have y := (S.at_ x hx).2
            rw [z, q] at y
            have n := S.nt x hx
            rw [← Option.some.inj y, t] at n
            cases n
          rw [cut_out m, ← nw_tup (H' := H') q t]
          exact h⟩
/-- the head of L stands still from now on -/
theorem Own.freeze (S : Own G ((p, o) :: L) H) : Own (upd G p o) L H ∧ Ex G (upd G p o) ∧ upd G p o p = some o :=
  ⟨⟨fun a u h => by
      by_cases e : a = p
      · subst e
        rw [upd_same] at h
        cases h
        exact S.get0
      · rw [upd_ne e] at h
        exact S.ex _ _ h, fun x hx => ⟨by
      have ne : x.1 ≠ p := fun e => S.nin (e ▸ List.mem_map_of_mem hx)
      rw [upd_ne ne]
      exact (S.at_ x (List.mem_cons_of_mem _ hx)).1, (S.at_ x (List.mem_cons_of_mem _ hx)).2⟩, S.forget.nd, S.forget.nt⟩, Ex.new S.no0, upd_same⟩
/-- from all that is known: a call that may change the object at p -/
theorem Own.give (h : H p = some o) (ht : noTup o = true := by rfl) : Own (cut H [(p, o)]) [(p, o)] H :=
  ⟨fun a u e => by
      by_cases m : a ∈ ([(p, o)] : List (Addr × HO)).map Prod.fst
      · rw [cut_in m] at e; cases e
      · rw [cut_out m] at e; exact e, fun x hx => by
      have z : x = (p, o) := by simpa using hx
      subst z
      exact ⟨cut_in (by simp), h⟩, by simp, fun x hx => by
      have z : x = (p, o) := by simpa using hx
      subst z
      exact ht⟩
/-- behind such a call -/
theorem Own.back {L' : List (Addr × HO)} (S : Own G ((p, o) :: L) H) (T : Own (cut H [(p, o)]) ((p, o') :: L') H') : Own G ((p, o') :: L' ++ L) H' := by
  have k : ∀ a u, a ≠ p → H a = some u → H' a = some u := fun a u ne e => T.ex _ _ (by rw [cut_out (by simpa using ne)]; exact e)
  refine ⟨fun a u e => k a u (ne_of_none e S.no0) (S.ex _ _ e), fun x hx => ?_, ?_, fun x hx => (List.mem_append.mp hx).elim (T.nt x) (S.forget.nt x)⟩
  · rcases List.mem_append.mp hx with hx | hx
    · refine ⟨?_, (T.at_ x hx).2⟩
      have z := (T.at_ x hx).1
      by_cases e : x.1 = p
      · rw [e]; exact S.no0
      · rw [cut_out (by simpa using e)] at z
        exact fresh_back S.ex z
    · have ne : x.1 ≠ p := fun e => S.nin (e ▸ List.mem_map_of_mem hx)
      exact ⟨(S.at_ x (List.mem_cons_of_mem _ hx)).1, k _ _ ne (S.at_ x (List.mem_cons_of_mem _ hx)).2⟩
  · rw [List.map_append, List.nodup_append]
    refine ⟨T.nd, S.forget.nd, fun a ha b hb e => ?_⟩
    subst e
    obtain ⟨x, hx, ex⟩ := List.mem_map.mp ha
    obtain ⟨y, hy, ey⟩ := List.mem_map.mp hb
    have ne : y.1 ≠ p := fun e => S.nin (e ▸ List.mem_map_of_mem hy)
    have z := (T.at_ x hx).1
    rw [ex, ← ey, cut_out (by simpa using ne), (S.at_ y (List.mem_cons_of_mem _ hy)).2] at z
    cases z
/-- what stood still, without the object that a call may change -/
theorem Own.keep (S : Own G ((p, o) :: L) H) : Ex G (cut H [(p, o)]) := fun a u e => by
  rw [cut_out (by simpa using ne_of_none e S.no0)]
  exact S.ex _ _ e
end

/-! ### readings, one step back at a time -/
/-- a new list, a new tuple is laid -/
def NewL (xs : List V) (H : Hp) (Q : VK) : Prop := xs.length ≤ sizeLine ∧ ∀ p, H p = none → Q (.ref p) (upd H p (.lst xs))
def NewT (xs : List V) (H : Hp) (Q : VK) : Prop := xs.length ≤ sizeLine ∧ ∀ p, H p = none → Q (.ref p) (upd H p (.tup xs))
def NewR (a b : Int) (H : Hp) (Q : VK) : Prop := RgOk a b ∧ ∀ q, H q = none → Q (.ref q) (upd H q (.lst (rgV a b)))
def rTupS (K : PySem.W.Frag) : List V → Hp → VK → Prop := fun xs H Q => ∃ p ys, xs = [.ref p] ∧ ((SqL K H p ys ∧ ∀ l, H l = none → Q (.ref l) (upd H l (.tup ys))) ∨ (SqT K H p ys ∧ Q (.ref p) H))
def rInt1 : List V → Hp → VK → Prop := fun xs H Q => (∃ i, xs = [.int i] ∧ Q (.int i) H) ∨ ∃ k, xs = [.bl k] ∧ Q (.int (if k then 1 else 0)) H
def rMin2 : List V → Hp → VK → Prop := fun xs H Q => ∃ i j, xs = [.int i, .int j] ∧ Q (.int (if j < i then j else i)) H
def rMax2 : List V → Hp → VK → Prop := fun xs H Q => ∃ i j, xs = [.int i, .int j] ∧ Q (.int (if j > i then j else i)) H
def rIsN : R2 := fun x y H Q => y = .non ∧ Q (.bl (decide (x = .non))) H
def rNotN : R2 := fun x y H Q => y = .non ∧ Q (.bl (!decide (x = .non))) H
section
variable {X : Cx}
theorem call_lenN : CallR X (.builtin "len") (Evl.rLenS X.K) := call_len_seq
theorem call_listN : CallR X (.type "list") (Evl.rListS X.K) := call_list_of
theorem call_tupN : CallR X (.type "tuple") (rTupS X.K) := call_tuple_of
theorem call_intN : CallR X (.type "int") rInt1 := call_int1
theorem call_minN (hc : X.calm = true) : CallR X (.builtin "min") rMin2 := call_min2 hc
theorem call_maxN (hc : X.calm = true) : CallR X (.builtin "max") rMax2 := call_max2 hc
theorem op_isNone : OpR X (compareOp .Is) rIsN := op_isN
theorem op_notNone : OpR X (compareOp .IsNot) rNotN := op_notN
end
section
variable {K : PySem.W.Frag} {σ : L2.St} {H : Hp} {ta tb tc te : TE} {t u : TT} {tr : TA} {Q : VK} {v x y : V} {r : R2}
theorem g_var {i : Nat} (h : σ[i]? = some (some v)) (k : Q v H) : tVar i σ H Q := ⟨v, h, k⟩
theorem g_c (k : Q v H) : tC v σ H Q := k
theorem g_op (k : ta σ H fun x H1 => tb σ H1 fun y H2 => r x y H2 Q) : tOp r ta tb σ H Q := k
theorem g_un {r : V → Hp → VK → Prop} (k : ta σ H fun x H1 => r x H1 Q) : tUn r ta σ H Q := k
theorem g_I0 {g : Int → Int → V} {i j : Int} (k : Q (g i j) H) : rI0 g (.int i) (.int j) H Q := ⟨i, j, rfl, rfl, k⟩
theorem g_I {C : Int → Int → Prop} {g : Int → Int → V} {i j : Int} (c : C i j) (k : Q (g i j) H) : rI C g (.int i) (.int j) H Q := ⟨i, j, rfl, rfl, c, k⟩
theorem g_U {g : Int → V} {i : Int} (k : Q (g i) H) : rU g (.int i) H Q := ⟨i, rfl, k⟩
theorem g_eqI {i j : Int} (k : Q (.bl (decide (i = j))) H) : rEq (.int i) (.int j) H Q := ⟨rfl, by
  have e : decide (V.int i = V.int j) = decide (i = j) := by
    by_cases z : i = j
    · rw [decide_eq_true z, decide_eq_true (by rw [z])]
    · rw [decide_eq_false z, decide_eq_false (fun q => z (V.int.inj q))]
  rw [e]; exact k⟩
theorem g_neI {i j : Int} (k : Q (.bl (!decide (i = j))) H) : rNe (.int i) (.int j) H Q := ⟨rfl, by
  have e : decide (V.int i = V.int j) = decide (i = j) := by
    by_cases z : i = j
    · rw [decide_eq_true z, decide_eq_true (by rw [z])]
    · rw [decide_eq_false z, decide_eq_false (fun q => z (V.int.inj q))]
  rw [e]; exact k⟩
theorem g_neB {i j : Bool} (k : Q (.bl (!decide (i = j))) H) : rNe (.bl i) (.bl j) H Q := ⟨rfl, by
  have e : decide (V.bl i = V.bl j) = decide (i = j) := by
    by_cases z : i = j
    · rw [decide_eq_true z, decide_eq_true (by rw [z])]
    · rw [decide_eq_false z, decide_eq_false (fun q => z (V.bl.inj q))]
  rw [e]; exact k⟩
theorem g_eqB {i j : Bool} (k : Q (.bl (decide (i = j))) H) : rEq (.bl i) (.bl j) H Q := ⟨rfl, by
  have e : decide (V.bl i = V.bl j) = decide (i = j) := by
    by_cases z : i = j
    · rw [decide_eq_true z, decide_eq_true (by rw [z])]
    · rw [decide_eq_false z, decide_eq_false (fun q => z (V.bl.inj q))]
  rw [e]; exact k⟩
theorem g_cb {r : List V → Hp → VK → Prop} (k : tr σ H fun vs H1 => r vs H1 Q) : tCB r tr σ H Q := k
theorem g_call {sp : Sp} {dvs : List V} {E : XK} (k : tr σ H fun vs H1 => sp (vs ++ dvs) H1 Q E) : tCall sp dvs E tr σ H Q := k
theorem g_nil {Q : List V → Hp → Prop} (k : Q [] H) : tNil σ H Q := k
theorem g_cons {Q : List V → Hp → Prop} (k : ta σ H fun x H1 => tr σ H1 fun xs H2 => Q (x :: xs) H2) : tCons ta tr σ H Q := k
theorem g_test {Q : Bool → Hp → Prop} (k : te σ H fun x H1 => ∃ b, x = .bl b ∧ Q b H1) : tTest te σ H Q := k
theorem g_B {Q : Bool → Hp → Prop} (k : te σ H fun x H1 => ∃ b, x = .bl b ∧ Q b H1) : tB te σ H Q := k
theorem g_bl {b : Bool} {Q : Bool → Hp → Prop} (k : Q b H) : ∃ c, V.bl b = .bl c ∧ Q c H := ⟨b, rfl, k⟩
theorem g_and {Q : Bool → Hp → Prop} (k : t σ H fun c H1 => if c = true then u σ H1 Q else Q false H1) : tAnd t u σ H Q := k
theorem g_or {Q : Bool → Hp → Prop} (k : t σ H fun c H1 => if c = true then Q true H1 else u σ H1 Q) : tOr t u σ H Q := k
theorem g_not {Q : Bool → Hp → Prop} (k : t σ H fun c H1 => Q (!c) H1) : tNot t σ H Q := k
theorem g_andV (k : ta σ H fun x H1 => ∃ c, x = .bl c ∧ if c = true then tb σ H1 Q else Q (.bl false) H1) : tAndV ta tb σ H Q := k
theorem g_orV (k : ta σ H fun x H1 => ∃ c, x = .bl c ∧ if c = true then Q (.bl true) H1 else tb σ H1 Q) : tOrV ta tb σ H Q := k
theorem g_notV (k : ta σ H fun x H1 => ∃ c, x = .bl c ∧ Q (.bl (!c)) H1) : tNotV ta σ H Q := k
theorem g_exV {b : Bool} {P : Bool → Prop} (k : P b) : ∃ c, V.bl b = .bl c ∧ P c := ⟨b, rfl, k⟩
theorem g_if (k : t σ H fun c H1 => if c = true then ta σ H1 Q else tb σ H1 Q) : tIf t ta tb σ H Q := k
theorem g_chain {r' : R2} (k : ta σ H fun x H1 => tb σ H1 fun y H2 => r x y H2 fun z H3 => ∃ k, z = .bl k ∧ (if k = true then tc σ H3 fun w' H4 => r' y w' H4 Q else Q (.bl false) H3)) : tChain r r' ta tb tc σ H Q := k
theorem g_tup (k : tr σ H fun xs H1 => NewT xs H1 Q) : tTup tr σ H Q := k
theorem g_lst (k : tr σ H fun xs H1 => NewL xs H1 Q) : tLst tr σ H Q := k
theorem g_sl {rs : V → Option Int → Option Int → Hp → VK → Prop} {tl th : TO} (k : te σ H fun x H1 => tl σ H1 fun l H2 => th σ H2 fun u H3 => rs x l u H3 Q) : tSl rs te tl th σ H Q := k
theorem g_noPart {Q : Option Int → Hp → Prop} (k : Q none H) : tNoPart σ H Q := k
theorem g_part {Q : Option Int → Hp → Prop} (k : te σ H fun x H1 => ∃ i, x = .int i ∧ Q (some i) H1) : tPart te σ H Q := k
theorem g_exI {i : Int} {P : Int → Prop} (k : P i) : ∃ j, V.int i = .int j ∧ P j := ⟨i, rfl, k⟩
theorem g_bm {T : String} {rm : V → List V → Hp → VK → Prop} (k : te σ H fun x H1 => tyV K T x H1 ∧ tr σ H1 fun xs H2 => rm x xs H2 Q) : tBM K T rm te tr σ H Q := k
theorem g_bm0 {T : String} {rm : V → List V → Hp → VK → Prop} (k : te σ H fun x H1 => tyV K T x H1 ∧ rm x [] H1 Q) : tBM0 K T rm te σ H Q := k
end
section
variable {K : PySem.W.Frag} {σ : L2.St} {H : Hp} {te : TE} {tt : TT} {ts us : TS} {tr : TA} {v : V} {n b c : L2.St → Hp → Prop} {rt : VK} {g : TG}
theorem s_seq (k : ts ⟨us ⟨n, rt, b, c⟩, rt, b, c⟩ σ H) : tSeq ts us ⟨n, rt, b, c⟩ σ H := k
theorem s_next (k : n σ H) : tNext ⟨n, rt, b, c⟩ σ H := k
theorem s_brk (k : b σ H) : tBreak ⟨n, rt, b, c⟩ σ H := k
theorem s_cont (k : c σ H) : tCont ⟨n, rt, b, c⟩ σ H := k
theorem s_drop (k : te σ H fun _ H1 => n σ H1) : tDrop te ⟨n, rt, b, c⟩ σ H := k
theorem s_ret (k : te σ H rt) : tRet te ⟨n, rt, b, c⟩ σ H := k
theorem s_retN (k : rt .non H) : tRetN ⟨n, rt, b, c⟩ σ H := k
theorem s_if (k : tt σ H fun x H1 => if x = true then ts ⟨n, rt, b, c⟩ σ H1 else us ⟨n, rt, b, c⟩ σ H1) : tIfS tt ts us ⟨n, rt, b, c⟩ σ H := k
theorem s_asg (k : te σ H fun x H1 => g x σ H1 n) : tAsg te g ⟨n, rt, b, c⟩ σ H := k
theorem s_name {i : Nat} {Q : L2.St → Hp → Prop} (k : Q (σ.set i (some v)) H) : gName i v σ H Q := k
theorem s_par {i j : Nat} (k : tr σ H fun vs H1 => ∃ v w, vs = [v, w] ∧ n ((σ.set i (some v)).set j (some w)) H1) : tPar i j tr ⟨n, rt, b, c⟩ σ H := k
theorem s_two {v w : V} {P : V → V → Prop} (k : P v w) : ∃ v' w', [v, w] = [v', w'] ∧ P v' w' := ⟨v, w, rfl, k⟩
theorem s_aug {i : Nat} {ti : TIp} {x : V} (h : σ[i]? = some (some x)) (k : te σ H fun y H1 => ti x y H1 fun z H2 => n (σ.set i (some z)) H2) : tAug i te ti ⟨n, rt, b, c⟩ σ H := ⟨x, h, k⟩
theorem s_ipI {f : Int → Int → Int} {i j : Int} {Q : VK} (k : Q (.int (f i j)) H) : ipI f (.int i) (.int j) H Q := ⟨i, j, rfl, rfl, k⟩
theorem s_sub {to ti : TE} {t : TSet} {Q : L2.St → Hp → Prop} (k : to σ H fun o H1 => ti σ H1 fun i H2 => t o i v H2 fun H3 => Q σ H3) : gSub to ti t v σ H Q := k
theorem s_gtup {K : PySem.W.Frag} {m : Nat} {t : TGs} {a : Addr} {xs : List V} {Q : L2.St → Hp → Prop} (h : SqT K H a xs) (e : xs.length = m) (k : t xs σ H Q) : gTup K m t (.ref a) σ H Q := ⟨a, xs, rfl, h, e, k⟩
theorem s_gcons {t : TG} {u : TGs} {r : List V} {Q : L2.St → Hp → Prop} (k : t v σ H fun σ' H' => u r σ' H' Q) : gCons t u (v :: r) σ H Q := ⟨v, r, rfl, k⟩
theorem s_gnil {Q : L2.St → Hp → Prop} (k : Q σ H) : gNil [] σ H Q := ⟨rfl, k⟩
end
/-! ### what is read of the heap: G stands still -/
section
variable {K : PySem.W.Frag} {G H : Hp} {L : List (Addr × HO)} {p : Addr} {xs : List V} {v : V} {Q : VK}
theorem Own.sl (S : Own G L H) (h : SqL K G p xs) : SqL K H p xs := ex_l S.ex h
theorem Own.st (S : Own G L H) (h : SqT K G p xs) : SqT K H p xs := ex_t S.ex h
theorem g_ixL {i : Int} (h : SqL K H p xs) (a : atI xs i = some v) (k : Q v H) : rIxL K (.ref p) (.int i) H Q := ⟨p, xs, i, v, rfl, rfl, h, a, k⟩
theorem g_ixT {i : Int} (h : SqT K H p xs) (a : atI xs i = some v) (k : Q v H) : rIxT K (.ref p) (.int i) H Q := ⟨p, xs, i, v, rfl, rfl, h, a, k⟩
end
/-! ### calls of defs -/
/-- the def x: its promise, how its arguments come -/
def Cal (P : Program) (w : World) (K : PySem.W.Frag) (mg : Str → Option Value) (base : Heap) (k : Nat) (x : Str) (ps : List Str) (dvs : List V) (sp : Sp) : Prop :=
  ∃ (f : Addr) (fd : FuncData) (ds : List Value), FnOk P w K mg base (L2.CX P w) k f fd ps sp ∧ mg x = some (.ref f) ∧ PySem.W.keepIn K (.ref f) = true ∧ Binds K fd ps ds ∧ Vals dvs ds
/-- .. called with n positional arguments and the keywords ks -/
def CalK (P : Program) (w : World) (K : PySem.W.Frag) (mg : Str → Option Value) (base : Heap) (k : Nat) (x : Str) (ps : List Str) (n : Nat) (ks : List Str) (gV : List V → List V → List V) (sp : Sp) : Prop :=
  ∃ (f : Addr) (fd : FuncData) (g : List Value → List Value → List Value), FnOk P w K mg base (L2.CX P w) k f fd ps sp ∧ mg x = some (.ref f) ∧ PySem.W.keepIn K (.ref f) = true ∧ KBn K fd ps n ks g gV
theorem fn_up {P : Program} {w : World} {K : PySem.W.Frag} {mg : Str → Option Value} {base : Heap} {k : Nat} {f : Addr} {fd : FuncData} {ps : List Str} {sp : Sp} (F : FnOk P w K mg base CX0 k f fd ps sp) : FnOk P w K mg base (L2.CX P w) k f fd ps sp :=
  ⟨F.len, fun A outer s H args us vs Q E hr he hb hv hs => codeAny_mono (F.run A outer s H args us vs Q E hr he hb hv hs) fun r s' h => by
    cases r with
    | error e => exact (show False from h).elim
    | ok fl => cases fl <;> exact h⟩
section
variable {X : Cx} {k n : Nat} {ps ks : List Str} {sp : Sp} {dvs : List V} {E : XK} {x : Str} {p pos : Pos} {e : Expr} {es : List Expr} {kws : List Keyword} {t tk : TA} {gV : List V → List V → List V}
theorem passN : Passes (L2.CX X.prog X.w) X E0 := L2.passL
/-- f(e, ..): what is written, no defaults -/
def tCal (sp : Sp) (E : XK) (t : TA) : TE := fun σ H Q => t σ H fun vs H1 => sp vs H1 Q E
theorem pe_cal (C : Cal X.prog X.w X.K X.mg X.base k x ps [] sp) (hr : Room k X.A) (hx : Passes (L2.CX X.prog X.w) X E) (ha : PA X (e :: es) t) (hg : Gl X x := by rfl) (hdb : (x == ("__debug__" : Str)) = false := by decide)
    (he : starEach (e :: es) X.env = (false, eval e X.env) :: starEach es X.env := by rfl) (hpl : (backTo pos (starEach es X.env)).any (·.1) = false := by rfl) : PE X (.Call (.Name x p) (e :: es) [] pos) (tCal sp E t) := by
  obtain ⟨f, fd, ds, F, hm, hk, hb, hd⟩ := C
  have q : PE X (.Call (.Name x p) (e :: es) [] pos) (tCall sp [] E t) := pe_call F hr hg hm hk hb hd hx ha hdb he hpl
  refine ⟨fun pins s σ H Q I h => q.run pins s σ H Q I ?_⟩
  have e : (fun (vs : List V) (H1 : Hp) => sp (vs ++ []) H1 Q E) = (fun vs H1 => sp vs H1 Q E) := by
    funext vs H1
    rw [List.append_nil]
  show t σ H fun vs H1 => sp (vs ++ []) H1 Q E
  rw [e]
  exact h
theorem pe_calD (C : Cal X.prog X.w X.K X.mg X.base k x ps dvs sp) (hr : Room k X.A) (hx : Passes (L2.CX X.prog X.w) X E) (ha : PA X (e :: es) t) (hg : Gl X x := by rfl) (hdb : (x == ("__debug__" : Str)) = false := by decide)
    (he : starEach (e :: es) X.env = (false, eval e X.env) :: starEach es X.env := by rfl) (hpl : (backTo pos (starEach es X.env)).any (·.1) = false := by rfl) : PE X (.Call (.Name x p) (e :: es) [] pos) (tCall sp dvs E t) := by
  obtain ⟨f, fd, ds, F, hm, hk, hb, hd⟩ := C
  exact pe_call F hr hg hm hk hb hd hx ha hdb he hpl
theorem g_cal {sp : Sp} {E : XK} {tr : TA} {σ : L2.St} {H : Hp} {Q : VK} (k : tr σ H fun vs H1 => sp vs H1 Q E) : tCal sp E tr σ H Q := k
theorem g_calN {sp : Sp} {E : XK} {tr tk : TA} {n m : Nat} {gV : List V → List V → List V} {σ : L2.St} {H : Hp} {Q : VK} (k : tr σ H fun vs H1 => tk σ H1 fun zs H2 => vs.length = n ∧ zs.length = m ∧ sp (gV vs zs) H2 Q E) : tCallN n m sp gV E tr tk σ H Q := k
theorem pe_calK (C : CalK X.prog X.w X.K X.mg X.base k x ps n ks gV sp) (hr : Room k X.A) (hx : Passes (L2.CX X.prog X.w) X E) (ha : PA X (e :: es) t) (hkw : PK X kws tk) (hg : Gl X x := by rfl)
    (hall : (backToKw pos (keywordEach kws X.env)).all (·.1.isSome) = true := by rfl) (hks : (backToKw pos (keywordEach kws X.env)).filterMap (·.1) = ks := by rfl)
    (hdb : (x == ("__debug__" : Str)) = false := by decide) (he : starEach (e :: es) X.env = (false, eval e X.env) :: starEach es X.env := by rfl)
    (hpl : ((backTo pos (starEach (e :: es) X.env)).any (·.1) || (backToKw pos (keywordEach kws X.env)).any (·.1.isNone)) = false := by rfl) :
    PE X (.Call (.Name x p) (e :: es) kws pos) (tCallN n ks.length sp gV E t tk) := by
  obtain ⟨f, fd, g, F, hm, hk, hb⟩ := C
  exact pe_callN F hr hg hm hk hb hx ha hkw hall hks hdb he hpl
theorem pe_calK0 (C : CalK X.prog X.w X.K X.mg X.base k x ps 0 ks gV sp) (hr : Room k X.A) (hx : Passes (L2.CX X.prog X.w) X E) (hkw : PK X kws tk) (hg : Gl X x := by rfl)
    (hall : (backToKw pos (keywordEach kws X.env)).all (·.1.isSome) = true := by rfl) (hks : (backToKw pos (keywordEach kws X.env)).filterMap (·.1) = ks := by rfl)
    (hdb : (x == ("__debug__" : Str)) = false := by decide)
    (hpl : ((backTo pos (starEach [] X.env)).any (·.1) || (backToKw pos (keywordEach kws X.env)).any (·.1.isNone)) = false := by rfl) :
    PE X (.Call (.Name x p) [] kws pos) (tCallN 0 ks.length sp gV E tNil tk) := by
  obtain ⟨f, fd, g, F, hm, hk, hb⟩ := C
  refine ⟨fun pins s σ H Q I h => ?_⟩
  refine wpAny_Call_Name_kw (ld_glob I hg hm ?_ hdb)
  refine PySem.W.callWith_KW0 (h₀ := X.base) I.ok.mod.kin hk hall ?_ hpl
  refine thn (hkw.run pos pins s σ H _ I h) fun ws s2 ⟨zs, H2, I2, rz, l1, l2, q2⟩ => ⟨I2.kIn, ?_⟩
  rw [hks]
  exact run_fnN (us := []) (vs := []) F hr hb hx I2 .nil rz rfl l2 q2
/-- a module's whole number -/
theorem pe_cst {i : Int} (hg : Gl X x) (hm : ∃ t, X.mg x = some (.int i t)) (hd : (x == ("__debug__" : Str)) = false := by decide) : PE X (.Name x pos) (tC (.int i)) := by
  obtain ⟨t, hm⟩ := hm
  exact pe_glob hg hm ⟨t, rfl⟩ hd
/-- a op1 b op2 c op3 d -/
def tChain3 (r r' r'' : R2) (ta tb tc td : TE) : TE := fun σ H Q => ta σ H fun x H1 => tb σ H1 fun y H2 => r x y H2 fun z H3 => ∃ k, z = .bl k ∧
  (if k = true then tc σ H3 fun w H4 => r' y w H4 fun z' H5 => ∃ k', z' = .bl k' ∧ (if k' = true then td σ H5 fun w' H6 => r'' w w' H6 Q else Q (.bl false) H5) else Q (.bl false) H3)
theorem pe_chain3 {op op' op'' : CmpOp} {r r' r'' : R2} {a b c d : Expr} {ta tb tc td : TE} (ho : OpR X (compareOp op) r) (ho' : OpR X (compareOp op') r') (ho'' : OpR X (compareOp op'') r'') (ha : PE X a ta) (hb : PE X b tb) (hc : PE X c tc) (hd : PE X d td)
    (hm : lastMarks [op, op', op''] [b, c, d] = false := by with_unfolding_all rfl) : PE X (.Compare a [op, op', op''] [b, c, d] pos) (tChain3 r r' r'' ta tb tc td) := by
  refine ⟨fun pins s σ H Q I h => ?_⟩
  refine Compare_chain (thn (ha.run pins s σ H _ I h) fun v s1 ⟨x, H1, I1, r1, q1⟩ => chain_link (thn (hb.run pins s1 σ H1 _ I1 q1) fun u s2 ⟨y, H2, I2, r2, q2⟩ =>
    thn (ho pins s2 σ H2 x y v u _ I2 r1 r2 q2) fun w s3 ⟨z, H3, I3, r3, k, e, q3⟩ => ?_)) hm
  subst e
  cases r3
  refine wpAny_truthy_bool ?_
  cases k with
  | false => exact ite_ff ⟨.bl false, H3, I3, rfl, q3⟩
  | true =>
    refine ite_tt (chain_link (thn (hc.run pins s3 σ H3 _ I3 q3) fun w' s4 ⟨z', H4, I4, r4, q4⟩ => thn (ho' pins s4 σ H4 y z' u w' _ I4 r2 r4 q4) fun w5 s5 ⟨z5, H5, I5, r5, k5, e5, q5⟩ => ?_))
    subst e5
    cases r5
    refine wpAny_truthy_bool ?_
    cases k5 with
    | false => exact ite_ff ⟨.bl false, H5, I5, rfl, q5⟩
    | true => exact ite_tt (chain_last (thn (hd.run pins s5 σ H5 _ I5 q5) fun w6 s6 ⟨z6, H6, I6, r6, q6⟩ => ho'' pins s6 σ H6 z' z6 w' w6 Q I6 r4 r6 q6))
theorem g_chain3 {σ : L2.St} {H : Hp} {Q : VK} {r r' r'' : R2} {ta tb tc td : TE} (k : ta σ H fun x H1 => tb σ H1 fun y H2 => r x y H2 fun z H3 => ∃ k, z = .bl k ∧
  (if k = true then tc σ H3 fun w H4 => r' y w H4 fun z' H5 => ∃ k', z' = .bl k' ∧ (if k' = true then td σ H5 fun w' H6 => r'' w w' H6 Q else Q (.bl false) H5) else Q (.bl false) H3)) : tChain3 r r' r'' ta tb tc td σ H Q := k
end
/-! ### loops -/
/-- what a for asks of the iterator J -/
def FORJ (J : It) (g : TG) (tb : TS) (D : Ends) (σ : L2.St) (H1 : Hp) : Prop := ∃ W : Nat → Nat → L2.St → Hp → Prop, (∃ m, W 0 m σ H1) ∧ ∀ i m σ H, W i m σ H →
  (J.stop i H ∧ D.nx σ H) ∨ (J.go i H ∧ ∃ N : L2.St → Hp → Prop, (∀ σ' H', N σ' H' → ∃ m', m' < m ∧ W (i + 1) m' σ' H') ∧ ∀ x H', J.yld i H x H' → g x σ H' fun σ2 H2 => tb { D with nx := N, ct := N, bk := D.nx } σ2 H2)
/-- what a comprehension asks -/
def LCJ (J : It) (g : TG) (tt : TT) (te : TE) (vs : List Nat) (σ : L2.St) (H1 : Hp) (Q : VK) : Prop := ∀ D, H1 D = none → ∃ W : Nat → Nat → Hp → Prop, (∃ m, W 0 m (upd H1 D (.lst []))) ∧ ∀ i m H, W i m H →
  (J.stop i H ∧ Q (.ref D) H) ∨ (J.go i H ∧ ∃ Nx : Hp → Prop, (∀ H', Nx H' → ∃ m', m' < m ∧ W (i + 1) m' H') ∧ ∀ x H', J.yld i H x H' → g x (wipe σ vs) H' fun σ2 H2 => wipe σ2 vs = wipe σ vs ∧ tt σ2 H2 fun b H3 =>
    if b = true then te σ2 H3 fun y H4 => ∃ acc, H4 D = some (.lst acc) ∧ acc.length < sizeLine ∧ Nx (upd H4 D (.lst (acc ++ [y]))) else Nx H3)
section
variable {K : PySem.W.Frag} {σ : L2.St} {G H : Hp} {L : List (Addr × HO)} {te ta : TE} {tt tc : TT} {tb : TS} {tr : TA} {g : TG} {wi : TI} {vs : List Nat} {Q : VK} {n b c : L2.St → Hp → Prop} {rt : VK} {a : Addr} {xs : List V}
theorem s_for (k : wi σ H fun J H1 => FORJ J g tb ⟨n, rt, b, c⟩ σ H1) : tFor wi g tb ⟨n, rt, b, c⟩ σ H := k
theorem g_lc (k : wi σ H fun J H1 => LCJ J g tt te vs σ H1 Q) : tLc wi g tt te vs σ H Q := k
theorem g_iList {R : It → Hp → Prop} (k : te σ H fun x H1 => ∃ a, x = .ref a ∧ (∃ xs, SqL K H1 a xs) ∧ R (Itl K a) H1) : iList K te σ H R := k
theorem g_iTup {R : It → Hp → Prop} (k : te σ H fun x H1 => ∃ a, x = .ref a ∧ (∃ xs, SqT K H1 a xs) ∧ R (Itt K a) H1) : iTup K te σ H R := k
theorem g_iRng1 {R : It → Hp → Prop} (k : tr σ H fun vs H1 => ∃ j : Int, vs = [.int j] ∧ -(2 ^ 62) ≤ j ∧ j < 2 ^ 62 ∧ R (Itr 0 j.toNat) H1) : iRng1 tr σ H R := k
theorem g_iRng2 {R : It → Hp → Prop} (k : tr σ H fun vs H1 => ∃ i j : Int, vs = [.int i, .int j] ∧ (-(2 ^ 62) ≤ i ∧ i < 2 ^ 62 ∧ -(2 ^ 62) ≤ j ∧ j < 2 ^ 62) ∧ R (Itr i (j - i).toNat) H1) : iRng2 tr σ H R := k
theorem g_iEnum {R : It → Hp → Prop} (k : tr σ H fun vs H1 => ∃ a xs, vs = [.ref a] ∧ SqL K H1 a xs ∧ R (Ite K a) H1) : iEnum K tr σ H R := k
theorem s_while (W : Nat → L2.St → Hp → Prop) (m0 : Nat) (h0 : W m0 σ H)
    (hs : ∀ m σ' H', W m σ' H' → tc σ' H' fun x H1 => if x = true then ∃ N : L2.St → Hp → Prop, (∀ σ2 H2, N σ2 H2 → ∃ m', m' < m ∧ W m' σ2 H2) ∧ tb ⟨N, rt, n, N⟩ σ' H1 else n σ' H1) : tWhile tc tb ⟨n, rt, b, c⟩ σ H :=
  ⟨W, ⟨m0, h0⟩, hs⟩
theorem s_turn {m : Nat} {W : Nat → L2.St → Hp → Prop} (k : tb ⟨fun σ2 H2 => ∃ m', m' < m ∧ W m' σ2 H2, rt, n, fun σ2 H2 => ∃ m', m' < m ∧ W m' σ2 H2⟩ σ H) :
    ∃ N : L2.St → Hp → Prop, (∀ σ2 H2, N σ2 H2 → ∃ m', m' < m ∧ W m' σ2 H2) ∧ tb ⟨N, rt, n, N⟩ σ H := ⟨_, fun _ _ h => h, k⟩
theorem w_list (Pv : Nat → L2.St → Hp → Prop) (hx : SqL K H a xs) (h0 : Pv 0 σ H) (hl : ∀ i σ H, Pv i σ H → SqL K H a xs)
    (hs : ∀ i x σ H, xs[i]? = some x → Pv i σ H → g x σ H fun σ2 H2 => tb ⟨Pv (i + 1), rt, n, Pv (i + 1)⟩ σ2 H2) (hd : ∀ σ H, Pv xs.length σ H → n σ H) :
    ∃ p, V.ref a = .ref p ∧ (∃ xs, SqL K H p xs) ∧ FORJ (Itl K p) g tb ⟨n, rt, b, c⟩ σ H := ⟨a, rfl, ⟨xs, hx⟩, for_list Pv h0 (fun i σ H _ p => hl i σ H p) hs hd⟩
theorem w_tup (Pv : Nat → L2.St → Hp → Prop) (hx : SqT K H a xs) (h0 : Pv 0 σ H) (hl : ∀ i σ H, Pv i σ H → SqT K H a xs)
    (hs : ∀ i x σ H, xs[i]? = some x → Pv i σ H → g x σ H fun σ2 H2 => tb ⟨Pv (i + 1), rt, n, Pv (i + 1)⟩ σ2 H2) (hd : ∀ σ H, Pv xs.length σ H → n σ H) :
    ∃ p, V.ref a = .ref p ∧ (∃ xs, SqT K H p xs) ∧ FORJ (Itt K p) g tb ⟨n, rt, b, c⟩ σ H := ⟨a, rfl, ⟨xs, hx⟩, for_tup Pv h0 (fun i σ H _ p => hl i σ H p) hs hd⟩
theorem w_rng1 {j : Int} (Pv : Nat → L2.St → Hp → Prop) (hj : -(2 ^ 62) ≤ j ∧ j < 2 ^ 62) (h0 : Pv 0 σ H)
    (hs : ∀ (i : Nat) σ H, (i : Int) < j → Pv i σ H → g (.int (i : Int)) σ H fun σ2 H2 => tb ⟨Pv (i + 1), rt, n, Pv (i + 1)⟩ σ2 H2) (hd : ∀ σ H, Pv j.toNat σ H → n σ H) :
    ∃ j' : Int, [V.int j] = [.int j'] ∧ -(2 ^ 62) ≤ j' ∧ j' < 2 ^ 62 ∧ FORJ (Itr 0 j'.toNat) g tb ⟨n, rt, b, c⟩ σ H :=
  ⟨j, rfl, hj.1, hj.2, for_range (lo := 0) Pv h0 (fun i σ H hi p => by
    have e : (0 : Int) + (i : Int) = (i : Int) := Int.zero_add _
    rw [e]
    exact hs i σ H (by omega) p) hd⟩
theorem w_rng2 {lo j : Int} (Pv : Nat → L2.St → Hp → Prop) (hj : -(2 ^ 62) ≤ lo ∧ lo < 2 ^ 62 ∧ -(2 ^ 62) ≤ j ∧ j < 2 ^ 62) (h0 : Pv 0 σ H)
    (hs : ∀ (i : Nat) σ H, lo + (i : Int) < j → Pv i σ H → g (.int (lo + (i : Int))) σ H fun σ2 H2 => tb ⟨Pv (i + 1), rt, n, Pv (i + 1)⟩ σ2 H2) (hd : ∀ σ H, Pv (j - lo).toNat σ H → n σ H) :
    ∃ i' j' : Int, [V.int lo, V.int j] = [.int i', .int j'] ∧ (-(2 ^ 62) ≤ i' ∧ i' < 2 ^ 62 ∧ -(2 ^ 62) ≤ j' ∧ j' < 2 ^ 62) ∧ FORJ (Itr i' (j' - i').toNat) g tb ⟨n, rt, b, c⟩ σ H :=
  ⟨lo, j, rfl, hj, for_range (lo := lo) Pv h0 (fun i σ H hi p => hs i σ H (by omega) p) hd⟩
/-- over enumerate(a list): each turn's pair is a new tuple -/
theorem w_enum (Pv : Nat → L2.St → Hp → Prop) (hx : SqL K H a xs) (h0 : Pv 0 σ H) (hl : ∀ i σ H, Pv i σ H → SqL K H a xs)
    (hs : ∀ (i : Nat) x T σ H, xs[i]? = some x → Pv i σ H → H T = none → g (.ref T) σ (upd H T (.tup [.int (i : Int), x])) fun σ2 H2 => tb ⟨Pv (i + 1), rt, n, Pv (i + 1)⟩ σ2 H2) (hd : ∀ σ H, Pv xs.length σ H → n σ H) :
    ∃ p xs, [V.ref a] = [.ref p] ∧ SqL K H p xs ∧ FORJ (Ite K p) g tb ⟨n, rt, b, c⟩ σ H := by
  refine ⟨a, xs, rfl, hx, fun i m σ H => m = xs.length - i ∧ i ≤ xs.length ∧ Pv i σ H, ⟨xs.length, rfl, Nat.zero_le _, h0⟩, ?_⟩
  rintro i m σ H ⟨rfl, hi, p⟩
  have q := hl i σ H p
  by_cases hlt : i < xs.length
  · refine .inr ⟨⟨xs, xs[i], q, by simp [hlt]⟩, Pv (i + 1), fun σ' H' p' => ⟨xs.length - (i + 1), by omega, rfl, hlt, p'⟩, fun v H' y => ?_⟩
    obtain ⟨T, x, rfl, hT, rfl, hxx⟩ := y
    exact hs i x T σ H (hxx xs q) p hT
  · have e : i = xs.length := by omega
    subst e
    exact .inl ⟨⟨xs, q, Nat.le_refl _⟩, hd _ _ p⟩
/-! ### comprehensions: F says what holds behind i turns of what has been given (acc) and of what may be changed -/
def CP (G : Hp) (D : Addr) (F : Nat → List V → Hp → List (Addr × HO) → Prop) (i : Nat) (H : Hp) : Prop := ∃ acc G1 L1, Ex G G1 ∧ acc.length ≤ i ∧ F i acc G1 L1 ∧ Own G1 ((D, .lst acc) :: L1) H
def CE (G : Hp) (D : Addr) (F : Nat → List V → Hp → List (Addr × HO) → Prop) (i : Nat) (y : V) (H : Hp) : Prop := ∃ acc, H D = some (.lst acc) ∧ acc.length < sizeLine ∧ CP G D F (i + 1) (upd H D (.lst (acc ++ [y])))
theorem c_yes {F : Nat → List V → Hp → List (Addr × HO) → Prop} {D : Addr} {i : Nat} {acc : List V} {G1 : Hp} {L1 : List (Addr × HO)} {y : V} (S : Own G1 ((D, .lst acc) :: L1) H) (e : Ex G G1) (hl : acc.length ≤ i) (hi : i < 1000000) (f : F (i + 1) (acc ++ [y]) G1 L1) : CE G D F i y H :=
  ⟨acc, S.get0, Nat.lt_of_le_of_lt hl (Nat.lt_trans hi (by decide)), acc ++ [y], G1, L1, e, by rw [List.length_append]; exact Nat.succ_le_succ hl, f, S.put0⟩
theorem c_no {F : Nat → List V → Hp → List (Addr × HO) → Prop} {D : Addr} {i : Nat} {acc : List V} {G1 : Hp} {L1 : List (Addr × HO)} (S : Own G1 ((D, .lst acc) :: L1) H) (e : Ex G G1) (hl : acc.length ≤ i) (f : F (i + 1) acc G1 L1) : CP G D F (i + 1) H :=
  ⟨acc, G1, L1, e, Nat.le_succ_of_le hl, f, S⟩
theorem v_list (F : Nat → List V → Hp → List (Addr × HO) → Prop) (S : Own G L H) (hx : SqL K G a xs) (hz : xs.length ≤ 1000000) (h0 : F 0 [] G L)
    (hs : ∀ D i x acc G1 L1 H1, xs[i]? = some x → i < 1000000 → Ex G G1 → acc.length ≤ i → F i acc G1 L1 → Own G1 ((D, .lst acc) :: L1) H1 → g x (wipe σ vs) H1 fun σ2 H2 => wipe σ2 vs = wipe σ vs ∧ tt σ2 H2 fun b H3 =>
      if b = true then te σ2 H3 fun y H4 => CE G D F i y H4 else CP G D F (i + 1) H3)
    (hd : ∀ p acc G1 L1 H1, Ex G G1 → acc.length ≤ xs.length → F xs.length acc G1 L1 → Own G1 ((p, .lst acc) :: L1) H1 → Q (.ref p) H1) :
    ∃ p, V.ref a = .ref p ∧ (∃ xs, SqL K H p xs) ∧ LCJ (Itl K p) g tt te vs σ H Q :=
  ⟨a, rfl, ⟨xs, S.sl hx⟩, fun D hD => lc_list (K := K) (a := a) (xs := xs) (CP G D F) ⟨[], G, L, Ex.refl G, Nat.le_refl _, h0, S.lay hD⟩ (fun i H1 _ ⟨acc, G1, L1, e, _, _, S1⟩ => S1.sl (ex_l e hx))
    (fun i x H1 hi ⟨acc, G1, L1, e, hl, f, S1⟩ => hs D i x acc G1 L1 H1 hi (Nat.lt_of_lt_of_le (List.getElem?_eq_some_iff.mp hi).1 hz) e hl f S1) (fun H1 ⟨acc, G1, L1, e, hl, f, S1⟩ => hd D acc G1 L1 H1 e hl f S1)⟩
theorem v_tup (F : Nat → List V → Hp → List (Addr × HO) → Prop) (S : Own G L H) (hx : SqT K G a xs) (hz : xs.length ≤ 1000000) (h0 : F 0 [] G L)
    (hs : ∀ D i x acc G1 L1 H1, xs[i]? = some x → i < 1000000 → Ex G G1 → acc.length ≤ i → F i acc G1 L1 → Own G1 ((D, .lst acc) :: L1) H1 → g x (wipe σ vs) H1 fun σ2 H2 => wipe σ2 vs = wipe σ vs ∧ tt σ2 H2 fun b H3 =>
      if b = true then te σ2 H3 fun y H4 => CE G D F i y H4 else CP G D F (i + 1) H3)
    (hd : ∀ p acc G1 L1 H1, Ex G G1 → acc.length ≤ xs.length → F xs.length acc G1 L1 → Own G1 ((p, .lst acc) :: L1) H1 → Q (.ref p) H1) :
    ∃ p, V.ref a = .ref p ∧ (∃ xs, SqT K H p xs) ∧ LCJ (Itt K p) g tt te vs σ H Q :=
  ⟨a, rfl, ⟨xs, S.st hx⟩, fun D hD => lc_tup (K := K) (a := a) (xs := xs) (CP G D F) ⟨[], G, L, Ex.refl G, Nat.le_refl _, h0, S.lay hD⟩ (fun i H1 _ ⟨acc, G1, L1, e, _, _, S1⟩ => S1.st (ex_t e hx))
    (fun i x H1 hi ⟨acc, G1, L1, e, hl, f, S1⟩ => hs D i x acc G1 L1 H1 hi (Nat.lt_of_lt_of_le (List.getElem?_eq_some_iff.mp hi).1 hz) e hl f S1) (fun H1 ⟨acc, G1, L1, e, hl, f, S1⟩ => hd D acc G1 L1 H1 e hl f S1)⟩
theorem v_rng1 {j : Int} (F : Nat → List V → Hp → List (Addr × HO) → Prop) (S : Own G L H) (hj : 0 ≤ j ∧ j ≤ 1000000) (h0 : F 0 [] G L)
    (hs : ∀ D (i : Nat) acc G1 L1 H1, (i : Int) < j → i < 1000000 → Ex G G1 → acc.length ≤ i → F i acc G1 L1 → Own G1 ((D, .lst acc) :: L1) H1 → g (.int (i : Int)) (wipe σ vs) H1 fun σ2 H2 => wipe σ2 vs = wipe σ vs ∧ tt σ2 H2 fun b H3 =>
      if b = true then te σ2 H3 fun y H4 => CE G D F i y H4 else CP G D F (i + 1) H3)
    (hd : ∀ p acc G1 L1 H1, Ex G G1 → acc.length ≤ j.toNat → F j.toNat acc G1 L1 → Own G1 ((p, .lst acc) :: L1) H1 → Q (.ref p) H1) :
    ∃ j' : Int, [V.int j] = [.int j'] ∧ -(2 ^ 62) ≤ j' ∧ j' < 2 ^ 62 ∧ LCJ (Itr 0 j'.toNat) g tt te vs σ H Q :=
  ⟨j, rfl, by omega, by omega, fun D hD => lc_range (lo := 0) (n := j.toNat) (CP G D F) ⟨[], G, L, Ex.refl G, Nat.le_refl _, h0, S.lay hD⟩
    (fun i H1 hi ⟨acc, G1, L1, e, hl, f, S1⟩ => by
      have z : (0 : Int) + (i : Int) = (i : Int) := Int.zero_add _
      rw [z]
      exact hs D i acc G1 L1 H1 (by omega) (by omega) e hl f S1) (fun H1 ⟨acc, G1, L1, e, hl, f, S1⟩ => hd D acc G1 L1 H1 e hl f S1)⟩
theorem v_rng2 {lo j : Int} (F : Nat → List V → Hp → List (Addr × HO) → Prop) (S : Own G L H) (hj : -1000 ≤ lo ∧ lo ≤ 1000000 ∧ -1000 ≤ j ∧ j ≤ 900000) (h0 : F 0 [] G L)
    (hs : ∀ D (i : Nat) acc G1 L1 H1, lo + (i : Int) < j → i < 1000000 → Ex G G1 → acc.length ≤ i → F i acc G1 L1 → Own G1 ((D, .lst acc) :: L1) H1 → g (.int (lo + (i : Int))) (wipe σ vs) H1 fun σ2 H2 => wipe σ2 vs = wipe σ vs ∧ tt σ2 H2 fun b H3 =>
      if b = true then te σ2 H3 fun y H4 => CE G D F i y H4 else CP G D F (i + 1) H3)
    (hd : ∀ p acc G1 L1 H1, Ex G G1 → acc.length ≤ (j - lo).toNat → F (j - lo).toNat acc G1 L1 → Own G1 ((p, .lst acc) :: L1) H1 → Q (.ref p) H1) :
    ∃ i' j' : Int, [V.int lo, V.int j] = [.int i', .int j'] ∧ (-(2 ^ 62) ≤ i' ∧ i' < 2 ^ 62 ∧ -(2 ^ 62) ≤ j' ∧ j' < 2 ^ 62) ∧ LCJ (Itr i' (j' - i').toNat) g tt te vs σ H Q :=
  ⟨lo, j, rfl, ⟨by omega, by omega, by omega, by omega⟩, fun D hD => lc_range (lo := lo) (n := (j - lo).toNat) (CP G D F) ⟨[], G, L, Ex.refl G, Nat.le_refl _, h0, S.lay hD⟩
    (fun i H1 hi ⟨acc, G1, L1, e, hl, f, S1⟩ => hs D i acc G1 L1 H1 (by omega) (by omega) e hl f S1) (fun H1 ⟨acc, G1, L1, e, hl, f, S1⟩ => hd D acc G1 L1 H1 e hl f S1)⟩
theorem g_yes {Q : Bool → Hp → Prop} (k : Q true H) : tYes σ H Q := k
end
/-! ### tests -/
theorem if_tt {c : Bool} {A B : Prop} (e : c = true) (h : A) : if c = true then A else B := by rw [if_pos e]; exact h
theorem if_ff {c : Bool} {A B : Prop} (e : c = false) (h : B) : if c = true then A else B := by rw [if_neg (by rw [e]; exact Bool.false_ne_true)]; exact h
theorem if_2 {c : Bool} {A B : Prop} (h1 : c = true → A) (h2 : c = false → B) : if c = true then A else B := by
  cases c with
  | true => exact if_tt rfl (h1 rfl)
  | false => exact if_ff rfl (h2 rfl)
theorem dtrue' {p : Prop} [Decidable p] (h : p) : decide p = true := decide_eq_true h
theorem dfalse' {p : Prop} [Decidable p] (h : ¬p) : decide p = false := decide_eq_false h
theorem if_nt {A B : Prop} (h : B) : if (!true) = true then A else B := if_ff rfl h
theorem if_nf {A B : Prop} (h : A) : if (!false) = true then A else B := if_tt rfl h
theorem ntrue {p : Prop} [Decidable p] (h : p) : (!decide p) = false := by rw [dtrue' h]; rfl
theorem nfalse {p : Prop} [Decidable p] (h : ¬p) : (!decide p) = true := by rw [dfalse' h]; rfl
theorem dtrue {p : Prop} [Decidable p] (h : p) : decide p = true := decide_eq_true h
theorem dfalse {p : Prop} [Decidable p] (h : ¬p) : decide p = false := decide_eq_false h
theorem small {n : Nat} (h : n ≤ 10000000) : n ≤ sizeLine := Nat.le_trans h (by decide)
theorem smallL {n : Nat} (h : n ≤ 10000000) : n < sizeLine := Nat.lt_of_le_of_lt h (by decide)
section
variable {K : PySem.W.Frag} {G H : Hp} {L : List (Addr × HO)} {p : Addr} {xs : List V} {v : V} {Q : VK}
/-- a new list | a new tuple has been laid -/
theorem n_lst (S : Own G L H) (hz : xs.length ≤ 10000000) (k : ∀ p H1, H p = none → Own G ((p, .lst xs) :: L) H1 → Q (.ref p) H1) : NewL xs H Q :=
  ⟨small hz, fun p hp => k p _ hp (S.lay hp)⟩
/-- a new object stands still from now on -/
theorem Own.still {o : HO} (S : Own G L H) (hp : H p = none) : Own (upd G p o) L (upd H p o) ∧ Ex G (upd G p o) ∧ upd G p o p = some o :=
  ⟨⟨fun a u h => by
      by_cases e : a = p
      · subst e
        rw [upd_same] at h ⊢
        exact h
      · rw [upd_ne e] at h ⊢
        exact S.ex _ _ h, fun x hx => by
      have ne : x.1 ≠ p := fun e => S.fresh hp (e ▸ List.mem_map_of_mem hx)
      rw [upd_ne ne, upd_ne ne]
      exact S.at_ x hx, S.nd, S.nt⟩, Ex.new (fresh_back S.ex hp), upd_same⟩
theorem n_tup (S : Own G L H) (hz : xs.length ≤ 10000000) (k : ∀ p G1 H1, H p = none → Ex G G1 → Ex H H1 → G1 p = some (.tup xs) → Own G1 L H1 → Q (.ref p) H1) : NewT xs H Q :=
  ⟨small hz, fun p hp => k p _ _ hp (S.still hp).2.1 (Ex.new hp) (S.still hp).2.2 (S.still hp).1⟩
/-- a new list that is only read from now on -/
theorem n_lstG (S : Own G L H) (hz : xs.length ≤ 10000000) (k : ∀ p G1 H1, H p = none → Ex G G1 → Ex H H1 → G1 p = some (.lst xs) → Own G1 L H1 → Q (.ref p) H1) : NewL xs H Q :=
  ⟨small hz, fun p hp => k p _ _ hp (S.lay hp).freeze.2.1 (Ex.new hp) (S.lay hp).freeze.2.2 (S.lay hp).freeze.1⟩
/-- list(range(a, b)) -/
theorem n_rg {a b : Int} (S : Own G L H) (h : -1000 ≤ a ∧ a ≤ 1000000 ∧ -1000 ≤ b ∧ b ≤ 1000000) (k : ∀ p H1, H p = none → Own G ((p, .lst (rgV a b)) :: L) H1 → Q (.ref p) H1) : NewR a b H Q :=
  ⟨⟨by omega, by omega, by omega, by omega, by omega⟩, fun p hp => k p _ hp (S.lay hp)⟩
theorem n_rgG {a b : Int} (S : Own G L H) (h : -1000 ≤ a ∧ a ≤ 1000000 ∧ -1000 ≤ b ∧ b ≤ 1000000) (k : ∀ p G1 H1, H p = none → Ex G G1 → Ex H H1 → G1 p = some (.lst (rgV a b)) → Own G1 L H1 → Q (.ref p) H1) : NewR a b H Q :=
  ⟨⟨by omega, by omega, by omega, by omega, by omega⟩, fun p hp => k p _ _ hp (S.lay hp).freeze.2.1 (Ex.new hp) (S.lay hp).freeze.2.2 (S.lay hp).freeze.1⟩
theorem g_lrg {te : L2.St → Hp → (Int → Int → Hp → Prop) → Prop} {σ : L2.St} (k : te σ H fun a b H1 => NewR a b H1 Q) : tLstRg te σ H Q := k
theorem g_rg1 {ta : TE} {σ : L2.St} {R : Int → Int → Hp → Prop} (k : ta σ H fun x H1 => ∃ n, x = .int n ∧ R 0 n H1) : tRg1 ta σ H R := k
theorem g_rg2 {ta tb : TE} {σ : L2.St} {R : Int → Int → Hp → Prop} (k : ta σ H fun x H1 => tb σ H1 fun y H2 => ∃ i j, x = .int i ∧ y = .int j ∧ R i j H2) : tRg2 ta tb σ H R := k
theorem g_ex2I {i j : Int} {R : Int → Int → Prop} (k : R i j) : ∃ i' j', V.int i = .int i' ∧ V.int j = .int j' ∧ R i' j' := ⟨i, j, rfl, rfl, k⟩
/-- len(a list) -/
theorem n_len (h : SqL K H p xs) (k : Q (.int xs.length) H) : Evl.rLenS K [.ref p] H Q := ⟨p, xs, rfl, .inl h, k⟩
theorem n_lenT (h : SqT K H p xs) (k : Q (.int xs.length) H) : Evl.rLenS K [.ref p] H Q := ⟨p, xs, rfl, .inr h, k⟩
theorem n_int {i : Int} (k : Q (.int i) H) : rInt1 [.int i] H Q := .inl ⟨i, rfl, k⟩
theorem n_intB {b : Bool} (k : Q (.int (if b then 1 else 0)) H) : rInt1 [.bl b] H Q := .inr ⟨b, rfl, k⟩
theorem n_min {i j : Int} (k : Q (.int (min i j)) H) : rMin2 [.int i, .int j] H Q := ⟨i, j, rfl, by
  have e : (if j < i then j else i) = min i j := by split <;> omega
  rw [e]; exact k⟩
theorem n_max {i j : Int} (k : Q (.int (max i j)) H) : rMax2 [.int i, .int j] H Q := ⟨i, j, rfl, by
  have e : (if j > i then j else i) = max i j := by split <;> omega
  rw [e]; exact k⟩
/-- list(a list), tuple(a list) -/
theorem n_list (S : Own G L H) (h : SqL K H p xs) (k : ∀ p H1, H p = none → Own G ((p, .lst xs) :: L) H1 → Q (.ref p) H1) : Evl.rListS K [.ref p] H Q := ⟨p, xs, rfl, .inl h, fun p hp => k p _ hp (S.lay hp)⟩
theorem n_listT (S : Own G L H) (h : SqT K H p xs) (k : ∀ p H1, H p = none → Own G ((p, .lst xs) :: L) H1 → Q (.ref p) H1) : Evl.rListS K [.ref p] H Q := ⟨p, xs, rfl, .inr h, fun p hp => k p _ hp (S.lay hp)⟩
theorem n_tupL (S : Own G L H) (h : SqL K H p xs) (k : ∀ p G1 H1, H p = none → Ex G G1 → Ex H H1 → G1 p = some (.tup xs) → Own G1 L H1 → Q (.ref p) H1) : rTupS K [.ref p] H Q :=
  ⟨p, xs, rfl, .inl ⟨h, fun p hp => k p _ _ hp (S.still hp).2.1 (Ex.new hp) (S.still hp).2.2 (S.still hp).1⟩⟩
theorem n_isN (k : Q (.bl (decide (v = .non))) H) : rIsN v .non H Q := ⟨rfl, k⟩
theorem n_notN (k : Q (.bl (!decide (v = .non))) H) : rNotN v .non H Q := ⟨rfl, k⟩
/-- xs.append(v), the list at the head of what may be changed -/
theorem n_app (S : Own G ((p, .lst xs) :: L) H) (hz : xs.length ≤ 1000000) (k : ∀ H1, Own G ((p, .lst (xs ++ [v])) :: L) H1 → Q .non H1) : rAppend (.ref p) [v] H Q :=
  ⟨p, xs, v, rfl, rfl, S.get0, smallL (Nat.le_trans hz (by decide)), k _ S.put0⟩
theorem n_app1 {q : Addr} {o : HO} (S : Own G ((q, o) :: (p, .lst xs) :: L) H) (hz : xs.length ≤ 1000000) (k : ∀ H1, Own G ((q, o) :: (p, .lst (xs ++ [v])) :: L) H1 → Q .non H1) : rAppend (.ref p) [v] H Q :=
  ⟨p, xs, v, rfl, rfl, S.get1, smallL (Nat.le_trans hz (by decide)), k _ S.put1⟩
theorem n_app2 {q r : Addr} {o o2 : HO} (S : Own G ((r, o2) :: (q, o) :: (p, .lst xs) :: L) H) (hz : xs.length ≤ 1000000) (k : ∀ H1, Own G ((r, o2) :: (q, o) :: (p, .lst (xs ++ [v])) :: L) H1 → Q .non H1) : rAppend (.ref p) [v] H Q :=
  ⟨p, xs, v, rfl, rfl, S.get2, smallL (Nat.le_trans hz (by decide)), k _ S.put2⟩
/-- append to the j-th of what may be changed -/
theorem n_appM {j : Nat} (S : Own G L H) (h : L[j]? = some (p, .lst xs)) (hz : xs.length ≤ 1000000) (k : ∀ H1, Own G (L.set j (p, .lst (xs ++ [v]))) H1 → Q .non H1) : rAppend (.ref p) [v] H Q :=
  ⟨p, xs, v, rfl, rfl, S.getM (List.mem_of_getElem? h), smallL (Nat.le_trans hz (by decide)), k _ (S.putM h)⟩
theorem cutV_to (xs : List V) (i : Nat) : cutV xs none (some (i : Int)) = xs.take i := by
  unfold cutV
  rw [HT.sIx_none, HT.sIx_nat, List.drop_zero, Nat.sub_zero]
  by_cases h : i ≤ xs.length
  · rw [Nat.min_eq_left h]
  · rw [Nat.min_eq_right (by omega), List.take_length, List.take_of_length_le (by omega)]
theorem cutV_from (xs : List V) (i : Nat) : cutV xs (some (i : Int)) none = xs.drop i := by
  unfold cutV
  rw [HT.sIx_none, HT.sIx_nat]
  by_cases h : i ≤ xs.length
  · rw [Nat.min_eq_left h]
    exact List.take_of_length_le (by rw [List.length_drop]; omega)
  · rw [Nat.min_eq_right (by omega), List.drop_length, List.drop_of_length_le (by omega), List.take_nil]
theorem cutV_all (xs : List V) : cutV xs none none = xs := by
  unfold cutV
  rw [HT.sIx_none, HT.sIx_none, List.drop_zero, Nat.sub_zero, List.take_length]
/-- xs[lo:hi] of a list, read from now on -/
theorem n_sl {lo hi : Option Int} (S : Own G L H) (h : SqL K H p xs) (k : ∀ p G1 H1, H p = none → Ex G G1 → Ex H H1 → G1 p = some (.lst (cutV xs lo hi)) → Own G1 L H1 → Q (.ref p) H1) : rSlL K (.ref p) lo hi H Q :=
  ⟨p, xs, rfl, h, fun p hp => k p _ _ hp (S.still hp).2.1 (Ex.new hp) (S.still hp).2.2 (S.still hp).1⟩
theorem n_slL {lo hi : Option Int} (S : Own G L H) (h : SqL K H p xs) (k : ∀ p H1, H p = none → Own G ((p, .lst (cutV xs lo hi)) :: L) H1 → Q (.ref p) H1) : rSlL K (.ref p) lo hi H Q :=
  ⟨p, xs, rfl, h, fun p hp => k p _ hp (S.lay hp)⟩
theorem tyL (h : SqL K H p xs) : tyV K "list" (.ref p) H := .inl ⟨rfl, xs, h⟩
theorem Own.l0 (S : Own G ((p, .lst xs) :: L) H) : SqL K H p xs := SqL.of S.get0
theorem Own.l1 {q : Addr} {o : HO} (S : Own G ((q, o) :: (p, .lst xs) :: L) H) : SqL K H p xs := SqL.of S.get1
theorem Own.l2 {q r : Addr} {o o2 : HO} (S : Own G ((r, o2) :: (q, o) :: (p, .lst xs) :: L) H) : SqL K H p xs := SqL.of S.get2
end
/-! ### attributes -/
def GETF (K : PySem.W.Frag) (x : V) (f : Str) (H : Hp) (Q : VK) : Prop := ∃ a C dx fs v, x = .ref a ∧ H a = some (.ins C dx fs) ∧ Cls K C ∧ NoAttr K C f ∧ fs.lookup f = some v ∧ Q v H
def SETF (K : PySem.W.Frag) (x : V) (f : Str) (y : V) (H : Hp) (R : Hp → Prop) : Prop := ∃ a C dx fs, x = .ref a ∧ H a = some (.ins C dx fs) ∧ Cls K C ∧ NoAttr K C f ∧ fs.length < 1000 ∧ R (upd H a (.ins C dx (putF f y fs)))
section
variable {K : PySem.W.Frag} {σ : L2.St} {G H : Hp} {L : List (Addr × HO)} {ta tv : TE} {f : Str} {Q : VK} {n b c : L2.St → Hp → Prop} {rt : VK} {a C dx : Addr} {fs : List (Str × V)} {v y : V}
theorem g_fld (k : ta σ H fun x H1 => GETF K x f H1 Q) : tFld K ta f σ H Q := k
theorem s_fld (k : tv σ H fun y H1 => ta σ H1 fun x H2 => SETF K x f y H2 (n σ)) : sFld K ta tv f ⟨n, rt, b, c⟩ σ H := k
theorem n_fld (h : H a = some (.ins C dx fs)) (c : Cls K C) (n : NoAttr K C f) (l : fs.lookup f = some v) (k : Q v H) : GETF K (.ref a) f H Q := ⟨a, C, dx, fs, v, rfl, h, c, n, l, k⟩
theorem n_setF {R : Hp → Prop} (S : Own G ((a, .ins C dx fs) :: L) H) (c : Cls K C) (n : NoAttr K C f) (hl : fs.length < 1000) (k : ∀ H1, Own G ((a, .ins C dx (putF f y fs)) :: L) H1 → R H1) : SETF K (.ref a) f y H R := ⟨a, C, dx, fs, rfl, S.get0, c, n, hl, k _ S.put0⟩
end
/-! ### list + list, also of lists that are only known -/
def rCatL (K : PySem.W.Frag) : R2 := fun x y H Q => ∃ l b xs zs, x = .ref l ∧ y = .ref b ∧ SqL K H l xs ∧ SqL K H b zs ∧ xs.length + zs.length ≤ sizeLine ∧ ∀ p, H p = none → Q (.ref p) (upd H p (.lst (xs ++ zs)))
theorem op_catL {X : Cx} : OpR X (binaryOp .Add) (rCatL X.K) := by
  intro pins s σ H x y v u Q I rx ry h
  obtain ⟨l, b, xs, zs, rfl, rfl, hH, hB, hz, q⟩ := h
  cases rx
  cases ry
  obtain ⟨its, r, hl, h1⟩ := I.list hH
  obtain ⟨its2, r2, hb, h2⟩ := I.list hB
  obtain ⟨⟨cls, dd, data, sl⟩, ho, hc, n, hd⟩ := id hl.isList
  obtain ⟨⟨cls2, dd2, data2, sl2⟩, ho2, hc2, n2, hd2⟩ := id hb.isList
  simp only at hc hd hc2 hd2
  subst hc hd hc2 hd2
  have e : its.toArray ++ its2.toArray = (its ++ its2).toArray := by simp
  have hl1 := r.length
  have hl2 := r2.length
  refine concat_meets ⟨_, ho, rfl⟩ ⟨_, ho2, rfl⟩ noFill_list_add seq_list_add PySem.F.slot_list_add PySem.F.entry_list_add (PySem.F.args_list_add_2 _ _) (list_addW l b its.toArray its2.toArray n n2 dd dd2 sl sl2 (by simp; omega)) ⟨ho, ho2, ?_⟩
  rw [e]
  exact ⟨.ref _, _, I.lnew (t' := s.toks) (r.append r2) (by rw [List.length_append]; exact hz), rfl, q _ I.fresh⟩
theorem n_cat {K : PySem.W.Frag} {G H : Hp} {L : List (Addr × HO)} {l b : Addr} {xs zs : List V} {Q : VK} (S : Own G L H) (hx : SqL K H l xs) (hz : SqL K H b zs) (h : xs.length + zs.length ≤ 10000000) (k : ∀ p H1, H p = none → Own G ((p, .lst (xs ++ zs)) :: L) H1 → Q (.ref p) H1) : rCatL K (.ref l) (.ref b) H Q :=
  ⟨l, b, xs, zs, rfl, rfl, hx, hz, small h, fun p hp => k p _ hp (S.lay hp)⟩
theorem n_catG {K : PySem.W.Frag} {G H : Hp} {L : List (Addr × HO)} {l b : Addr} {xs zs : List V} {Q : VK} (S : Own G L H) (hx : SqL K H l xs) (hz : SqL K H b zs) (h : xs.length + zs.length ≤ 10000000) (k : ∀ p G1 H1, H p = none → Ex G G1 → Ex H H1 → G1 p = some (.lst (xs ++ zs)) → Own G1 L H1 → Q (.ref p) H1) : rCatL K (.ref l) (.ref b) H Q :=
  ⟨l, b, xs, zs, rfl, rfl, hx, hz, small h, fun p hp => k p _ _ hp (S.still hp).2.1 (Ex.new hp) (S.still hp).2.2 (S.still hp).1⟩
/-! ### methods, new instances -/
/-- the method m of the class at C -/
def Mth (P : Program) (w : World) (K : PySem.W.Frag) (mg : Str → Option Value) (base : Heap) (k : Nat) (C : Addr) (m : Str) (ps : List Str) (sp : Sp) : Prop :=
  ∃ (f : Addr) (fd : FuncData), Meth K C m f ∧ FnOk P w K mg base (L2.CX P w) k f fd ps sp ∧ Binds K fd ps []
/-- the class x at C, made by an __init__ that keeps sp -/
def Cnw (P : Program) (w : World) (K : PySem.W.Frag) (mg : Str → Option Value) (base : Heap) (k : Nat) (x : Str) (C : Addr) (ps : List Str) (sp : Sp) : Prop :=
  ∃ (f : Addr) (fd : FuncData), Mk K C f ∧ FnOk P w K mg base (L2.CX P w) k f fd ps sp ∧ mg x = some (.ref C) ∧ Binds K fd ps []
def INS (C : Addr) (m : Str) (x : V) (H : Hp) : Prop := ∃ a dx fs, x = .ref a ∧ H a = some (.ins C dx fs) ∧ fs.lookup m = none
def tMth (C : Addr) (m : Str) (sp : Sp) (E : XK) (ta : TE) (t : TA) : TE := fun σ H Q => ta σ H fun x H1 => INS C m x H1 ∧ t σ H1 fun vs H2 => sp (x :: vs) H2 Q E
def MAKE (C : Addr) (sp : Sp) (E : XK) (vs : List V) (H1 : Hp) (Q : VK) : Prop := ∀ x dx, H1 x = none → H1 dx = none → dx ≠ x → sp (.ref x :: vs) (upd (upd H1 dx (.own x)) x (.ins C dx [])) (fun v H2 => v = .non ∧ Q (.ref x) H2) E
def tNew (C : Addr) (sp : Sp) (E : XK) (t : TA) : TE := fun σ H Q => t σ H fun vs H1 => MAKE C sp E vs H1 Q
section
variable {X : Cx} {k : Nat} {C : Addr} {m x : Str} {ps : List Str} {sp : Sp} {E : XK} {o e : Expr} {es : List Expr} {ta : TE} {t : TA} {p apos pos : Pos}
theorem pe_mth {pl : Sem Bool} (he : PE X o ta) (M : Mth X.prog X.w X.K X.mg X.base k C m ps sp) (c : Cls X.K C) (hr : Room k X.A) (hx : Passes (L2.CX X.prog X.w) X E) (ha : PA X (e :: es) t)
    (ht : eval (.Call (.Attribute o m apos) (e :: es) [] pos) X.env = (do
      let ov ← eval o X.env
      standAt apos.atName
      let (f, first) ← holding [ov] (getMethod ov m pl)
      callWith pos f first (backTo pos (starEach (e :: es) X.env)) (backToKw pos (keywordEach [] X.env))) := by rfl)
    (hst : starEach (e :: es) X.env = (false, eval e X.env) :: starEach es X.env := by rfl) (hpl : (backTo pos (starEach es X.env)).any (·.1) = false := by rfl) :
    PE X (.Call (.Attribute o m apos) (e :: es) [] pos) (tMth C m sp E ta t) := by
  obtain ⟨f, fd, hm, F, hb⟩ := M
  have q : PE X (.Call (.Attribute o m apos) (e :: es) [] pos) (tMeth C m sp [] E ta t) := pe_meth (pl := pl) he c hm F hr hb .nil hx ha hst hpl ht
  refine ⟨fun pins s σ H Q I h => q.run pins s σ H Q I ?_⟩
  have e : ∀ x : V, (fun (vs : List V) (H1 : Hp) => sp (x :: (vs ++ [])) H1 Q E) = (fun vs H1 => sp (x :: vs) H1 Q E) := fun x => by
    funext vs H1
    rw [List.append_nil]
  have e2 : (fun (x : V) (H1 : Hp) => ∃ a dx fs, x = .ref a ∧ H1 a = some (.ins C dx fs) ∧ fs.lookup m = none ∧ t σ H1 fun vs H2 => sp (x :: (vs ++ [])) H2 Q E) = (fun x H1 => INS C m x H1 ∧ t σ H1 fun vs H2 => sp (x :: vs) H2 Q E) := by
    funext x H1
    rw [e x]
    exact propext ⟨fun ⟨a, dx, fs, h1, h2, h3, h4⟩ => ⟨⟨a, dx, fs, h1, h2, h3⟩, h4⟩, fun ⟨⟨a, dx, fs, h1, h2, h3⟩, h4⟩ => ⟨a, dx, fs, h1, h2, h3, h4⟩⟩
  show ta σ H fun x H1 => ∃ a dx fs, x = .ref a ∧ H1 a = some (.ins C dx fs) ∧ fs.lookup m = none ∧ t σ H1 fun vs H2 => sp (x :: (vs ++ [])) H2 Q E
  rw [e2]
  exact h
theorem pe_mth0 {pl : Sem Bool} (he : PE X o ta) (M : Mth X.prog X.w X.K X.mg X.base k C m ps sp) (c : Cls X.K C) (hr : Room k X.A) (hx : Passes (L2.CX X.prog X.w) X E)
    (ht : eval (.Call (.Attribute o m apos) [] [] pos) X.env = (do
      let ov ← eval o X.env
      standAt apos.atName
      let (f, first) ← holding [ov] (getMethod ov m pl)
      callWith pos f first (backTo pos (starEach [] X.env)) (backToKw pos (keywordEach [] X.env))) := by rfl) :
    PE X (.Call (.Attribute o m apos) [] [] pos) (tMth C m sp E ta tNil) := by
  obtain ⟨f, fd, hm, F, hb⟩ := M
  have q : PE X (.Call (.Attribute o m apos) [] [] pos) (tMeth C m sp [] E ta tNil) := pe_meth0 (pl := pl) he c hm F hr hb .nil hx ht
  refine ⟨fun pins s σ H Q I h => q.run pins s σ H Q I ?_⟩
  have e2 : (fun (x : V) (H1 : Hp) => ∃ a dx fs, x = .ref a ∧ H1 a = some (.ins C dx fs) ∧ fs.lookup m = none ∧ sp (x :: ([] ++ [])) H1 Q E) = (fun x H1 => INS C m x H1 ∧ sp (x :: []) H1 Q E) := by
    funext x H1
    exact propext ⟨fun ⟨a, dx, fs, h1, h2, h3, h4⟩ => ⟨⟨a, dx, fs, h1, h2, h3⟩, h4⟩, fun ⟨⟨a, dx, fs, h1, h2, h3⟩, h4⟩ => ⟨a, dx, fs, h1, h2, h3, h4⟩⟩
  show ta σ H fun x H1 => ∃ a dx fs, x = .ref a ∧ H1 a = some (.ins C dx fs) ∧ fs.lookup m = none ∧ sp (x :: ([] ++ [])) H1 Q E
  rw [e2]
  exact h
theorem pe_new (N : Cnw X.prog X.w X.K X.mg X.base k x C ps sp) (hr : Room (k + 1) X.A) (hx : Passes (L2.CX X.prog X.w) X E) (ha : PA X (e :: es) t) (hg : Gl X x := by rfl)
    (hdb : (x == ("__debug__" : Str)) = false := by decide) (he : starEach (e :: es) X.env = (false, eval e X.env) :: starEach es X.env := by rfl) (hpl : (backTo pos (starEach es X.env)).any (·.1) = false := by rfl) :
    PE X (.Call (.Name x p) (e :: es) [] pos) (tNew C sp E t) := by
  obtain ⟨f, fd, M, F, hm, hb⟩ := N
  have q : PE X (.Call (.Name x p) (e :: es) [] pos) (tMake C sp [] E t) := pe_make M F hr hg hm hb .nil hx ha hdb he hpl
  refine ⟨fun pins s σ H Q I h => q.run pins s σ H Q I ?_⟩
  have e2 : (fun (vs : List V) (H1 : Hp) => ∀ x dx, H1 x = none → H1 dx = none → dx ≠ x → sp (.ref x :: (vs ++ [])) (upd (upd H1 dx (.own x)) x (.ins C dx [])) (fun v H2 => v = .non ∧ Q (.ref x) H2) E) = (fun vs H1 => MAKE C sp E vs H1 Q) := by
    funext vs H1
    rw [List.append_nil] <;> rfl
  show t σ H fun vs H1 => ∀ x dx, H1 x = none → H1 dx = none → dx ≠ x → sp (.ref x :: (vs ++ [])) (upd (upd H1 dx (.own x)) x (.ins C dx [])) (fun v H2 => v = .non ∧ Q (.ref x) H2) E
  rw [e2]
  exact h
theorem g_mth {σ : L2.St} {H : Hp} {Q : VK} (k : ta σ H fun x H1 => INS C m x H1 ∧ t σ H1 fun vs H2 => sp (x :: vs) H2 Q E) : tMth C m sp E ta t σ H Q := k
theorem g_new {σ : L2.St} {H : Hp} {Q : VK} (k : t σ H fun vs H1 => MAKE C sp E vs H1 Q) : tNew C sp E t σ H Q := k
end
/-! ### len, == and != of instances -/
section
variable {prog : Program} {w : World} {A : Around} {E : Value → Shared → Prop} {s : Shared} {K : PySem.W.Frag} {x y C f L : Addr} {h₀ : Heap} {m : Str → Option Value} {ox : Obj} {od : Option Obj}
theorem ifBound_objNe {M : Model} {args : List Value} {Q : Option Value → Shared → Prop} (X : K.In s.heap) (I : PySem.W.InstAt s.heap x ox C od) (hs : PySem.W.findIn K (.ref C) "__ne__" = some (some (.builtin "object.__ne__")))
    (h : wpAny M A (call (.builtin "object.__ne__") (.ref x :: args)) (fun v => Q (some v)) E s) : wpAny M A (callSpecialIfBound? (.ref x) "__ne__" args) Q E s := by
  simp only [callSpecialIfBound?, bindSpecialIfBound?]
  refine wpAny_holding (wpAny_bind (wpAny_bind (wpAny_bind (I.type.here ((PySem.W.looks_findIn X hs).here ?_)))))
  refine wpAny_bind (wpAny_askSetting (wpAny_ite ?_))
  have fin : wpAny M A (call (.builtin "object.__ne__") ([.ref x] ++ args) >>= fun v => pure (some v)) Q E s := wpAny_bind (wpAny_mono h (fun v s' h' => wpAny_pure h') fun _ _ h' => h')
  split
  · exact wpAny_bind (wpAny_of_eq (PySem.F.cmp_object.ne.bind _) (wpAny_pure (by exact fin)))
  · exact wpAny_tryCatch (wpAny_bind (wpAny_of_eq (PySem.F.cmp_object.ne.bind _) (wpAny_pure (by exact fin))))
theorem entry_objNe (X : K.In s.heap) (I : PySem.W.InstAt s.heap x ox C od) (hs : PySem.W.findIn K (.ref C) "__eq__" = some (some (.ref f))) (hf : PySem.W.isFn K (.ref f) = true) (hu : A.units < cLine) {Q : Fin → Shared → Prop}
    (hcall : wpAny (model prog w) A (call (.ref f) [.ref x, .ref y]) (fun v s' => ∃ b, v = .bool b ∧ Q (.done (.ret (.bool (!b)))) s') E s) :
    wpAny (model prog w) A (Builtin.«object.__ne__» ⟨[.ref x, .ref y], []⟩) Q E s := by
  unfold Builtin.«object.__ne__»
  repeat (first
    | with_reducible refine wpAny_cRoomFor hu ?_
    | (refine wpAny_bind (m := callSpecialIfBound? (.ref x) (Str.ofString "__eq__") [.ref y])
        (PySem.W.ifBound_K X I hs hf (wpAny_mono hcall (fun r s' hr => by
          obtain ⟨b, rfl, hq⟩ := hr
          repeat (first | exact hq | exact wpAny_pure hq | exact wpAny_truthy_bool hq | (refine wpAny_bind (m := truthy (.bool _)) (wpAny_truthy_bool ?_)) | wp_step)) fun _ _ e => e)))
    | wp_step)
theorem ne_K {tb : Value} {Q : Value → Shared → Prop} (hu : A.units + 1 < cLine) (Fm : Fr h₀ L s.heap m) (X₀ : K.In h₀) (I : PySem.W.InstAt s.heap x ox C od) (hb : PySem.W.Looks (model prog w) s.heap (typeOf (.ref y)) tb) (hn : PySem.W.notFirst K C tb = true)
    (hne : PySem.W.findIn K (.ref C) "__ne__" = some (some (.builtin "object.__ne__"))) (hm : PySem.W.mroIn K C (.type "object") = some true)
    (hs : PySem.W.findIn K (.ref C) "__eq__" = some (some (.ref f))) (hf : PySem.W.isFn K (.ref f) = true)
    (h : wpAny (model prog w) A.in1 (call (.ref f) [.ref x, .ref y]) (fun v s' => ∃ b, v = .bool b ∧ Q (.bool (!b)) s') E s) : wpAny (model prog w) A (richCompare .NotEq (.ref x) (.ref y)) Q E s := by
  have X := X₀.keeps Fm.keep
  have one : wpAny (model prog w) A (tryCompare (.ref x) (cmpInfo .NotEq).2.1 (.ref y)) (fun r s' => ∃ v, r = some v ∧ Q v s') E s := by
    rw [cmpInfo_NotEq]
    unfold tryCompare
    refine wpAny_bind (ifBound_objNe X I hne (wpAny_call (codeAny_call_builtin PySem.F.cmp_object.ne.plain PySem.F.cmpEntry_ne (PySem.W.check_slot PySem.F.cmpKind_ne PySem.F.cmpSplit_ne (I.type.andThen (PySem.W.looks_mroIn X hm)) (PySem.F.cmpArgs_ne _ _)
      (entry_objNe (A := A.in1) X I hs hf (show A.in1.units < cLine from hu) (wpAny_mono h (fun v s' hv => ?_) fun _ _ e => e))))))
    obtain ⟨b, rfl, hq⟩ := hv
    first | exact ⟨b, rfl, wpAny_pure ⟨_, rfl, hq⟩⟩ | exact ⟨b, rfl, wpAny_pure (wpAny_pure ⟨_, rfl, hq⟩)⟩ | exact ⟨b, rfl, ⟨_, rfl, hq⟩⟩
  unfold richCompare
  simp only [oneThing_ref]
  refine wpAny_holding (wpAny_bind (wpAny_cRoomFor (Nat.lt_of_succ_lt hu) ?_))
  refine wpAny_bind (I.type.here (wpAny_bind (hb.here ?_)))
  split
  · rename_i q
    have e : PySem.W.subIn K tb (.ref C) = some false := by
      rcases Bool.or_eq_true_iff.mp hn with e | e
      · rw [beq_iff_eq.mp e] at q; simp at q
      · exact beq_iff_eq.mp e
    refine wpAny_bind ((PySem.W.looks_subIn X e).here ?_)
    simp only [Bool.false_eq_true, if_false]
    refine wpAny_bind (wpAny_mono one (fun r s' z => ?_) fun _ _ e => e)
    obtain ⟨v, rfl, hq⟩ := z
    exact wpAny_pure hq
  · refine wpAny_bind (wpAny_pure ?_)
    simp only [Bool.false_eq_true, if_false]
    refine wpAny_bind (wpAny_mono one (fun r s' z => ?_) fun _ _ e => e)
    obtain ⟨v, rfl, hq⟩ := z
    exact wpAny_pure hq
end
end NX

namespace NX
/-! ### chains and tables, no program in sight -/
def cge (ns : List Int) (j : Int) : Nat := ns.countP fun x => decide (j ≤ x)
/-- k of the numbers are at least 1, 2 .. k, each another one -/
def Has (ns : List Int) (k : Int) : Prop := ∀ j : Int, 1 ≤ j → j ≤ k → k - j + 1 ≤ (cge ns j : Int)
def IsCh (ns : List Int) (g : Int) : Prop := 0 ≤ g ∧ ∀ k : Int, k ≤ g ↔ Has ns k
theorem Has.down {ns : List Int} {k l : Int} (h : Has ns k) (e : l ≤ k) : Has ns l := fun j h1 h2 => by have := h j h1 (by omega); omega
theorem IsCh.uniq {ns : List Int} {g g' : Int} (h : IsCh ns g) (h' : IsCh ns g') : g = g' := by
  have h1 := (h'.2 g).mpr ((h.2 g).mp (Int.le_refl _))
  have h2 := (h.2 g').mpr ((h'.2 g').mp (Int.le_refl _))
  omega
theorem cge_perm {ns ms : List Int} (p : ns.Perm ms) (j : Int) : cge ns j = cge ms j := p.countP_eq _
theorem IsCh.perm {ns ms : List Int} {g : Int} (h : IsCh ns g) (p : ns.Perm ms) : IsCh ms g :=
  ⟨h.1, fun k => (h.2 k).trans ⟨fun a j h1 h2 => by rw [← cge_perm p]; exact a j h1 h2, fun a j h1 h2 => by rw [cge_perm p]; exact a j h1 h2⟩⟩
theorem cge_app (ns ms : List Int) (j : Int) : cge (ns ++ ms) j = cge ns j + cge ms j := List.countP_append ..
theorem cge_one (x j : Int) : cge [x] j = if j ≤ x then 1 else 0 := by unfold cge; simp
theorem cge_cons (x : Int) (ns : List Int) (j : Int) : cge (x :: ns) j = cge [x] j + cge ns j := cge_app [x] ns j
theorem cge_len (ns : List Int) (j : Int) : cge ns j ≤ ns.length := List.countP_le_length
theorem IsCh.nil : IsCh [] 0 := ⟨Int.le_refl _, fun k => ⟨fun h j h1 h2 => by omega, fun h => by
  by_cases c : k ≤ 0
  · exact c
  · have := h k (by omega) (Int.le_refl _)
    unfold cge at this
    simp at this⟩⟩
theorem IsCh.snoc {ns : List Int} {g x : Int} (h : IsCh ns g) (hx : ∀ y ∈ ns, y ≤ x) : IsCh (ns ++ [x]) (if x > g then g + 1 else g) := by
  obtain ⟨h0, h⟩ := h
  by_cases c : x > g
  · rw [if_pos c]
    refine ⟨by omega, fun k => ⟨fun hk j h1 h2 => ?_, fun hk => ?_⟩⟩
    · rw [cge_app, cge_one, if_pos (by omega)]
      by_cases e : j ≤ k - 1
      · have := (h (k - 1)).mp (by omega) j h1 e
        omega
      · omega
    · have : Has ns (k - 1) := fun j h1 h2 => by
        have := hk j h1 (by omega)
        rw [cge_app, cge_one] at this
        split at this <;> omega
      have := (h (k - 1)).mpr this
      omega
  · rw [if_neg c]
    refine ⟨h0, fun k => ⟨fun hk j h1 h2 => ?_, fun hk => ?_⟩⟩
    · have := (h k).mp hk j h1 h2
      rw [cge_app]
      omega
    · by_cases e : k ≤ g
      · exact e
      · have := hk.down (show g + 1 ≤ k by omega) (g + 1) (by omega) (Int.le_refl _)
        rw [cge_app, cge_one, if_neg (by omega)] at this
        have z : cge ns (g + 1) = 0 := by
          unfold cge
          refine List.countP_eq_zero.mpr fun y hy => ?_
          have := hx y hy
          simp
          omega
        rw [z] at this
        omega
theorem IsCh.le_len {ns : List Int} {g : Int} (h : IsCh ns g) : g ≤ (ns.length : Int) := by
  by_cases c : g ≤ 0
  · omega
  · have := (h.2 g).mp (Int.le_refl _) 1 (Int.le_refl _) (by omega)
    have z := cge_len ns 1
    omega
/-- more and greater numbers: a longer chain -/
theorem cge_mono {α : Type} {f g : α → Int} : ∀ {l m : List α}, l.Sublist m → (∀ x ∈ l, f x ≤ g x) → ∀ j, cge (l.map f) j ≤ cge (m.map g) j
  | _, _, .slnil, _, j => Nat.le_refl _
  | _, _, .cons a s, h, j => by
    have := cge_mono s h j
    rw [List.map_cons]
    rw [cge_cons]
    omega
  | _, _, .cons₂ a s, h, j => by
    have := cge_mono s (fun x hx => h x (List.mem_cons_of_mem _ hx)) j
    rw [List.map_cons, List.map_cons]
    rw [cge_cons (f a), cge_cons (g a), cge_one, cge_one]
    have := h a List.mem_cons_self
    split <;> split <;> omega
theorem IsCh.mono {α : Type} {f g : α → Int} {l m : List α} {c d : Int} (s : l.Sublist m) (h : ∀ x ∈ l, f x ≤ g x) (hc : IsCh (l.map f) c) (hd : IsCh (m.map g) d) : c ≤ d :=
  (hd.2 c).mpr fun j h1 h2 => by
    have := (hc.2 c).mp (Int.le_refl _) j h1 h2
    have := cge_mono s h j
    omega
/-- a value that is smaller somewhere: a station that shows it -/
theorem cge_less {α : Type} {f g : α → Int} {j : Int} : ∀ {l m : List α}, l.Sublist m → cge (m.map g) j < cge (l.map f) j → ∃ x ∈ l, g x < j ∧ j ≤ f x
  | _, _, .slnil, h => absurd h (Nat.lt_irrefl _)
  | _, _, .cons a s, h => by
    rw [List.map_cons, cge_cons (g a)] at h
    exact cge_less s (by omega)
  | _, _, .cons₂ a s, h => by
    rw [List.map_cons, List.map_cons] at h
    rw [cge_cons (f a), cge_cons (g a), cge_one, cge_one] at h
    by_cases c : g a < j ∧ j ≤ f a
    · exact ⟨a, List.mem_cons_self, c⟩
    · obtain ⟨x, hx, hh⟩ := cge_less (f := f) (g := g) s (j := j) (by split at h <;> split at h <;> omega)
      exact ⟨x, List.mem_cons_of_mem _ hx, hh⟩
/-- a table: each station's number by those of its neighbours; V, N: stations, neighbours -/
def Tab {α : Type} (V : α → Prop) (N : α → List α) (t : α → Int) : Prop := ∀ v, V v → IsCh ((N v).map t) (t v - 1)
/-- tables compared: b's stations are sent into a's, their neighbours (but for the order) among the neighbours there -/
theorem tab_le {α β : Type} {V : α → Prop} {V' : β → Prop} {N : α → List α} {N' : β → List β} {a : α → Int} {b : β → Int} (ha : Tab V N a) (hb : Tab V' N' b) (φ : β → α) (hV : ∀ v, V' v → V (φ v)) (hN' : ∀ v, V' v → ∀ u ∈ N' v, V' u)
    (hN : ∀ v, V' v → ∃ m : List α, m.Perm (N (φ v)) ∧ ((N' v).map φ).Sublist m) : ∀ v, V' v → b v ≤ a (φ v) := by
  have key : ∀ (n : Nat) v, V' v → (a (φ v)).toNat = n → b v ≤ a (φ v) := by
    intro n
    induction n using Nat.strongRecOn with
    | ind n ih =>
      intro v hv hn
      by_cases c : b v ≤ a (φ v)
      · exact c
      · have h1 := ha _ (hV v hv)
        have h2 := hb v hv
        have no : ¬ Has ((N (φ v)).map a) (a (φ v)) := fun z => by
          have := (h1.2 _).mpr z
          omega
        have yes : Has ((N' v).map b) (a (φ v)) := (h2.2 _).mp (by omega)
        obtain ⟨m, hm, hs⟩ := hN v hv
        have : ∃ j : Int, 1 ≤ j ∧ j ≤ a (φ v) ∧ (cge ((N (φ v)).map a) j : Int) < a (φ v) - j + 1 := Classical.byContradiction fun z => no fun j h1 h2 => Classical.byContradiction fun y => z ⟨j, h1, h2, by omega⟩
        obtain ⟨j, hj1, hj2, hlt⟩ := this
        have hy := yes j hj1 hj2
        have hm' : cge ((N (φ v)).map a) j = cge (m.map a) j := (cge_perm (hm.map a) j).symm
        -- as values: b on N' against a along φ
        have : ∃ u ∈ N' v, a (φ u) < j ∧ j ≤ b u := by
          have hlt' : cge (m.map a) j < cge ((N' v).map b) j := by omega
          have sub : cge (((N' v).map φ).map a) j ≤ cge (m.map a) j := by
            have := cge_mono (f := a) (g := a) hs (fun _ _ => Int.le_refl _) j
            exact this
          rw [List.map_map] at sub
          exact cge_less (f := b) (g := a ∘ φ) (List.Sublist.refl (N' v)) (by omega)
        obtain ⟨u, hu, hu1, hu2⟩ := this
        have hvu := hN' v hv u hu
        have := ih (a (φ u)).toNat (by omega) u hvu rfl
        omega
  exact fun v hv => key _ v hv rfl
end NX

namespace NX
open PySem PySem.Spec PyProof.Rows L2
open Evl (Ex ex_l ex_t fresh_back)
/-! ### lists of whole numbers -/
theorem dp_ints {K : PySem.W.Frag} {H : Hp} : ∀ ns : List Int, DpAll K H (ns.map V.int) (ns.map PyData.int)
  | [] => .nil
  | n :: ns => .cons (.int n) (dp_ints ns)
theorem lay_ints : ∀ ns : List Int, PyData.canLayAll0 (ns.map PyData.int) = true
  | [] => by rw [List.map_nil]; unfold PyData.canLayAll0; rfl
  | n :: ns => by
    rw [List.map_cons]
    unfold PyData.canLayAll0
    rw [lay_ints ns]
    simp only [PyData.canLay0, Bool.and_self]
theorem depth_ints : ∀ ns : List Int, PyData.depthAll (ns.map PyData.int) = 0
  | [] => by rw [List.map_nil]; unfold PyData.depthAll; rfl
  | n :: ns => by
    rw [List.map_cons]
    unfold PyData.depthAll
    rw [depth_ints ns]
    simp [PyData.depth]
theorem shaped_ints (ns : List Int) : SeqAt.shaped (.list (ns.map PyData.int)) = true := by
  unfold SeqAt.shaped
  rw [Bool.and_eq_true]
  refine ⟨?_, decide_eq_true ?_⟩
  · simp only [PyData.canLay0]
    exact lay_ints ns
  · simp only [PyData.depth]
    rw [depth_ints]
    omega
theorem shaped_intsT (ns : List Int) : SeqAt.shaped (.tuple (ns.map PyData.int)) = true := by
  unfold SeqAt.shaped
  rw [Bool.and_eq_true]
  refine ⟨?_, decide_eq_true ?_⟩
  · simp only [PyData.canLay0]
    exact lay_ints ns
  · simp only [PyData.depth]
    rw [depth_ints]
    omega
theorem eqvAll_ints : ∀ ns ms : List Int, PyData.eqvAll (ns.map PyData.int) (ms.map PyData.int) = decide (ns = ms)
  | [], [] => by simp [PyData.eqvAll]
  | [], q :: qs => by simp [PyData.eqvAll]
  | p :: ps, [] => by simp [PyData.eqvAll]
  | p :: ps, q :: qs => by
    rw [List.map_cons, List.map_cons, PyData.eqvAll, eqvAll_ints ps qs, Bool.eq_iff_iff]
    simp [PyData.eqv]
theorem eqv_ints (ns ms : List Int) : PyData.eqv (.list (ns.map PyData.int)) (.list (ms.map PyData.int)) = decide (ns = ms) := by
  rw [PyData.eqv]; exact eqvAll_ints ns ms
theorem eqv_intsT (ns ms : List Int) : PyData.eqv (.tuple (ns.map PyData.int)) (.tuple (ms.map PyData.int)) = decide (ns = ms) := by
  rw [PyData.eqv]; exact eqvAll_ints ns ms
section
variable {K : PySem.W.Frag} {G H : Hp} {L : List (Addr × HO)} {p q : Addr} {xs : List V} {v : V} {Q : VK} {ns ms : List Int}
theorem n_neIL (h1 : SqL K H p (ns.map V.int)) (h2 : SqL K H q (ms.map V.int)) (k : Q (.bl (!decide (ns = ms))) H) : rNeD K (.ref p) (.ref q) H Q :=
  ⟨_, _, .lst h1 (dp_ints ns), .lst h2 (dp_ints ms), shaped_ints ns, shaped_ints ms, by rw [eqv_ints]; exact k⟩
theorem n_eqIL (h1 : SqL K H p (ns.map V.int)) (h2 : SqL K H q (ms.map V.int)) (k : Q (.bl (decide (ns = ms))) H) : rEqD K (.ref p) (.ref q) H Q :=
  ⟨_, _, .lst h1 (dp_ints ns), .lst h2 (dp_ints ms), shaped_ints ns, shaped_ints ms, by rw [eqv_ints]; exact k⟩
theorem n_neIT (h1 : SqT K H p (ns.map V.int)) (h2 : SqT K H q (ms.map V.int)) (k : Q (.bl (!decide (ns = ms))) H) : rNeD K (.ref p) (.ref q) H Q :=
  ⟨_, _, .tup h1 (dp_ints ns), .tup h2 (dp_ints ms), shaped_intsT ns, shaped_intsT ms, by rw [eqv_intsT]; exact k⟩
theorem n_eqIT (h1 : SqT K H p (ns.map V.int)) (h2 : SqT K H q (ms.map V.int)) (k : Q (.bl (decide (ns = ms))) H) : rEqD K (.ref p) (.ref q) H Q :=
  ⟨_, _, .tup h1 (dp_ints ns), .tup h2 (dp_ints ms), shaped_intsT ns, shaped_intsT ms, by rw [eqv_intsT]; exact k⟩
/-- sorted(a list of numbers), read from now on -/
theorem n_sortI (S : Own G L H) (h : SqL K H p (ns.map V.int)) (k : ∀ (ms : List Int) q G1 H1, ms.Perm ns → ms.Pairwise (· ≤ ·) → H q = none → Ex G G1 → Ex H H1 → G1 q = some (.lst (ms.map V.int)) → Own G1 L H1 → Q (.ref q) H1) : rSortedI K [.ref p] H Q :=
  ⟨p, ns, rfl, h, fun ms q h1 h2 hq => k ms q _ _ h1 h2 hq (S.still hq).2.1 (Ex.new hq) (S.still hq).2.2 (S.still hq).1⟩
/-! ### results that are new -/
def Ret (o : HO) (H : Hp) (Q : VK) : Prop := ∀ p H', H p = none → Ex H H' → H' p = some o → Q (.ref p) H'
theorem n_retO {o : HO} (S : Own G L H) (ht : noTup o = true) (k : ∀ p H1, H p = none → Ex H H1 → Own G ((p, o) :: L) H1 → Q (.ref p) H1) : Ret o H Q :=
  fun p H' hp e h => k p H' hp e (S.new e hp h ht)
theorem n_retG {o : HO} (S : Own G L H) (k : ∀ p G1 H1, H p = none → Ex G G1 → Ex H H1 → G1 p = some o → Own G1 L H1 → Q (.ref p) H1) : Ret o H Q :=
  fun p H' hp e h => by
    obtain ⟨S1, e1, e2⟩ := S.absorb e
    exact k p _ H' hp e1 e (e2 _ _ ((nw_new hp).trans h)) S1
theorem Own.pure (S : Own G [] H) : Ex G H := S.ex
end
/-- what stood still may be changed from now on -/
theorem Own.thaw {G H : Hp} {L : List (Addr × HO)} {p : Addr} {o : HO} (S : Own G L H) (h : G p = some o) (ht : noTup o = true := by rfl) : Own (cut G [(p, o)]) ((p, o) :: L) H ∧ ∀ a u, a ≠ p → G a = some u → cut G [(p, o)] a = some u :=
  ⟨⟨fun a u e => by
      by_cases m : a ∈ ([(p, o)] : List (Addr × HO)).map Prod.fst
      · rw [cut_in m] at e; cases e
      · rw [cut_out m] at e; exact S.ex _ _ e, fun x hx => by
      rcases List.mem_cons.mp hx with rfl | hx
      · exact ⟨cut_in (by simp), S.ex _ _ h⟩
      · have z := S.at_ x hx
        refine ⟨?_, z.2⟩
        have ne : x.1 ≠ p := fun e => by rw [e, h] at z; cases z.1
        rw [cut_out (by simpa using ne)]
        exact z.1, by
      rw [List.map_cons, List.nodup_cons]
      refine ⟨fun m => ?_, S.nd⟩
      obtain ⟨x, hx, e⟩ := List.mem_map.mp m
      have z := (S.at_ x hx).1
      rw [e, h] at z
      exact (nomatch z), fun x hx => by
      rcases List.mem_cons.mp hx with rfl | hx
      · exact ht
      · exact S.nt x hx⟩, fun a u ne e => by rw [cut_out (by simpa using ne)]; exact e⟩
/-! ### one number of a list -/
def tv (t : List Int) (j : Int) : Int := t.getD j.toNat 0
theorem tv_nat (t : List Int) (i : Nat) : tv t (i : Int) = t.getD i 0 := by unfold tv; rw [Int.toNat_natCast]
theorem tv_get {t : List Int} {i : Nat} {x : Int} (h : t[i]? = some x) : tv t (i : Int) = x := by rw [tv_nat, List.getD_eq_getElem?_getD, h] <;> rfl
theorem get_tv {t : List Int} {i : Nat} (h : i < t.length) : t[i]? = some (tv t (i : Int)) := by
  rw [tv_nat, List.getD_eq_getElem?_getD, List.getElem?_eq_getElem h] <;> rfl
theorem at_tv {t : List Int} {j : Int} (h0 : 0 ≤ j) (h : j < (t.length : Int)) : atI (t.map V.int) j = some (.int (tv t j)) := by
  obtain ⟨i, rfl⟩ : ∃ i : Nat, j = (i : Int) := ⟨j.toNat, by omega⟩
  exact atI_nat (by rw [List.getElem?_map, get_tv (by omega)] <;> rfl)
theorem tv_app1 {t : List Int} {x : Int} {j : Int} (h : j < (t.length : Int)) (h0 : 0 ≤ j) : tv (t ++ [x]) j = tv t j := by
  unfold tv
  rw [List.getD_eq_getElem?_getD, List.getD_eq_getElem?_getD, List.getElem?_append_left (by omega)]
theorem tv_app2 {t : List Int} {x : Int} : tv (t ++ [x]) (t.length : Int) = x := tv_get (by simp)
theorem tv_ext {s t : List Int} (hl : s.length = t.length) (h : ∀ i : Nat, i < s.length → tv s (i : Int) = tv t (i : Int)) : s = t := by
  refine List.ext_getElem? fun i => ?_
  by_cases c : i < s.length
  · rw [get_tv c, get_tv (by omega), h i c]
  · rw [List.getElem?_eq_none (by omega), List.getElem?_eq_none (by omega)]
theorem tv_out {t : List Int} {j : Int} (h : (t.length : Int) ≤ j) : tv t j = 0 := by
  unfold tv
  rw [List.getD_eq_getElem?_getD, List.getElem?_eq_none (by omega)] <;> rfl
theorem tv_cons (x : Int) (t : List Int) (i : Nat) : tv (x :: t) ((i + 1 : Nat) : Int) = tv t (i : Int) := by
  rw [tv_nat, tv_nat] <;> rfl
theorem tv_zero (x : Int) (t : List Int) : tv (x :: t) 0 = x := rfl
theorem sum_le : ∀ {s t : List Int}, s.length = t.length → (∀ i : Nat, i < s.length → tv s (i : Int) ≤ tv t (i : Int)) → s.sum ≤ t.sum ∧ (s ≠ t → s.sum < t.sum)
  | [], [], _, _ => ⟨Int.le_refl _, fun h => absurd rfl h⟩
  | [], _ :: _, h, _ => absurd h (by simp)
  | _ :: _, [], h, _ => absurd h (by simp)
  | a :: s, b :: t, hl, h => by
    have ih := sum_le (s := s) (t := t) (by simpa using hl) fun i hi => by
      have := h (i + 1) (by simp; omega)
      rw [tv_cons, tv_cons] at this
      exact this
    have h0 := h 0 (by simp)
    have h0 : a ≤ b := h0
    rw [List.sum_cons, List.sum_cons]
    refine ⟨by omega, fun ne => ?_⟩
    by_cases c : s = t
    · have : a ≠ b := fun e => ne (by rw [e, c])
      have := ih.1
      omega
    · have := ih.2 c
      omega
theorem sum_nn : ∀ {s : List Int}, (∀ i : Nat, i < s.length → 0 ≤ tv s (i : Int)) → 0 ≤ s.sum
  | [], _ => Int.le_refl _
  | a :: s, h => by
    have ih := sum_nn (s := s) fun i hi => by
      have := h (i + 1) (by simp; omega)
      rw [tv_cons] at this
      exact this
    have h0 : 0 ≤ a := h 0 (by simp)
    rw [List.sum_cons]
    omega
theorem rep_flat (m : Nat) (x : V) : (List.replicate m [x]).flatten = List.replicate m x := by
  induction m with
  | zero => rfl
  | succ m ih => rw [List.replicate_succ, List.flatten_cons, ih, List.replicate_succ] <;> rfl
theorem tv_rep {m i : Nat} {x : Int} (h : i < m) : tv (List.replicate m x) (i : Int) = x := tv_get (by rw [List.getElem?_replicate, if_pos h])
/-- [x] * m -/
theorem n_rep {H G : Hp} {L : List (Addr × HO)} {p : Addr} {x : Int} {m : Int} {Q : VK} (S : Own G ((p, .lst [.int x]) :: L) H) (h0 : 0 ≤ m) (hz : m ≤ 100000) (k : ∀ q G1 H1, H q = none → Ex G G1 → Ex H H1 → G1 q = some (.lst ((List.replicate m.toNat x).map V.int)) → Own G1 L H1 → Q (.ref q) H1) : rRep (.ref p) (.int m) H Q :=
  ⟨p, m, _, rfl, rfl, S.get0, by omega, by omega, small (by simp; omega), fun q hq => by
    have T := S.forget.still (o := .lst (List.replicate m.toNat [V.int x]).flatten) hq
    refine k q _ _ hq T.2.1 (Ex.new hq) ?_ T.1
    rw [T.2.2, rep_flat, List.map_replicate]⟩
end NX

namespace NX
/-! ### the smallest number that is not in use; switchings; the states that can arise -/
theorem len_le_of_sub {α : Type} [BEq α] [LawfulBEq α] : ∀ {l m : List α}, l.Nodup → (∀ x ∈ l, x ∈ m) → l.length ≤ m.length
  | [], _, _, _ => Nat.zero_le _
  | x :: l, m, hn, hs => by
    have hx := hs x List.mem_cons_self
    obtain ⟨h1, h2⟩ := List.nodup_cons.mp hn
    have ih := len_le_of_sub (l := l) (m := m.erase x) h2 fun y hy => (List.mem_erase_of_ne fun (e : y = x) => h1 (e ▸ hy)).mpr (hs y (List.mem_cons_of_mem _ hy))
    rw [List.length_erase_of_mem hx] at ih
    have := List.length_pos_of_mem hx
    rw [List.length_cons]
    omega
structure IsMex (us : List Int) (c : Int) : Prop where
  pos : 1 ≤ c
  no : c ∉ us
  all : ∀ d, 1 ≤ d → d < c → d ∈ us
theorem IsMex.uniq {us us' : List Int} {c d : Int} (h : ∀ x, x ∈ us ↔ x ∈ us') (a : IsMex us c) (b : IsMex us' d) : c = d := by
  rcases Int.lt_trichotomy c d with e | e | e
  · exact absurd ((h _).mpr (b.all c a.pos e)) a.no
  · exact e
  · exact absurd ((h _).mp (a.all d b.pos e)) b.no
theorem below_le {us : List Int} {c : Int} (h : ∀ d, 1 ≤ d → d < c → d ∈ us) : c ≤ (us.length : Int) + 1 := by
  have nd : ((List.range (c - 1).toNat).map fun (k : Nat) => (k : Int) + 1).Nodup :=
    List.pairwise_map.mpr (by
      refine List.Pairwise.imp ?_ List.nodup_range
      intro a b ne e
      exact ne (by omega))
  have := len_le_of_sub nd fun x hx => by
    obtain ⟨k, hk, rfl⟩ := List.mem_map.mp hx
    have := List.mem_range.mp hk
    exact h _ (by omega) (by omega)
  rw [List.length_map, List.length_range] at this
  omega
theorem mex_ex (us : List Int) : ∃ c, IsMex us c := by
  have key : ∀ (k : Nat) (c : Int), 1 ≤ c → (us.length : Int) + 2 - c ≤ k → (∀ d, 1 ≤ d → d < c → d ∈ us) → ∃ c, IsMex us c := by
    intro k
    induction k with
    | zero => intro c h1 h2 h3; have := below_le h3; omega
    | succ k ih =>
      intro c h1 h2 h3
      by_cases hc : c ∈ us
      · refine ih (c + 1) (by omega) (by omega) fun d a b => ?_
        by_cases e : d = c
        · rw [e]; exact hc
        · exact h3 d a (by omega)
      · exact ⟨c, h1, hc, h3⟩
  exact key (us.length + 1) 1 (by decide) (by omega) fun d a b => by omega
noncomputable def mexL (us : List Int) : Int := (mex_ex us).choose
theorem mexL_is (us : List Int) : IsMex us (mexL us) := (mex_ex us).choose_spec
theorem mexL_of {us : List Int} {c : Int} (h : IsMex us c) : mexL us = c := (mexL_is us).uniq (fun _ => Iff.rfl) h
theorem mexL_congr {us us' : List Int} (h : ∀ x, x ∈ us ↔ x ∈ us') : mexL us = mexL us' := (mexL_is us).uniq h (mexL_is us')
theorem mexL_le (us : List Int) : 1 ≤ mexL us ∧ mexL us ≤ (us.length : Int) + 1 := ⟨(mexL_is us).pos, below_le (mexL_is us).all⟩
abbrev Nbr := Int → List Int
/-- the channel after a switching -/
noncomputable def chn (nbr : Nbr) (st : List Int) (i : Nat) : Int := if tv st (i : Int) = 0 then mexL ((nbr (i : Int)).map (tv st)) else 0
noncomputable def sw (nbr : Nbr) (st : List Int) (i : Nat) : List Int := st.take i ++ [chn nbr st i] ++ st.drop (i + 1)
inductive Rch (nbr : Nbr) (n : Nat) : List Int → Prop
  | zero : Rch nbr n (List.replicate n 0)
  | step {s : List Int} {i : Nat} : Rch nbr n s → i < n → Rch nbr n (sw nbr s i)
theorem sw_len {nbr : Nbr} {st : List Int} {i : Nat} (h : i < st.length) : (sw nbr st i).length = st.length := by
  unfold sw
  simp only [List.length_append, List.length_take, List.length_drop, List.length_singleton]
  omega
theorem Rch.len {nbr : Nbr} {n : Nat} {s : List Int} (h : Rch nbr n s) : s.length = n := by
  induction h with
  | zero => exact List.length_replicate
  | step h hi ih => rw [sw_len (by omega), ih]
theorem sw_tv {nbr : Nbr} {st : List Int} {i : Nat} (h : i < st.length) (j : Nat) : tv (sw nbr st i) (j : Int) = if j = i then chn nbr st i else tv st (j : Int) := by
  rw [tv_nat, tv_nat, List.getD_eq_getElem?_getD, List.getD_eq_getElem?_getD]
  unfold sw
  have hl : (st.take i).length = i := by rw [List.length_take]; omega
  by_cases e : j = i
  · subst e
    rw [if_pos rfl, List.getElem?_append_left (by simp; omega), List.getElem?_append_right (by omega), hl, Nat.sub_self] <;> rfl
  · rw [if_neg e]
    by_cases e2 : j < i
    · rw [List.getElem?_append_left (by simp; omega), List.getElem?_append_left (by omega), List.getElem?_take, if_pos e2]
    · rw [List.getElem?_append_right (by simp; omega), List.getElem?_drop]
      simp only [List.length_append, hl, List.length_singleton]
      rw [show i + 1 + (j - (i + 1)) = j by omega]
theorem Rch.rng {nbr : Nbr} {n : Nat} {s : List Int} (h : Rch nbr n s) : ∀ j : Nat, 0 ≤ tv s (j : Int) ∧ tv s (j : Int) ≤ ((nbr (j : Int)).length : Int) + 1 := by
  induction h with
  | zero =>
    intro j
    by_cases e : j < n
    · rw [tv_rep e]; omega
    · rw [tv_out (by rw [List.length_replicate]; omega)]; omega
  | @step s i h hi ih =>
    intro j
    rw [sw_tv (by rw [h.len]; exact hi)]
    by_cases e : j = i
    · subst e
      rw [if_pos rfl]
      unfold chn
      split
      · have := mexL_le ((nbr (j : Int)).map (tv s))
        rw [List.length_map] at this
        omega
      · omega
    · rw [if_neg e]; exact ih j
theorem chn_congr {nbr nbr' : Nbr} {st : List Int} {i : Nat} (h : ∀ o, o ∈ nbr (i : Int) ↔ o ∈ nbr' (i : Int)) : chn nbr st i = chn nbr' st i := by
  unfold chn
  rw [mexL_congr (us := (nbr (i : Int)).map (tv st)) (us' := (nbr' (i : Int)).map (tv st)) fun x => ?_]
  simp only [List.mem_map]
  exact ⟨fun ⟨o, a, b⟩ => ⟨o, (h o).mp a, b⟩, fun ⟨o, a, b⟩ => ⟨o, (h o).mpr a, b⟩⟩
theorem sw_congr {nbr nbr' : Nbr} {st : List Int} {i : Nat} (h : ∀ o, o ∈ nbr (i : Int) ↔ o ∈ nbr' (i : Int)) : sw nbr st i = sw nbr' st i := by
  unfold sw
  rw [chn_congr h]
/-! ### the search, nearest states first -/
structure Ent where
  st : List Int
  p : Nat
  i : Nat
  l : Nat
def addE (E : List Ent) (s : List Int) (p i l : Nat) : List Ent := if s ∈ E.map Ent.st then E else E ++ [⟨s, p, i, l⟩]
noncomputable def visE (nbr : Nbr) (m : Nat) (E : List Ent) (i : Nat) : List Ent := match E[m]? with
  | none => E
  | some e => addE E (sw nbr e.st i) m i (e.l + 1)
noncomputable def rowE (nbr : Nbr) (m : Nat) (E : List Ent) (j : Nat) : List Ent := (List.range j).foldl (visE nbr m) E
noncomputable def bfsE (nbr : Nbr) (n : Nat) : Nat → List Ent
  | 0 => [⟨List.replicate n 0, 0, 0, 0⟩]
  | m + 1 => rowE nbr m (bfsE nbr n m) n
theorem addE_pre (E : List Ent) (s : List Int) (p i l : Nat) : E <+: addE E s p i l := by
  unfold addE
  split
  · exact List.prefix_refl _
  · exact List.prefix_append _ _
theorem visE_pre (nbr : Nbr) (m : Nat) (E : List Ent) (i : Nat) : E <+: visE nbr m E i := by
  unfold visE
  split
  · exact List.prefix_refl _
  · exact addE_pre ..
theorem rowE_zero (nbr : Nbr) (m : Nat) (E : List Ent) : rowE nbr m E 0 = E := rfl
theorem rowE_succ (nbr : Nbr) (m : Nat) (E : List Ent) (j : Nat) : rowE nbr m E (j + 1) = visE nbr m (rowE nbr m E j) j := by
  unfold rowE
  rw [List.range_succ, List.foldl_append] <;> rfl
theorem rowE_pre (nbr : Nbr) (m : Nat) (E : List Ent) : ∀ {i j : Nat}, i ≤ j → rowE nbr m E i <+: rowE nbr m E j := by
  intro i j h
  induction h with
  | refl => exact List.prefix_refl _
  | step _ ih => rw [rowE_succ]; exact ih.trans (visE_pre ..)
theorem bfsE_pre (nbr : Nbr) (n : Nat) : ∀ {i j : Nat}, i ≤ j → bfsE nbr n i <+: bfsE nbr n j := by
  intro i j h
  induction h with
  | refl => exact List.prefix_refl _
  | step _ ih => exact ih.trans (rowE_pre nbr _ _ (Nat.zero_le n))
theorem pre_get {α : Type} {l m : List α} (h : l <+: m) {i : Nat} {x : α} (e : l[i]? = some x) : m[i]? = some x := by
  obtain ⟨t, rfl⟩ := h
  rw [List.getElem?_append_left (List.getElem?_eq_some_iff.mp e).1]
  exact e
theorem pre_mem {α : Type} {l m : List α} (h : l <+: m) {x : α} (e : x ∈ l) : x ∈ m := h.subset e
/-- what holds of all entries -/
structure Okk (nbr : Nbr) (n : Nat) (E : List Ent) : Prop where
  nd : (E.map Ent.st).Nodup
  rch : ∀ e ∈ E, Rch nbr n e.st
  lv : ∀ (k : Nat) (e : Ent), E[k]? = some e → (k = 0 ∧ e = ⟨List.replicate n 0, 0, 0, 0⟩) ∨ (0 < k ∧ e.p < k ∧ e.i < n ∧ ∃ f, E[e.p]? = some f ∧ e.st = sw nbr f.st e.i ∧ e.l = f.l + 1)
  ne : E ≠ []
theorem Okk.add {nbr : Nbr} {n : Nat} {E : List Ent} (h : Okk nbr n E) {m i : Nat} {f : Ent} (hf : E[m]? = some f) (hi : i < n) : Okk nbr n (addE E (sw nbr f.st i) m i (f.l + 1)) := by
  unfold addE
  split
  · exact h
  · rename_i hno
    have hm : m < E.length := (List.getElem?_eq_some_iff.mp hf).1
    refine ⟨?_, fun e he => ?_, fun k e hk => ?_, by simp⟩
    · rw [List.map_append]
      refine List.nodup_append.mpr ⟨h.nd, by simp, fun a ha b hb e => ?_⟩
      have : b = sw nbr f.st i := by simpa using hb
      exact hno (by rw [← this, ← e]; exact ha)
    · rcases List.mem_append.mp he with he | he
      · exact h.rch e he
      · rw [List.mem_singleton.mp he]
        exact (h.rch f (List.mem_of_getElem? hf)).step hi
    · by_cases e1 : k < E.length
      · rw [List.getElem?_append_left e1] at hk
        rcases h.lv k e hk with a | ⟨a, b, c, g, d, d2⟩
        · exact .inl a
        · exact .inr ⟨a, b, c, g, by rw [List.getElem?_append_left (by omega)]; exact d, d2⟩
      · rw [List.getElem?_append_right (by omega)] at hk
        have e2 : k - E.length = 0 := by
          have := (List.getElem?_eq_some_iff.mp hk).1
          simpa using this
        rw [e2] at hk
        cases hk
        exact .inr ⟨by omega, by show m < k; omega, hi, f, by rw [List.getElem?_append_left hm]; exact hf, rfl, rfl⟩
theorem Okk.row {nbr : Nbr} {n : Nat} {E : List Ent} (h : Okk nbr n E) (m : Nat) : ∀ {j : Nat}, j ≤ n → Okk nbr n (rowE nbr m E j)
  | 0, _ => h
  | j + 1, hj => by
    rw [rowE_succ]
    have ih := h.row m (j := j) (by omega)
    unfold visE
    split
    · exact ih
    · rename_i e he
      exact ih.add he (by omega)
theorem bfs_okk (nbr : Nbr) (n : Nat) : ∀ m, Okk nbr n (bfsE nbr n m)
  | 0 => ⟨by simp [bfsE], fun e he => by rw [List.mem_singleton.mp he]; exact .zero, fun k e hk => by
      have e2 : k = 0 := by have := (List.getElem?_eq_some_iff.mp hk).1; simpa [bfsE] using this
      subst e2
      cases hk
      exact .inl ⟨rfl, rfl⟩, by simp [bfsE]⟩
  | m + 1 => (bfs_okk nbr n m).row m (Nat.le_refl n)
theorem rowE_none {nbr : Nbr} {m : Nat} {E : List Ent} (h : E[m]? = none) : ∀ j, rowE nbr m E j = E
  | 0 => rfl
  | j + 1 => by
    rw [rowE_succ, rowE_none h j]
    unfold visE
    rw [h]
theorem bfs_stay {nbr : Nbr} {n m : Nat} (h : (bfsE nbr n m).length ≤ m) : ∀ k, bfsE nbr n (m + k) = bfsE nbr n m
  | 0 => rfl
  | k + 1 => by
    show rowE nbr (m + k) (bfsE nbr n (m + k)) n = _
    rw [bfs_stay h k]
    exact rowE_none (List.getElem?_eq_none (by omega)) n
/-- E: all states, as the search finds them -/
def Bfs (nbr : Nbr) (n : Nat) (E : List Ent) : Prop := ∃ m, E = bfsE nbr n m ∧ E.length = m
theorem Bfs.uniq {nbr : Nbr} {n : Nat} {E F : List Ent} (h : Bfs nbr n E) (g : Bfs nbr n F) : E = F := by
  obtain ⟨m, rfl, e1⟩ := h
  obtain ⟨k, rfl, e2⟩ := g
  rcases Nat.le_total m k with l | l
  · obtain ⟨d, rfl⟩ := Nat.le.dest l
    exact (bfs_stay (Nat.le_of_eq e1) d).symm
  · obtain ⟨d, rfl⟩ := Nat.le.dest l
    exact bfs_stay (Nat.le_of_eq e2) d
theorem Bfs.okk {nbr : Nbr} {n : Nat} {E : List Ent} (h : Bfs nbr n E) : Okk nbr n E := by
  obtain ⟨m, rfl, _⟩ := h
  exact bfs_okk nbr n m
theorem Bfs.lt {nbr : Nbr} {n : Nat} {E : List Ent} (h : Bfs nbr n E) {m : Nat} (hm : m < (bfsE nbr n m).length) : m < E.length := by
  obtain ⟨k, rfl, e⟩ := h
  rcases Nat.lt_or_ge m k with l | l
  · omega
  · obtain ⟨d, rfl⟩ := Nat.le.dest l
    rw [bfs_stay (Nat.le_of_eq e) d, e] at hm
    omega
theorem Bfs.pre {nbr : Nbr} {n : Nat} {E : List Ent} (h : Bfs nbr n E) {m j : Nat} (hm : m < (bfsE nbr n m).length) (hj : j ≤ n) : rowE nbr m (bfsE nbr n m) j <+: E := by
  have hlt := h.lt hm
  obtain ⟨k, rfl, e⟩ := h
  exact (rowE_pre nbr m _ hj).trans (bfsE_pre nbr n (show m + 1 ≤ k by omega))
theorem Bfs.of {nbr : Nbr} {n m : Nat} (h1 : m ≤ (bfsE nbr n m).length) (h2 : ¬ m < (bfsE nbr n m).length) : Bfs nbr n (bfsE nbr n m) := ⟨m, rfl, by omega⟩
/-- a new state: the list is not yet full -/
theorem vis_new {nbr : Nbr} {m : Nat} {E : List Ent} {i : Nat} {e : Ent} (he : E[m]? = some e) : visE nbr m E i = addE E (sw nbr e.st i) m i (e.l + 1) := by
  unfold visE
  rw [he]
theorem closed_row {nbr : Nbr} {m : Nat} {E : List Ent} {e : Ent} (he : E[m]? = some e) : ∀ {j i : Nat}, i < j → sw nbr e.st i ∈ (rowE nbr m E j).map Ent.st
  | j + 1, i, h => by
    rw [rowE_succ]
    have he' : (rowE nbr m E j)[m]? = some e := pre_get (rowE_pre nbr m E (Nat.zero_le j)) he
    rw [vis_new he']
    by_cases e1 : i = j
    · subst e1
      unfold addE
      split
      · assumption
      · simp
    · have ih := closed_row (nbr := nbr) he (j := j) (i := i) (by omega)
      obtain ⟨x, hx, ex⟩ := List.mem_map.mp ih
      exact List.mem_map.mpr ⟨x, pre_mem (addE_pre ..) hx, ex⟩
theorem bfs_closed {nbr : Nbr} {n : Nat} : ∀ {m k i : Nat} {e : Ent}, k < m → (bfsE nbr n m)[k]? = some e → i < n → k < (bfsE nbr n k).length → sw nbr e.st i ∈ (bfsE nbr n m).map Ent.st := by
  intro m k i e hk he hi hl
  have h1 : (bfsE nbr n k)[k]? = some e := by
    have h2 : (bfsE nbr n k)[k]? = some ((bfsE nbr n k)[k]) := List.getElem?_eq_getElem hl
    have h3 := pre_get (bfsE_pre nbr n (Nat.le_of_lt hk)) h2
    rw [he] at h3
    rw [h2]
    exact h3.symm
  have h4 := closed_row (nbr := nbr) h1 hi
  obtain ⟨x, hx, ex⟩ := List.mem_map.mp h4
  exact List.mem_map.mpr ⟨x, pre_mem (bfsE_pre nbr n (show k + 1 ≤ m by omega)) hx, ex⟩
theorem bfs_len {nbr : Nbr} {n m : Nat} (h : (bfsE nbr n m).length = m) {k : Nat} (hk : k < m) : k < (bfsE nbr n k).length := by
  rcases Nat.lt_or_ge k (bfsE nbr n k).length with l | l
  · exact l
  · obtain ⟨d, rfl⟩ := Nat.le.dest (Nat.le_of_lt hk)
    rw [bfs_stay l d] at h
    omega
theorem Bfs.all {nbr : Nbr} {n : Nat} {E : List Ent} (h : Bfs nbr n E) (s : List Int) : s ∈ E.map Ent.st ↔ Rch nbr n s := by
  constructor
  · intro hs
    obtain ⟨e, he, rfl⟩ := List.mem_map.mp hs
    exact h.okk.rch e he
  · intro hr
    obtain ⟨m, rfl, e⟩ := h
    induction hr with
    | zero =>
      have h0 : (⟨List.replicate n 0, 0, 0, 0⟩ : Ent) ∈ bfsE nbr n m := pre_mem (bfsE_pre nbr n (Nat.zero_le m)) (List.mem_singleton.mpr rfl)
      exact List.mem_map.mpr ⟨_, h0, rfl⟩
    | @step s i hr hi ih =>
      obtain ⟨x, hx, ex⟩ := List.mem_map.mp ih
      obtain ⟨k, hk⟩ := List.mem_iff_getElem?.mp hx
      have hkm : k < m := by have := (List.getElem?_eq_some_iff.mp hk).1; omega
      rw [← ex]
      exact bfs_closed hkm hk hi (bfs_len e hkm)
theorem bfs_ex {nbr : Nbr} {n B : Nat} (h : ∀ L : List (List Int), L.Nodup → (∀ s ∈ L, Rch nbr n s) → L.length ≤ B) : ∃ E, Bfs nbr n E ∧ E.length ≤ B := by
  have hb : ∀ m, (bfsE nbr n m).length ≤ B := fun m => by
    have := h _ (bfs_okk nbr n m).nd fun s hs => by
      obtain ⟨e, he, rfl⟩ := List.mem_map.mp hs
      exact (bfs_okk nbr n m).rch e he
    rwa [List.length_map] at this
  have key : ∀ k, (∃ m, m ≤ k ∧ (bfsE nbr n m).length = m) ∨ k < (bfsE nbr n k).length := by
    intro k
    induction k with
    | zero => exact .inr (by simp [bfsE])
    | succ k ih =>
      rcases ih with ⟨m, a, b⟩ | a
      · exact .inl ⟨m, by omega, b⟩
      · have : (bfsE nbr n k).length ≤ (bfsE nbr n (k + 1)).length := (bfsE_pre nbr n (Nat.le_succ k)).length_le
        rcases Nat.lt_or_ge (k + 1) (bfsE nbr n (k + 1)).length with l | l
        · exact .inr l
        · exact .inl ⟨k + 1, Nat.le_refl _, by omega⟩
  rcases key B with ⟨m, _, e⟩ | a
  · exact ⟨_, ⟨m, rfl, e⟩, hb m⟩
  · have := hb B
    omega
theorem visE_congr {nbr nbr' : Nbr} {n : Nat} (h : ∀ i : Nat, i < n → ∀ o, o ∈ nbr (i : Int) ↔ o ∈ nbr' (i : Int)) (m : Nat) (E : List Ent) {i : Nat} (hi : i < n) : visE nbr m E i = visE nbr' m E i := by
  unfold visE
  split
  · rfl
  · rw [sw_congr (h i hi)]
theorem rowE_congr {nbr nbr' : Nbr} {n : Nat} (h : ∀ i : Nat, i < n → ∀ o, o ∈ nbr (i : Int) ↔ o ∈ nbr' (i : Int)) (m : Nat) (E : List Ent) : ∀ {j : Nat}, j ≤ n → rowE nbr m E j = rowE nbr' m E j
  | 0, _ => rfl
  | j + 1, hj => by rw [rowE_succ, rowE_succ, rowE_congr h m E (by omega), visE_congr h m _ (by omega)]
theorem bfsE_congr {nbr nbr' : Nbr} {n : Nat} (h : ∀ i : Nat, i < n → ∀ o, o ∈ nbr (i : Int) ↔ o ∈ nbr' (i : Int)) : ∀ m, bfsE nbr n m = bfsE nbr' n m
  | 0 => rfl
  | m + 1 => by
    show rowE nbr m (bfsE nbr n m) n = rowE nbr' m (bfsE nbr' n m) n
    rw [bfsE_congr h m, rowE_congr h m _ (Nat.le_refl n)]
theorem Bfs.congr {nbr nbr' : Nbr} {n : Nat} {E : List Ent} (h : ∀ i : Nat, i < n → ∀ o, o ∈ nbr (i : Int) ↔ o ∈ nbr' (i : Int)) (b : Bfs nbr n E) : Bfs nbr' n E := by
  obtain ⟨m, e, l⟩ := b
  exact ⟨m, by rw [e, bfsE_congr h m], l⟩
/-! ### how many states there are at most -/
/-- all lists whose items are from 0 to these numbers -/
def boxL : List Nat → List (List Int)
  | [] => [[]]
  | c :: cs => (List.range (c + 1)).flatMap fun (x : Nat) => (boxL cs).map fun l => (x : Int) :: l
def prodL : List Nat → Nat
  | [] => 1
  | c :: cs => (c + 1) * prodL cs
theorem flat_len {α β : Type} {f : α → List β} {k : Nat} (h : ∀ x, (f x).length = k) : ∀ l : List α, (l.flatMap f).length = l.length * k
  | [] => by simp
  | x :: l => by rw [List.flatMap_cons, List.length_append, h, flat_len h l, List.length_cons, Nat.succ_mul]; omega
theorem box_len : ∀ cs, (boxL cs).length = prodL cs
  | [] => rfl
  | c :: cs => by
    rw [boxL, prodL, flat_len (k := prodL cs) (fun x => by rw [List.length_map, box_len cs]), List.length_range]
theorem box_mem : ∀ {cs : List Nat} {s : List Int}, s.length = cs.length → (∀ j : Nat, j < cs.length → 0 ≤ tv s (j : Int) ∧ tv s (j : Int) ≤ ((cs.getD j 0 : Nat) : Int)) → s ∈ boxL cs
  | [], [], _, _ => List.mem_singleton.mpr rfl
  | [], _ :: _, h, _ => by cases h
  | _ :: _, [], h, _ => by cases h
  | c :: cs, x :: s, hl, h => by
    have h0 := h 0 (by simp)
    have e0 : tv (x :: s) ((0 : Nat) : Int) = x := rfl
    rw [e0] at h0
    simp only [List.getD_cons_zero] at h0
    refine List.mem_flatMap.mpr ⟨x.toNat, List.mem_range.mpr (by omega), List.mem_map.mpr ⟨s, box_mem (by simpa using hl) fun j hj => ?_, ?_⟩⟩
    · have := h (j + 1) (by simpa using hj)
      rw [tv_cons] at this
      simpa using this
    · rw [show ((x.toNat : Nat) : Int) = x by omega]
theorem rch_count {nbr : Nbr} {n : Nat} {cs : List Nat} (hc : cs.length = n) (h : ∀ j : Nat, j < n → (nbr (j : Int)).length + 1 ≤ cs.getD j 0) (L : List (List Int)) (nd : L.Nodup) (hL : ∀ s ∈ L, Rch nbr n s) : L.length ≤ prodL cs := by
  rw [← box_len]
  refine len_le_of_sub nd fun s hs => box_mem (by rw [(hL s hs).len, hc]) fun j hj => ?_
  have h1 := (hL s hs).rng j
  have h2 := h j (by omega)
  omega
end NX

namespace NX
open PySem PySem.Spec PyProof.Rows L2
open Evl (Ex ex_l ex_t fresh_back)
/-! ### {t: v}, t a tuple -/
def tDisp1T (tk tv : TE) : TE := fun σ H Q => ∀ p, H p = none → tk σ (upd H p (.dT [])) fun x H1 => tv σ H1 fun y H2 => H2 p = some (.dT []) ∧ ∃ (b : Addr) (k : List L2.Key) (H3 : Hp), x = .ref b ∧ H2 b = some (.tup (k.map kV)) ∧ H3 = upd H2 p (.dT [(k, y)]) ∧ Q (.ref p) H3
theorem pe_disp1T {X : Cx} {ke ve : Expr} {tk tv : TE} {pos : Pos} (hu : X.A.units + 1 < cLine) (hk : PE X ke tk) (hv : PE X ve tv) : PE X (.Dict [some ke] [ve] pos) (tDisp1T tk tv) := by
  refine ⟨fun pins s σ H Q I q => ?_⟩
  have hn := I.hok.fresh (Nat.le_refl s.heap.objs.size)
  have I1 := I.laid (a := s.heap.objs.size) (o := .dT []) (h' := s.heap.push { cls := .type "dict", data := .dict #[] }) (t' := s.toks) (fun _ _ q => Heap.get?_push_of_some _ q) (Nat.le_refl _) (dt_empty s.heap I.big)
  rw [arm_eval_Dict, zip_pairTrees [some ke] [ve] X.env pos rfl rfl, dictDisplay_pairs (pairTrees [some ke] [ve] X.env pos) (by simp [pairTrees]) (by simp [pairTrees])]
  refine wpAny_bind (wpAny_standAt (wpAny_bind ?_))
  unfold subDict
  refine wpAny_bind (wpAny_alloc ?_)
  refine wpAny_bind (wpAny_holding ?_)
  rw [if_pos (by simp [pairTrees])]
  have hp : PPs X pos [some ke] [ve] [(tk, tv)] := pps_cons hk hv pps_nil
  refine wpAny_bind (thn (hp.run pins _ σ _ (fun ps H2 => match ps with | [(x, y)] => H2 s.heap.objs.size = some (.dT []) ∧ ∃ (b : Addr) (k : List L2.Key) (H3 : Hp), x = .ref b ∧ H2 b = some (.tup (k.map kV)) ∧ H3 = upd H2 s.heap.objs.size (.dT [(k, y)]) ∧ Q (.ref s.heap.objs.size) H3 | _ => False) I1 (q _ hn)) fun ws s2 ⟨ps, H2, I2, rel, z⟩ => ?_)
  cases rel with
  | nil => exact z.elim
  | @cons p q ps qs h t =>
    cases t with
    | cons _ _ => exact z.elim
    | nil =>
      obtain ⟨e, b, k, _, ex, eb, rfl, q2⟩ := z
      obtain ⟨p1, p2⟩ := p
      obtain ⟨u1, u2⟩ := q
      obtain ⟨r1, r2⟩ := h
      dsimp only at ex r1 r2 q2
      subst ex
      cases (show u1 = Value.ref b from r1)
      obtain ⟨z1, hd, xs, r0, dd⟩ := dt_of I2.hok e
      cases r0
      refine wpAny_holding (wpAny_bind ?_)
      rw [List.forIn_cons]
      refine wpAny_bind (wpAny_bind (wpAny_dictSet_heap (knd := tupleKind (mixKind X.prog X.w)) (hsz := by rw [List.length_nil]; exact Nat.zero_le _) (show X.A.units < cLine by omega) (key_of I2.hok eb) dd fun h' dd' hs => wpAny_pure ?_))
      dsimp only
      rw [List.forIn_nil]
      refine wpAny_pure (wpAny_pure (wpAny_pure (wpAny_pure ⟨.ref s.heap.objs.size, _, ?_, rfl, q2⟩)))
      have he : ∃ q, h'.get? s.heap.objs.size = some q := let ⟨q, _, _, hq, _⟩ := dd'; ⟨q, hq⟩
      obtain ⟨q', es, ep, hq, h2, h3, h4, _, h5⟩ := dd'
      refine d_write I2 (by rw [e]; exact True.intro) hs he ⟨(by show (1 : Nat) ≤ sizeLine; decide), hd, [(k, b, u2)], .cons ⟨rfl, ?_, r2⟩ .nil, q', es, ep, hq, h2, h3, h4, h5⟩
      rw [upd_ne (ne_of eb e (fun z => nomatch z))]
      exact eb
/-! ### keys of a dict that was just made -/
def iKeysF (td : TE) : TI := fun σ H R => td σ H fun x H1 => ∃ d kvs, x = .ref d ∧ H1 d = some (.dT kvs) ∧ ∀ o, R (Itkt d o kvs) (upd H1 d (.frz o (.dT kvs)))
theorem pi_keysF {X : Cx} {tg e : Expr} {td : TE} (he : PE X e td) : PI X tg e (iKeysF td) := by
  refine ⟨fun pins s σ H R I h => ?_⟩
  refine thn (he.run pins s σ H _ I h) fun u s1 ⟨x, H1, I1, rx, d, kvs, ex, hd, q⟩ => ?_
  subst ex
  obtain rfl : u = Value.ref d := rx
  obtain ⟨o, I2⟩ := I1.lock hd True.intro
  obtain ⟨hs, hgd, hx, es, ep, hdt, hsz, ent⟩ := I2.frzT (upd_same (a := d))
  refine iter_keys hs hgd hx hdt (pi_one (tk := s1.toks) I2 _ (turn_keysT _ hdt) ⟨_, Heap.get?_push_size _ rfl, rfl, ?_⟩ (q o))
  rw [hsz] <;> rfl
end NX

namespace NX
open PySem PySem.Spec PyProof.Rows L2
open Evl (Ex ex_l ex_t fresh_back)
open SrtO (Swo Srtd Stb lt2)
/-! ### the order of tuples of numbers -/
def lexL : List Int → List Int → Bool
  | [], [] => false
  | [], _ :: _ => true
  | _ :: _, [] => false
  | x :: xs, y :: ys => if x = y then lexL xs ys else decide (x < y)
theorem lexL_irr : ∀ l, lexL l l = false
  | [] => rfl
  | x :: l => by rw [lexL, if_pos rfl]; exact lexL_irr l
theorem lexL_asym : ∀ a b, lexL a b = true → lexL b a = false
  | [], [], h => by cases h
  | [], _ :: _, _ => rfl
  | _ :: _, [], h => by cases h
  | x :: xs, y :: ys, h => by
    rw [lexL] at h ⊢
    by_cases e : x = y
    · rw [if_pos e] at h; rw [if_pos e.symm]; exact lexL_asym xs ys h
    · rw [if_neg e] at h; rw [if_neg fun z => e z.symm]
      have := of_decide_eq_true h
      exact decide_eq_false (by omega)
theorem lexL_tr : ∀ x y z, lexL y x = false → lexL z y = false → lexL z x = false
  | _, _, [], h1, h2 => by
    rename_i x y
    cases y with
    | nil => exact h1
    | cons _ _ => cases h2
  | [], _, _ :: _, _, _ => rfl
  | x :: xs, [], z :: zs, h1, h2 => by cases h1
  | x :: xs, y :: ys, z :: zs, h1, h2 => by
    rw [lexL] at h1 h2 ⊢
    by_cases e1 : y = x
    · rw [if_pos e1] at h1
      by_cases e2 : z = y
      · rw [if_pos e2] at h2
        rw [if_pos (e2.trans e1)]
        exact lexL_tr xs ys zs h1 h2
      · rw [if_neg e2] at h2
        have := of_decide_eq_false h2
        rw [if_neg (by omega)]
        exact decide_eq_false (by omega)
    · rw [if_neg e1] at h1
      have a1 := of_decide_eq_false h1
      by_cases e2 : z = y
      · subst e2
        rw [if_neg e1]
        exact h1
      · rw [if_neg e2] at h2
        have a2 := of_decide_eq_false h2
        rw [if_neg (by omega)]
        exact decide_eq_false (by omega)
theorem lexL_tot : ∀ a b, lexL a b = false → lexL b a = false → a = b
  | [], [], _, _ => rfl
  | [], _ :: _, h, _ => by cases h
  | _ :: _, [], _, h => by cases h
  | x :: xs, y :: ys, h1, h2 => by
    rw [lexL] at h1 h2
    by_cases e : x = y
    · rw [if_pos e] at h1
      rw [if_pos e.symm] at h2
      rw [e, lexL_tot xs ys h1 h2]
    · rw [if_neg e] at h1
      rw [if_neg fun z => e z.symm] at h2
      have a1 := of_decide_eq_false h1
      have a2 := of_decide_eq_false h2
      omega
theorem swo_lexL {α : Type} (k : α → List Int) : Swo fun v u => lexL (k v) (k u) := ⟨fun x y h => lexL_asym _ _ h, fun x y z h1 h2 => lexL_tr _ _ _ h1 h2⟩
/-- lists in ascending order with the same items are one list -/
theorem srt_uniq : ∀ {l m : List (List Int)}, l.Pairwise (fun a b => lexL b a = false) → m.Pairwise (fun a b => lexL b a = false) → l.Perm m → l = m
  | [], m, _, _, p => (List.Perm.nil_eq p)
  | x :: l, [], _, _, p => absurd p.length_eq (by simp)
  | x :: l, y :: m, hl, hm, p => by
    obtain ⟨h1, h2⟩ := List.pairwise_cons.mp hl
    obtain ⟨g1, g2⟩ := List.pairwise_cons.mp hm
    have e : x = y := by
      have hx : x ∈ y :: m := p.mem_iff.mp List.mem_cons_self
      have hy : y ∈ x :: l := p.mem_iff.mpr List.mem_cons_self
      rcases List.mem_cons.mp hx with e | hx
      · exact e
      rcases List.mem_cons.mp hy with e | hy
      · exact e.symm
      exact lexL_tot _ _ (g1 x hx) (h1 y hy)
    subst e
    rw [srt_uniq h2 g2 (List.perm_cons x |>.mp p)]
/-! ### as the model compares them -/
def lexG (fin : Bool) : List Int → List Int → Bool
  | [], _ => fin
  | _ :: _, [] => fin
  | x :: xs, y :: ys => if x = y then lexG fin xs ys else decide (x < y)
theorem lexG_eq : ∀ (a b : List Int), lexG (decide (a.length < b.length)) a b = lexL a b
  | [], [] => rfl
  | [], _ :: _ => by simp [lexG, lexL]
  | _ :: _, [] => by simp [lexG, lexL]
  | x :: xs, y :: ys => by
    rw [lexG, lexL, ← lexG_eq xs ys]
    simp only [List.length_cons, Nat.add_lt_add_iff_right]
section
variable {prog : Program} {w : World} {A : Around} {E : Value → Shared → Prop} {s : Shared}
theorem lex_run (prog : Program) (w : World) (A : Around) (s : Shared) (b fin : Bool) : ∀ (ns ms : List Int) (us ws : List Value) (i : Nat), Vals (ns.map V.int) us → Vals (ms.map V.int) ws →
    PySem.W.KatLex prog w A b fin (fun r s' => s' = s ∧ r = lexG fin ns ms) (us.zip ws) i s
  | [], _, _, _, _, .nil, _ => by exact PySem.W.kat_nil ⟨rfl, rfl⟩
  | x :: xs, [], _, _, _, .cons _ _, .nil => by exact PySem.W.kat_nil ⟨rfl, rfl⟩
  | x :: xs, y :: ys, _, _, i, .cons r1 t1, .cons r2 t2 => by
    obtain ⟨t, rfl⟩ := r1
    obtain ⟨u, rfl⟩ := r2
    refine PySem.W.kat_cons (SeqAt.EqAt.int_int x t y u prog w _ _ ?_)
    refine PySem.W.kat_go (fun e1 => ?_) (fun e1 => ?_)
    · have ex : x = y := by simpa using e1
      have ih := lex_run prog w A s b fin xs ys _ _ (i + 1) t1 t2
      rw [lexG, if_pos ex]
      exact PySem.W.kat_yes ih
    · have ex : ¬ x = y := by simpa using e1
      rw [lexG, if_neg ex]
      refine PySem.W.kat_no ?_
      cases hb : (b && i == 0) with
      | true => exact oneLt_int ⟨rfl, rfl⟩
      | false => exact PySem.W.kat_one _ _ (PyProof.Rows.lt_int (show s = s ∧ decide (x < y) = decide (x < y) from ⟨rfl, rfl⟩))
/-- a tuple of numbers of the heap -/
def IsNs (h : Heap) (v : Value) (ns : List Int) : Prop := ∃ (a : Addr) (o : Obj) (us : List Value) (n : Nat), v = .ref a ∧ h.get? a = some o ∧ o.cls = .type "tuple" ∧ o.data = .seq us.toArray n ∧ Vals (ns.map V.int) us
theorem IsNs.keeps {h h' : Heap} {v : Value} {ns : List Int} (x : IsNs h v ns) (k : ∀ b o, h.get? b = some o → o.cls = .type "tuple" → h'.get? b = some o) : IsNs h' v ns := by
  obtain ⟨a, o, us, n, e, ho, hc, hd, r⟩ := x
  exact ⟨a, o, us, n, e, k _ _ ho hc, hc, hd, r⟩
theorem ns_cmp {b : Bool} {vs : List Value} {k : Value → List Int} (hp : ∀ v ∈ vs, IsNs s.heap v (k v)) : SrtO.Cmp prog w A s (tuples' b) (fun p => p.1 ∈ vs) (lt2 fun v u => lexL (k v) (k u)) := by
  intro p q hm hm'
  obtain ⟨a, o, us, n, e, ho, hc, hd, r⟩ := hp _ hm
  obtain ⟨a', o', us', n', e', ho', hc', hd', r'⟩ := hp _ hm'
  show wpAny (model prog w) A (keyLt' (tuples' b) p.1 q.1) (fun r s' => s' = s ∧ r = lexL (k p.1) (k q.1)) (fun _ _ => False) s
  rw [← lexG_eq]
  generalize k p.1 = xs at r ⊢
  generalize k q.1 = ys at r' ⊢
  rw [e, e']
  refine PySem.W.kat_lt ho hd ho' hd' ?_
  have hl : us.toArray.size = xs.length := by have := Paired.length r; simp at this; simp [this]
  have hl' : us'.toArray.size = ys.length := by have := Paired.length r'; simp at this; simp [this]
  rw [hl, hl']
  exact lex_run prog w A s b _ xs ys us us' 0 r r'
theorem ns_firsts {h : Heap} : ∀ {vs : List Value} {k : Value → List Int}, (∀ v ∈ vs, IsNs h v (k v) ∧ k v ≠ []) → ∃ fs, PySem.W.KatTups h vs fs ∧ fs.length = vs.length ∧ ∀ f ∈ fs, ∃ x t, f = Value.int x t
  | [], _, _ => ⟨[], .nil, rfl, fun _ h => by cases h⟩
  | v :: vs, k, hp => by
    obtain ⟨fs, h1, h2, h3⟩ := ns_firsts (vs := vs) (k := k) fun u hu => hp u (List.mem_cons_of_mem _ hu)
    obtain ⟨⟨a, o, us, n, e, ho, hc, hd, r⟩, hne⟩ := hp v List.mem_cons_self
    generalize k v = ns at r hne
    cases ns with
    | nil => exact absurd rfl hne
    | cons x xs =>
      cases r with
      | cons r t =>
        obtain ⟨t', rfl⟩ := r
        subst e
        refine ⟨Value.int x t' :: fs, .cons ho hc hd (by simp) h1, by simp [h2], fun f hf => ?_⟩
        rcases List.mem_cons.mp hf with rfl | hf
        · exact ⟨_, _, rfl⟩
        · exact h3 f hf
theorem ns_sortable {a : Addr} {vs : List Value} {k : Value → List Int} (h0 : 0 < vs.length) (hp : ∀ v ∈ vs, IsNs s.heap v (k v) ∧ k v ≠ []) (ha : ∀ o, s.heap.get? a = some o → o.cls ≠ .type "tuple") : SrtO.SortableO prog w A s a vs fun v u => lexL (k v) (k u) := by
  intro h' keep
  have hp' : ∀ v ∈ vs, IsNs h' v (k v) ∧ k v ≠ [] := fun v hm => ⟨(hp v hm).1.keeps fun b o e c => keep b o (fun z => by subst z; exact ha o e c) e, (hp v hm).2⟩
  obtain ⟨fs, h1, h2, h3⟩ := ns_firsts hp'
  refine ⟨tuples' true, fun Q E hq => ?_, ns_cmp fun v hv => (hp' v hv).1⟩
  refine PySem.W.kat_kind (T := .type "int") h1 (by omega) (fun f hm => ?_) (by rfl) ?_
  · obtain ⟨x, t, rfl⟩ := h3 f hm
    exact PySem.W.Looks.now
  · have e : (Value.type "int" != Value.type "tuple") = true := by first | decide +kernel | rfl | decide
    rw [e]
    exact hq
/-- sorted(x), whatever x is walked over as -/
theorem sorted_src {x : Addr} {vs : List Value} {ltv : Value → Value → Bool} {Q : Value → Shared → Prop} (O : Swo ltv) (hz : vs.length ≤ sizeLine)
    (hcol : ∀ (E' : Value → Shared → Prop) (R : List Value → Shared → Prop), (∀ (h' : Heap) (tk : Nat), (∀ b o, s.heap.get? b = some o → h'.get? b = some o) → s.heap.objs.size ≤ h'.objs.size → R vs { s with heap := h', toks := tk }) → wpAny (model prog w) A.in1 (collect (.ref x)) R E' s)
    (hS : 2 ≤ vs.length → ∀ (s₁ : Shared) (a : Addr), s₁.heap.get? a = some (seqObj "list" vs.toArray 0) → (∀ b o, s.heap.get? b = some o → s₁.heap.get? b = some o) → SrtO.SortableO prog w A.in1.in1 s₁ a vs ltv)
    (h : ∀ (h' : Heap) (tk : Nat) (d : Addr) (out : List Value), Srtd ltv out → Stb ltv out vs → (∀ b o, s.heap.get? b = some o → h'.get? b = some o) → s.heap.objs.size ≤ d → (∃ n, h'.get? d = some (seqObj "list" out.toArray n)) → Q (.ref d) { s with heap := h', toks := tk }) :
    wpAny (model prog w) A (call (.builtin "sorted") [.ref x]) Q E s := by
  refine Calls.call_function_entry kind_sorted plain_sorted entry_sorted (args_sorted1 _) ?_
  unfold Builtin.«sorted»
  refine wpAny_bind (m := checkCount "sorted" 1 1 _) (wpAny_pure ?_)
  refine wpAny_bind (hcol _ _ fun h1 tk k1 hle => ?_)
  refine wpAny_bind (wpAny_newList ?_ hz)
  have hoL : (h1.push (seqObj "list" vs.toArray 0)).get? h1.objs.size = some (seqObj "list" vs.toArray 0) := Heap.get?_push_size _ rfl
  have keep : ∀ b o, s.heap.get? b = some o → (h1.push (seqObj "list" vs.toArray 0)).get? b = some o := fun b o q => Heap.get?_push_of_some _ (k1 b o q)
  refine wpAny_bind (wpAny_holding (wpAny_call_entry slot_list_sort ⟨_, hoL, rfl⟩ entry_list_sort (SrtO.list_sort_ord O hoL hz (fun h2 => hS h2 _ _ hoL keep) fun out hs hb => ⟨_, rfl, ?_⟩) (args_list_sort _)))
  obtain ⟨c, hc⟩ := sortedHeap_at (vs := vs) (out := out.toArray) hoL
  refine wpAny_pure ⟨_, rfl, h _ tk h1.objs.size out hs hb (fun b o e => ?_) hle ⟨c, hc⟩⟩
  have q := k1 b o e
  have hlt := Heap.lt_size q
  rw [sortedHeap_old (Nat.ne_of_lt hlt) (by rw [size_push']; exact Nat.lt_succ_of_lt hlt)]
  exact Heap.get?_push_of_some _ q
end

/-! ### lists of states -/
/-- xs: tuples with the numbers L -/
abbrev Sts (H : Hp) (xs : List V) (L : List (List Int)) : Prop := Paired (fun x ns => ∃ t, x = .ref t ∧ H t = some (.tup (ns.map V.int))) xs L
theorem Sts.mono {G H : Hp} (e : Ex G H) {xs : List V} {L : List (List Int)} (h : Sts G xs L) : Sts H xs L := by
  induction h with
  | nil => exact .nil
  | cons h _ ih => obtain ⟨t, e1, e2⟩ := h; exact .cons ⟨t, e1, e _ _ e2⟩ ih
theorem Sts.append {H : Hp} {xs ys : List V} {L M : List (List Int)} (h1 : Sts H xs L) (h2 : Sts H ys M) : Sts H (xs ++ ys) (L ++ M) := by
  induction h1 with
  | nil => exact h2
  | cons h _ ih => exact .cons h ih
theorem Sts.len {H : Hp} {xs : List V} {L : List (List Int)} (h : Sts H xs L) : xs.length = L.length := Paired.length h
theorem Sts.get {H : Hp} {xs : List V} {L : List (List Int)} (h : Sts H xs L) : ∀ {i : Nat} {x : V}, xs[i]? = some x → ∃ t ns, L[i]? = some ns ∧ x = .ref t ∧ H t = some (.tup (ns.map V.int)) := by
  induction h with
  | nil => intro i x e; cases e
  | cons h _ ih =>
    intro i x e
    cases i with
    | zero => obtain ⟨t, e1, e2⟩ := h; cases e; exact ⟨t, _, rfl, e1, e2⟩
    | succ i => exact ih e
/-- the numbers of the tuple x -/
def kT (H : Hp) : V → List Int
  | .ref t => match H t with
    | some (.tup xs) => xs.map fun | .int i => i | _ => 0
    | _ => []
  | _ => []
theorem kT_of {H : Hp} {t : Addr} {ns : List Int} (h : H t = some (.tup (ns.map V.int))) : kT H (.ref t) = ns := by
  show (match H t with | some (.tup xs) => xs.map (fun | .int i => i | _ => 0) | _ => []) = ns
  rw [h]
  show (ns.map V.int).map _ = ns
  rw [List.map_map]
  exact List.map_id' ns
theorem Sts.kT {H : Hp} {xs : List V} {L : List (List Int)} (h : Sts H xs L) : xs.map (NX.kT H) = L := by
  induction h with
  | nil => rfl
  | cons h _ ih => obtain ⟨t, rfl, e⟩ := h; rw [List.map_cons, ih, kT_of e]
theorem sts_of {H : Hp} : ∀ {xs : List V}, (∀ x ∈ xs, ∃ t ns, x = V.ref t ∧ H t = some (.tup (List.map V.int ns))) → Sts H xs (xs.map (kT H))
  | [], _ => .nil
  | x :: xs, h => by
    obtain ⟨t, ns, rfl, e⟩ := h x List.mem_cons_self
    rw [List.map_cons, kT_of e]
    exact .cons ⟨t, rfl, e⟩ (sts_of fun y hy => h y (List.mem_cons_of_mem _ hy))
theorem Sts.mem {H : Hp} {xs : List V} {L : List (List Int)} (h : Sts H xs L) : ∀ x ∈ xs, ∃ t ns, x = V.ref t ∧ H t = some (.tup (List.map V.int ns)) ∧ ns ∈ L := by
  intro x hx
  obtain ⟨i, hi⟩ := List.mem_iff_getElem?.mp hx
  obtain ⟨t, ns, e1, e2, e3⟩ := h.get hi
  exact ⟨t, ns, e2, e3, List.mem_of_getElem? e1⟩
abbrev Asc (L : List (List Int)) : Prop := L.Pairwise fun a b => lexL b a = false
/-- sorted(xs), xs a list of tuples of numbers of any length -/
def rSortedL (K : PySem.W.Frag) : List V → Hp → VK → Prop := fun vs H Q => ∃ (a : Addr) (xs : List V) (L : List (List Int)), vs = [V.ref a] ∧ SqL K H a xs ∧ Sts H xs L ∧ (∀ ns ∈ L, ns ≠ []) ∧
  ∀ ys L' p, Sts H ys L' → L'.Perm L → Asc L' → H p = none → Q (.ref p) (upd H p (.lst ys))
/-- sorted(d), d a dict whose keys are tuples of numbers -/
def rSortedD : List V → Hp → VK → Prop := fun vs H Q => ∃ (d : Addr) (kvs : List (List L2.Key × V)) (L : List (List Int)), vs = [V.ref d] ∧ Rd H d (.dT kvs) ∧ kvs.map (·.1) = L.map (List.map Sum.inl) ∧ (∀ ns ∈ L, ns ≠ []) ∧
  ∀ ys L' p, Sts H ys L' → L'.Perm L → Asc L' → H p = none → Q (.ref p) (upd H p (.lst ys))
section
variable {X : Cx}
theorem sts_out {H : Hp} {xs : List V} {L : List (List Int)} {us out : List Value} (hx : Sts H xs L) (e1 : xs = us.map backV) (h1 : Srtd (fun v u => lexL (kT H (backV v)) (kT H (backV u))) out) (h2 : Stb (fun v u => lexL (kT H (backV v)) (kT H (backV u))) out us) :
    Sts H (out.map backV) ((out.map backV).map (kT H)) ∧ ((out.map backV).map (kT H)).Perm L ∧ Asc ((out.map backV).map (kT H)) := by
  have hp : (out.map backV).Perm xs := by rw [e1]; exact h2.perm.map backV
  refine ⟨sts_of fun x hm => ?_, ?_, ?_⟩
  · obtain ⟨t, ns, a, b, _⟩ := hx.mem x (hp.mem_iff.mp hm)
    exact ⟨t, ns, a, b⟩
  · rw [← hx.kT]; exact hp.map _
  · unfold Asc
    rw [List.pairwise_map, List.pairwise_map]
    exact h1
theorem ns_raw {pins : List (Addr × Obj)} {s : Shared} {σ : L2.St} {H : Hp} {xs : List V} {L : List (List Int)} {us : List Value} (I : Inv X pins σ H s) (hx : Sts H xs L) (hne : ∀ ns ∈ L, ns ≠ []) (e1 : xs = us.map backV) (e2 : ∀ u ∈ us, ∃ a, u = Value.ref a) :
    ∀ v ∈ us, IsNs s.heap v (kT H (backV v)) ∧ kT H (backV v) ≠ [] := by
  intro v hv
  obtain ⟨t, rfl⟩ := e2 v hv
  have hm : V.ref t ∈ xs := by rw [e1]; exact List.mem_map.mpr ⟨_, hv, rfl⟩
  obtain ⟨t', ns, e, ht, hL⟩ := hx.mem _ hm
  cases e
  show IsNs s.heap (.ref t) (kT H (.ref t)) ∧ kT H (.ref t) ≠ []
  rw [kT_of ht]
  obtain ⟨_, its, r, o, ho, hc, n, hd⟩ := I.hok _ _ ht
  exact ⟨⟨t, o, its, n, rfl, ho, hc, hd, r⟩, hne ns hL⟩
theorem cr_sortedL : CallR X (.builtin "sorted") (rSortedL X.K) := by
  intro pins s σ H vs us Q I r h
  obtain ⟨a, xs, L, rfl, hs, hx, hne, q⟩ := h
  obtain ⟨its, rv, hl, hz⟩ := I.list hs
  obtain ⟨u, rfl, ru⟩ := vals1 r
  obtain rfl : u = Value.ref a := ru
  obtain ⟨e1, e2⟩ := refs_back rv fun x m => by
    obtain ⟨t, ns, e, _⟩ := hx.mem x m
    exact ⟨t, e⟩
  have hz' : its.length ≤ sizeLine := by rw [← rv.length]; exact hz
  have hns := ns_raw I hx hne e1 e2
  refine sorted_src (swo_lexL fun v => kT H (backV v)) hz' (fun E' R hR => ?_) (fun h2 s1 a1 ho1 k1 => ?_) fun h' tk d out h1 h2 kp hd hn => ?_
  · refine collect_list hl.isList (hR _ s.toks (fun b o q => ?_) ?_) hz'
    · rw [Heap.get?_update_ne _ _ _ _ (Nat.ne_of_lt (Heap.lt_size q))]
      exact Heap.get?_push_of_some _ q
    · rw [Heap.size_update, size_push']
      exact Nat.le_succ _
  · refine ns_sortable (by omega) (fun v hv => ⟨(hns v hv).1.keeps fun b o e _ => k1 b o e, (hns v hv).2⟩) fun o e => ?_
    have e' : some o = some (seqObj "list" its.toArray 0) := e.symm.trans ho1
    cases e'
    intro c
    exact absurd (Value.type.inj c) (by decide)
  · have h3 : ∀ u ∈ out, ∃ a, u = Value.ref a := fun u hu => e2 u (h2.perm.mem_iff.mp hu)
    obtain ⟨n, hn⟩ := hn
    obtain ⟨s1, s2, s3⟩ := sts_out hx e1 h1 h2
    refine ⟨.ref d, upd H d (.lst (out.map backV)), I.laid (t' := tk) kp hd ⟨?_, out, n, vals_back h3, hn⟩, rfl, q _ _ d s1 s2 s3 (I.hok.fresh hd)⟩
    rw [List.length_map, h2.len]
    exact hz'
theorem collect_dT {pins : List (Addr × Obj)} {s : Shared} {σ : L2.St} {H : Hp} {d : Addr} {kvs : List (List L2.Key × V)} (hc : X.calm = true) (I : Inv X pins σ H s) (hd : Rd H d (.dT kvs)) :
    ∃ bs : List Addr, IsKeys H kvs bs ∧ bs.length ≤ sizeLine ∧ ∀ (E' : Value → Shared → Prop) (R : List Value → Shared → Prop), (∀ (h' : Heap) (tk : Nat), (∀ b o, s.heap.get? b = some o → h'.get? b = some o) → s.heap.objs.size ≤ h'.objs.size → R (bs.map Value.ref) { s with heap := h', toks := tk }) →
      wpAny (model X.prog X.w) X.A.in1 (collect (.ref d)) R E' s := by
  obtain ⟨z, hs, ks, pr, o, es, ep, ho, hx, hdt, he, hn⟩ := (show ObjOk X.prog X.w H s.heap d (.dT kvs) from hd.ok I.hok)
  have l1 : es.size = ks.length := size_of_entries he
  have l2 : kvs.length = ks.length := Paired.length pr
  refine ⟨ks.map fun x => x.2.1, isKeys_of pr, by rw [List.length_map]; omega, fun E' R hR => ?_⟩
  have hlt : d < s.heap.objs.size := Heap.lt_size ho
  unfold collect
  refine wpAny_bind (wpAny_runValue (codeAny_builtin F.entry_proto_collect ?_))
  rw [Around.under_plainId F.plain_proto_collect _]
  show wpAny _ X.A.in1.in1 (newList [] >>= fun l => again (.builtin "list.__iadd__" ⟨[l, .ref d], []⟩)) _ _ s
  refine wpAny_bind (wpAny_newObj_type ?_)
  refine wpAny_pure ⟨plainId_quiet F.plain_list_iadd _, codeAny_builtin F.entry_list_iadd ?_⟩
  rw [Around.under_plainId F.plain_list_iadd _]
  have hS : (s.heap.push { cls := .type "list", data := .seq ([] : List Value).toArray }).get? s.heap.objs.size = some { cls := .type "list", data := .seq #[] } := Heap.get?_push_size _ rfl
  have hok : (s.heap.push { cls := .type "list", data := .seq ([] : List Value).toArray }).get? d = some o := Heap.get?_push_of_some _ ho
  show wpAny _ X.A.in1.in1 (Builtin.List.listExtendWith (.ref s.heap.objs.size) (.ref d) (.ref s.heap.objs.size)) _ _ _
  have key := PySem.W.kdl_extend (prog := X.prog) (w := X.w) (A := X.A.in1) (s := { s with heap := s.heap.push { cls := .type "list", data := .seq ([] : List Value).toArray } })
    (R := fun (q : Result) (s' : Shared) => q = .ok (.ret (.ref s.heap.objs.size)) ∧ ∃ (h' : Heap) (tk : Nat) (acc' : Array Value) (c' : Nat), s' = { s with heap := h', toks := tk } ∧
      (∀ b o, s.heap.get? b = some o → h'.get? b = some o) ∧ h'.get? s.heap.objs.size = some { cls := .type "list", dict := none, data := .seq acc' c', slots := #[] } ∧ ItemsOf (fun i v => ∃ en : DictEntry, es[i]? = some en ∧ v = en.key) acc' es.size)
    (kdl_raw hs hx hdt) (I.ok.hd hc) hok s.heap.objs.size (Nat.ne_of_gt hlt) (Nat.ne_of_gt hlt) (.ref s.heap.objs.size) 0 hS
    (fun h' tk acc' c' hk e hi => ⟨rfl, h', tk, acc', c', rfl, fun b o q => hk b o (Nat.ne_of_lt (Heap.lt_size q)) (Heap.get?_push_of_some _ q), e, hi⟩) (by omega)
  have fin : ∀ (q : Result) (s' : Shared), (q = .ok (.ret (.ref s.heap.objs.size)) ∧ ∃ (h' : Heap) (tk : Nat) (acc' : Array Value) (c' : Nat), s' = { s with heap := h', toks := tk } ∧
      (∀ b o, s.heap.get? b = some o → h'.get? b = some o) ∧ h'.get? s.heap.objs.size = some { cls := .type "list", dict := none, data := .seq acc' c', slots := #[] } ∧ ItemsOf (fun i v => ∃ en : DictEntry, es[i]? = some en ∧ v = en.key) acc' es.size) →
      ∃ (h' : Heap) (tk : Nat) (acc' : Array Value) (c' : Nat), q = .ok (.ret (.ref s.heap.objs.size)) ∧ s' = { s with heap := h', toks := tk } ∧ h'.get? s.heap.objs.size = some { cls := .type "list", dict := none, data := .seq acc' c', slots := #[] } ∧ R acc'.toList { s with heap := h', toks := tk } := by
    rintro q s' ⟨e, h', tk, acc', c', e2, kp, eS, it⟩
    refine ⟨h', tk, acc', c', e, e2, eS, ?_⟩
    have ea : acc'.toList = ks.map fun x => Value.ref x.2.1 := by
      have hl : acc'.toList.length = ks.length := by rw [Array.length_toList, it.1]; exact l1
      apply List.ext_getElem?
      intro j
      rw [List.getElem?_map]
      cases hj : acc'.toList[j]? with
      | none =>
        have h1 := List.getElem?_eq_none_iff.mp hj
        rw [List.getElem?_eq_none (by omega)]
        all_goals rfl
      | some v =>
        obtain ⟨en, hen, hv⟩ := it.2 j v (by rw [← Array.getElem?_toList]; exact hj)
        have qe := entry_at he j
        rw [hen] at qe
        cases hb : ks[j]? with
        | none =>
          rw [hb] at qe
          exact nomatch (show some en = none from qe)
        | some b =>
          rw [hb] at qe
          have e2 : en = entryOfKey (tupleKind (mixKind X.prog X.w)) b := Option.some.inj qe
          rw [hv, e2]
          all_goals rfl
    have eb : acc'.toList = (ks.map fun x => x.2.1).map Value.ref := by rw [ea, List.map_map]; all_goals rfl
    rw [eb]
    exact hR h' tk kp (Nat.le_of_lt (Heap.lt_size eS))
  refine wpAny_mono key (fun fn s' x => ?_) fun e s' x => ?_
  · cases fn with
    | done f =>
      obtain ⟨h', tk, acc', c', e, e2, eS, q⟩ := fin _ _ x
      cases e
      subst e2
      show wpAny _ X.A.in1 (load s.heap.objs.size >>= _) _ _ _
      exact wpAny_bind (wpAny_load eS (wpAny_pure q))
    | again c₁ =>
      refine ⟨x.1, codeAny_mono x.2 fun q s₂ y => ?_⟩
      obtain ⟨h', tk, acc', c', e, e2, eS, q2⟩ := fin _ _ y
      subst e e2
      show wpAny _ X.A.in1 (load s.heap.objs.size >>= _) _ _ _
      exact wpAny_bind (wpAny_load eS (wpAny_pure q2))
  · exact absurd x.1 (by simp)
theorem cr_sortedD (hc : X.calm = true) : CallR X (.builtin "sorted") rSortedD := by
  intro pins s σ H vs us Q I r h
  obtain ⟨d, kvs, L, rfl, hd, hk, hne, q⟩ := h
  obtain ⟨u, rfl, ru⟩ := vals1 r
  obtain rfl : u = Value.ref d := ru
  obtain ⟨bs, ik, hz, hcol⟩ := collect_dT hc I hd
  have hx : Sts H (bs.map V.ref) L := by
    clear hcol hz q hd hne
    unfold IsKeys at ik
    induction ik generalizing L with
    | nil =>
      cases L with
      | nil => exact .nil
      | cons _ _ => cases hk
    | @cons p b ps bs h t ih =>
      cases L with
      | nil => cases hk
      | cons ns L =>
        simp only [List.map_cons, List.cons.injEq] at hk
        refine .cons ⟨b, rfl, ?_⟩ (ih L hk.2)
        rw [h, hk.1, List.map_map] <;> rfl
  have e1 : bs.map V.ref = (bs.map Value.ref).map backV := by rw [List.map_map] <;> rfl
  have e2 : ∀ u ∈ bs.map Value.ref, ∃ a, u = Value.ref a := fun u hu => by obtain ⟨a, _, rfl⟩ := List.mem_map.mp hu; exact ⟨a, rfl⟩
  have hz' : (bs.map Value.ref).length ≤ sizeLine := by rw [List.length_map]; exact hz
  have hns := ns_raw I hx hne e1 e2
  refine sorted_src (swo_lexL fun v => kT H (backV v)) hz' hcol (fun h2 s1 a1 ho1 k1 => ?_) fun h' tk p out h1 h2 kp hp hn => ?_
  · refine ns_sortable (by omega) (fun v hv => ⟨(hns v hv).1.keeps fun b o e _ => k1 b o e, (hns v hv).2⟩) fun o e => ?_
    have e' : some o = some (seqObj "list" (bs.map Value.ref).toArray 0) := e.symm.trans ho1
    cases e'
    intro c
    exact absurd (Value.type.inj c) (by decide)
  · have h3 : ∀ u ∈ out, ∃ a, u = Value.ref a := fun u hu => e2 u (h2.perm.mem_iff.mp hu)
    obtain ⟨n, hn⟩ := hn
    obtain ⟨s1, s2, s3⟩ := sts_out hx e1 h1 h2
    refine ⟨.ref p, upd H p (.lst (out.map backV)), I.laid (t' := tk) kp hp ⟨?_, out, n, vals_back h3, hn⟩, rfl, q _ _ p s1 s2 s3 (I.hok.fresh hp)⟩
    rw [List.length_map, h2.len]
    exact hz'
end
end NX

namespace NX
open PySem PySem.Spec PyProof.Rows L2
/-! ### rules with the fragment named: for bodies of comprehensions -/
section
variable {X : Cx} {K : PySem.W.Frag}
theorem call_lenK (e : X.K = K := by rfl) : CallR X (.builtin "len") (Evl.rLenS K) := e ▸ call_lenN
theorem call_listK (e : X.K = K := by rfl) : CallR X (.type "list") (Evl.rListS K) := e ▸ call_listN
theorem call_tupK (e : X.K = K := by rfl) : CallR X (.type "tuple") (rTupS K) := e ▸ call_tupN
theorem call_isiK' (e : X.K = K := by rfl) : CallR X (.builtin "isinstance") (rIsi K) := e ▸ call_isi
theorem cr_sortedIK (e : X.K = K := by rfl) : CallR X (.builtin "sorted") (rSortedI K) := e ▸ cr_sortedI
theorem cr_sortedPOK (e : X.K = K := by rfl) : CallR X (.builtin "sorted") (rSortedPO K) := e ▸ cr_sortedPO
theorem cr_sumK (hc : X.calm = true) (e : X.K = K := by rfl) : CallR X (.builtin "sum") (rSum K) := e ▸ cr_sum hc
theorem cr_maxK (hc : X.calm = true) (e : X.K = K := by rfl) : CallR X (.builtin "max") (rMax K) := e ▸ cr_max hc
theorem cr_minK (hc : X.calm = true) (e : X.K = K := by rfl) : CallR X (.builtin "min") (rMin K) := e ▸ cr_min hc
theorem cr_allK (hc : X.calm = true) (e : X.K = K := by rfl) : CallR X (.builtin "all") (rAll K) := e ▸ cr_all hc
theorem ix_listK (e : X.K = K := by rfl) : IxR X (rIxL K) := e ▸ ix_list
theorem ix_tupK (e : X.K = K := by rfl) : IxR X (rIxT K) := e ▸ ix_tup
theorem sl_listK (e : X.K = K := by rfl) : SlR X (rSlL K) := e ▸ sl_list
theorem sl_tupAK (e : X.K = K := by rfl) : SlR X (rSlA K) := e ▸ sl_tupA
theorem op_in_seqK (e : X.K = K := by rfl) : OpR X (compareOp .In) (rIn K false) := e ▸ op_in_seq
theorem op_notIn_seqK (e : X.K = K := by rfl) : OpR X (compareOp .NotIn) (rIn K true) := e ▸ op_notIn_seq
theorem op_eqDK (hu : X.A.units + 64 < cLine) (e : X.K = K := by rfl) : OpR X (compareOp .Eq) (rEqD K) := e ▸ op_eqD hu
theorem op_neDK (hu : X.A.units + 64 < cLine) (e : X.K = K := by rfl) : OpR X (compareOp .NotEq) (rNeD K) := e ▸ op_neD hu
theorem op_inDK (hu : X.A.units + 65 < cLine) (e : X.K = K := by rfl) : OpR X (compareOp .In) (rInD K) := e ▸ op_inD hu
theorem op_notInDK (hu : X.A.units + 65 < cLine) (e : X.K = K := by rfl) : OpR X (compareOp .NotIn) (rNotInD K) := e ▸ op_notInD hu
theorem op_catLK (e : X.K = K := by rfl) : OpR X (binaryOp .Add) (rCatL K) := e ▸ op_catL
theorem op_catAK (e : X.K = K := by rfl) : OpR X (binaryOp .Add) (rCatA K) := e ▸ op_catA
theorem op_repTK (e : X.K = K := by rfl) : OpR X (binaryOp .Mult) (rRepT K) := e ▸ op_repT
theorem mt_indexK (e : X.K = K := by rfl) : MtR X "list.index" (rIndex K) := e ▸ mt_index
theorem pe_fldK {e : Expr} {ta : TE} {f : Str} {pos : Pos} (he : PE X e ta) (hb : attributeBase e f X.env (eval e X.env) = eval e X.env) (h : X.K = K := by rfl) : PE X (.Attribute e f pos) (tFld K ta f) := h ▸ pe_fld he hb
theorem pi_listK {tg l : Expr} {tl : TE} (hl : PE X l tl) (h : X.K = K := by rfl) : PI X tg l (iList K tl) := h ▸ pi_list hl
theorem pi_tupK {tg l : Expr} {tl : TE} (hl : PE X l tl) (h : X.K = K := by rfl) : PI X tg l (iTup K tl) := h ▸ pi_tup hl
theorem pg_tupK {es : List Expr} {k : Nat} {t : TGs} {n : Nat} {pos : Pos} (hc : X.calm = true) (h : PGs X es t) (e : X.K = K := by rfl)
    (hn : (assignEach es X.env).length = n := by rfl) (hst : (assignEach es X.env).findIdx? (·.1) = none := by rfl) : PG X (.Tuple es k pos) (gTup K n t) := e ▸ pg_tup hc h hn hst
theorem pe_bmK {o e : Expr} {es : List Expr} {to : TE} {t : TA} {name : Str} {apos cpos : Pos} {T id : String} {r : V → List V → Hp → VK → Prop} (pa : PlainAttrs T) (slot : Slot T name id) (hty : typeOf (.builtin id) = pure (.type "method_descriptor")) (hm : MtR X id r) (ho : PE X o to) (ha : PA X (e :: es) t)
    (h : X.K = K := by rfl) (hbase : attributeBase o name X.env (eval o X.env) = eval o X.env := by rfl)
    (hfew : ((backTo cpos (starEach (e :: es) X.env)).all (fun x => !x.1) && (backToKw cpos (keywordEach [] X.env)).all (fun x => x.1.isSome)
      && decide ((e :: es).length + ([] : List Keyword).length + (if ([] : List Keyword).isEmpty then 0 else 1) < 30)) = true := by rfl)
    (hline : (apos.endLine == cpos.line) = true := by rfl) (hs : starEach (e :: es) X.env = (false, eval e X.env) :: starEach es X.env := by rfl) (hplain : (backTo cpos (starEach es X.env)).any (·.1) = false := by rfl) :
    PE X (.Call (.Attribute o name apos) (e :: es) [] cpos) (tBM K T r to t) := h ▸ pe_bm pa slot hty hm ho ha hbase hfew hline hs hplain
end
end NX

namespace NX
open PySem PySem.Spec PyProof.Rows L2
open Evl (Ex ex_l ex_t fresh_back)
/-! ### exceptions of own classes with one field -/
/-- the base class's name, at C0: its __init__ is ValueError's -/
structure BaseC (K : PySem.W.Frag) (C0 : Addr) : Prop where
  rd : PySem.W.readsIn K C0 (.type "type") = true
  ga : PySem.W.specialIn K (.ref C0) "__getattribute__" = some (some (.builtin "type.__getattribute__"))
  vV : PySem.W.findCls K (.ref C0) (.type "type") "__init__" = some (.val (.builtin "ValueError.__init__"))
section
variable {X : Cx} {e : Expr} {es : List Expr} {ta : TA} {p1 p2 pos : Pos} {x : Str} {C0 : Addr}
theorem pe_oeinit {K : PySem.W.Frag} {pl : Sem Bool} (hm : X.mg x = some (.ref C0)) (B : BaseC X.K C0) (ha : PA X (e :: es) ta) (hK : X.K = K := by rfl) (hg : Gl X x := by rfl) (hdb : (x == ("__debug__" : Str)) = false := by decide)
    (hc : eval (.Call (.Attribute (.Name x p1) "__init__" p2) (e :: es) [] pos) X.env = (do
      let ov ← eval (.Name x p1) X.env
      standAt p2.atName
      let (f, first) ← holding [ov] (getMethod ov "__init__" pl)
      callWith pos f first (backTo pos (starEach (e :: es) X.env)) (backToKw pos (keywordEach [] X.env))) := by rfl)
    (he : starEach (e :: es) X.env = (false, eval e X.env) :: starEach es X.env := by rfl) (hpl : (backTo pos (starEach es X.env)).any (·.1) = false := by rfl) :
    PE X (.Call (.Attribute (.Name x p1) "__init__" p2) (e :: es) [] pos) (tVeI K ta) := by
  subst hK
  refine ⟨fun pins s σ H Q I h => ?_⟩
  refine PySem.W.methodCall_KW (ld_glob I hg hm ?_ hdb) hc
  refine PySem.W.method_cls I.kIn B.ga (PySem.W.cls_value I.kIn B.rd B.vV (by decide +kernel) ?_)
  refine PyProof.Rows.callWith_method1 (thn (ha.run pos pins _ σ H _ (I.tok _) h) fun us s1 ⟨vs, H1, I1, r1, a, C, ws, ev, hl, T, ea, q⟩ => ?_) he hpl
  subst ev
  cases r1 with
  | @cons _ u1 _ ur ra rw1 =>
    obtain rfl : u1 = Value.ref a := ra
    have hlen := Paired.length rw1
    exact oinit_ok T I1 ea (by rw [sizeLine_eq]; omega) fun s' J => ⟨.non, H1, J, rfl, q⟩
end
def spExInit (K : PySem.W.Frag) (C : Addr) (f : Str) : Sp := fun vs H Q _ => ∃ (a : Addr) (v : V), vs = [.ref a, v] ∧ H a = some (exo a C none) ∧ OexC K C ∧ ∀ dx, H dx = none → dx ≠ a → Q .non (upd (upd H dx (exd dx [(f, v)])) a (exo a C (some dx)))
/-- the class x at C: raised with one value, kept as the field f -/
def Exn (P : Program) (w : World) (K : PySem.W.Frag) (mg : Str → Option Value) (base : Heap) (x : Str) (C : Addr) (f : Str) : Prop :=
  ∃ (fI : Addr) (fd : FuncData), mg x = some (.ref C) ∧ OexC K C ∧ PySem.W.findIn K (.ref C) "__init__" = some (some (.ref fI)) ∧ PySem.W.typeIn K (.ref fI) = some (.type "function") ∧ FnOk P w K mg base (L2.CX P w) 1 fI fd ["self", f] (spExInit K C f) ∧ Binds K fd ["self", f] []
def RAISE (K : PySem.W.Frag) (C : Addr) (f : Str) (W : WX) (σ : L2.St) (vs : List V) (H1 : Hp) : Prop := vs.length ≤ 1000 ∧ ∀ a, H1 a = none → spExInit K C f (.ref a :: (vs ++ [])) (upd H1 a (exo a C none))
  (fun v H2 => v = .non ∧ ∃ (d : Addr) (fs : List (Str × V)), H2 a = some (exo a C (some d)) ∧ H2 d = some (exd d fs) ∧ H1 d = none ∧ W (.ref C) (some d) σ (upd (del H2 a) d (.xd fs))) (fun _ _ _ => False)
def tRaiseE (K : PySem.W.Frag) (C : Addr) (f : Str) (W : WX) (ta : TA) : TS := fun _ σ H => ta σ H fun vs H1 => RAISE K C f W σ vs H1
theorem s_raiseE {K : PySem.W.Frag} {C : Addr} {f : Str} {W : WX} {ta : TA} {D : Ends} {σ : L2.St} {H : Hp} (k : ta σ H fun vs H1 => RAISE K C f W σ vs H1) : tRaiseE K C f W ta D σ H := k
theorem n_raise {K : PySem.W.Frag} {C : Addr} {f : Str} {W : WX} {σ : L2.St} {v : V} {H1 : Hp} (T : OexC K C) (k : ∀ d H2, H1 d = none → Ex H1 H2 → H2 d = some (.xd [(f, v)]) → W (.ref C) (some d) σ H2) : RAISE K C f W σ [v] H1 :=
  ⟨by simp, fun a ha => ⟨a, v, rfl, upd_same, T, fun dx hdx ne => by
    have hd1 : H1 dx = none := by rw [upd_ne ne] at hdx; exact hdx
    refine ⟨rfl, dx, [(f, v)], upd_same, ?_, hd1, ?_⟩
    · rw [upd_ne ne, upd_same]
    · have z : upd (del (upd (upd (upd H1 a (exo a C none)) dx (exd dx [(f, v)])) a (exo a C (some dx))) a) dx (.xd [(f, v)]) = upd H1 dx (.xd [(f, v)]) := by
        funext b
        by_cases h1 : b = dx
        · rw [h1, upd_same, upd_same]
        · rw [upd_ne h1, upd_ne h1]
          by_cases h2 : b = a
          · rw [h2, del_same, ha]
          · rw [del_ne h2, upd_ne h2, upd_ne h1, upd_ne h2]
      rw [z]
      exact k dx _ hd1 (Ex.new hd1) upd_same⟩⟩
theorem ps_raiseE {X : Cx} {K : PySem.W.Frag} {W : WX} {x : Str} {C : Addr} {f : Str} {e : Expr} {ta : TA} {p pos pos2 : Pos} (hc : X.calm = true) (tk : Takes X W) (N : Exn X.prog X.w X.K X.mg X.base x C f) (hr : Room 2 X.A) (ha : PA X [e] ta) (hK : X.K = K := by rfl) (hg : Gl X x := by rfl)
    (hdb : (x == ("__debug__" : Str)) = false := by decide) (hst : starEach [e] X.env = (false, eval e X.env) :: starEach [] X.env := by rfl) (hpl : (backTo pos (starEach [] X.env)).any (·.1) = false := by rfl) :
    PS X (.Raise (some (.Call (.Name x p) [e] [] pos)) none pos2) (tRaiseE K C f W ta) := by
  subst hK
  obtain ⟨fI, fd, hm, T, iC, tI, F, hb⟩ := N
  exact ps_raise (pos := pos2) hc tk (pmk_oex (pos := pos) (p := p) T iC tI F hr hb .nil (fun _ _ _ _ _ _ _ h => by
    obtain ⟨_, _, _, _, _, _, _, _, _, _, _, _, z⟩ := h
    exact z.elim) hg hm ha hdb hst hpl)
theorem Exn.oex {P : Program} {w : World} {K : PySem.W.Frag} {mg : Str → Option Value} {base : Heap} {x : Str} {C : Addr} {f : Str} (N : Exn P w K mg base x C f) : OexC K C := let ⟨_, _, _, T, _⟩ := N; T
/-! ### the body of an __init__ -/
def tVeI' (K : PySem.W.Frag) (ta : TA) : TE := tVeI K ta
theorem n_vei {K : PySem.W.Frag} {σ : L2.St} {H : Hp} {ta : TA} {Q : VK} (k : ta σ H fun vs H1 => ∃ (a C : Addr) (ws : List V), vs = .ref a :: ws ∧ ws.length ≤ 1000 ∧ OexC K C ∧ H1 a = some (exo a C none) ∧ Q .non H1) : tVeI K ta σ H Q := k
/-! ### calls that may raise, in a try -/
theorem pe_calS {X : Cx} {k : Nat} {ps : List Str} {sp : Sp} {E : L2.St → XK} {x : Str} {p pos : Pos} {e : Expr} {es : List Expr} {t : TA} (C : Cal X.prog X.w X.K X.mg X.base k x ps [] sp) (hr : Room k X.A) (hx : ∀ σ, PassesAt (L2.CX X.prog X.w) X σ (E σ)) (ha : PA X (e :: es) t) (hg : Gl X x := by rfl) (hdb : (x == ("__debug__" : Str)) = false := by decide)
    (he : starEach (e :: es) X.env = (false, eval e X.env) :: starEach es X.env := by rfl) (hpl : (backTo pos (starEach es X.env)).any (·.1) = false := by rfl) : PE X (.Call (.Name x p) (e :: es) [] pos) (tCallS sp E t) := by
  obtain ⟨f, fd, ds, F, hm, hk, hb, hd⟩ := C
  cases hd
  exact pe_callS F hr hg hm hk hb hx ha hdb he hpl
theorem g_calS {sp : Sp} {E : L2.St → XK} {tr : TA} {σ : L2.St} {H : Hp} {Q : VK} (k : tr σ H fun vs H1 => sp vs H1 Q (E σ)) : tCallS sp E tr σ H Q := k
/-- the way out of a def: E -/
theorem passE {X : Cx} {W : WX} {E : XK} (tk : Takes X W) (hW : ∀ cls d σ H, E cls d H → W cls d σ H) : Passes (L2.CX X.prog X.w) X E := passes_call tk hW
/-! ### what except clauses ask -/
theorem n_as {K : PySem.W.Frag} {c : Value} {i : Nat} {ts : Addr → Value → Option Addr → TS} {Wout : WX} {D : Ends} {cls : Value} {d : Option Addr} {σ : L2.St} {H : Hp} (he : PySem.W.exmOne K cls c = some true)
    (k : ∀ a, H a = none → ts a cls d { nx := fun σ' H' => D.nx (σ'.set i none) H', rt := D.rt, bk := fun σ' H' => D.bk (σ'.set i none) H', ct := fun σ' H' => D.ct (σ'.set i none) H' } (σ.set i (some (.ref a))) H) : wAs K c i ts Wout D cls d σ H :=
  ⟨true, he, fun _ => k, fun z => by cases z⟩
theorem pe_xfK {X : Cx} {K : PySem.W.Frag} {a C : Addr} {oe : Obj} {cls : Value} {d : Option Addr} {pn : List (Addr × Obj)} {e : Expr} {te : TE} {pos : Pos} {n : Str} (T : XfC X.K C) (hno : PySem.W.findIn X.K (.ref C) n = some none)
    (hz : Zc cls d oe) (hf : ∃ vs, oe.data = .fields vs) (he : PE (X.suite a ((a, oe) :: pn)) e te) (hb : attributeBase e n X.env (eval e X.env) = eval e X.env := by rfl) :
    PE (X.suite a ((a, oe) :: pn)) (.Attribute e n pos) (tXf a cls d C n te) := pe_xf T hno hz hf he hb
def XFLD (a : Addr) (cls : Value) (d : Option Addr) (C : Addr) (f : Str) (Q : VK) (x : V) (H1 : Hp) : Prop := x = .ref a ∧ cls = .ref C ∧ ∃ (dd : Addr) (fs : List (Str × V)) (v : V), d = some dd ∧ H1 dd = some (.xd fs) ∧ fs.lookup f = some v ∧ Q v H1
theorem g_xf {a : Addr} {cls : Value} {d : Option Addr} {C : Addr} {f : Str} {te : TE} {σ : L2.St} {H : Hp} {Q : VK} (k : te σ H (XFLD a cls d C f Q)) : tXf a cls d C f te σ H Q := k
theorem n_xf {a d C : Addr} {f : Str} {v : V} {Q : VK} {H : Hp} (h : H d = some (.xd [(f, v)])) (k : Q v H) : XFLD a (.ref C) (some d) C f Q (.ref a) H := ⟨rfl, rfl, d, [(f, v)], v, rfl, h, by simp [List.lookup], k⟩
theorem nw_tup' {H H' : Hp} {t : Addr} {xs : List V} (e : Ex H H') (h : H' t = some (.tup xs)) : nw H H' t = some (.tup xs) := by
  cases q : H t with
  | none => rw [nw_new q]; exact h
  | some o =>
    have z := e _ _ q
    rw [h] at z
    cases z
    rw [nw_tup q rfl]
    exact h
def OST (K : PySem.W.Frag) (f : Str) (D : Ends) (σ : L2.St) (y x : V) (H2 : Hp) : Prop := ∃ a C : Addr, x = .ref a ∧ OexC K C ∧ PySem.W.findIn K (.ref C) f = some none ∧
  ((H2 a = some (exo a C none) ∧ ∀ dx, H2 dx = none → dx ≠ a → D.nx σ (upd (upd H2 dx (exd dx [(f, y)])) a (exo a C (some dx)))) ∨
    ∃ (dx : Addr) (fs : List (Str × V)), H2 a = some (exo a C (some dx)) ∧ H2 dx = some (exd dx fs) ∧ fs.length ≤ 900 ∧ D.nx σ (upd H2 dx (exd dx ((f, y) :: fs))))
theorem s_ost {K : PySem.W.Frag} {f : Str} {to te : TE} {D : Ends} {σ : L2.St} {H : Hp} (k : te σ H fun y H1 => to σ H1 fun x H2 => OST K f D σ y x H2) : tOst K f to te D σ H := k
end NX

namespace NX
open PySem PySem.Spec PyProof.Rows L2
open Evl (Ex ex_l ex_t fresh_back)
theorem hu1 {n : Nat} (h : n + 65 < cLine) : n + 1 < cLine := by omega
/-! ### comprehensions of two loops: the outer one over a range, the inner one over a list -/
/-- the inner loop: what it asks of J1 at H4; Nx: the outer loop's next turn -/
def LCIN (J1 : It) (g1 : TG) (tt1 : TT) (te : TE) (vs1 : List Nat) (σ2 : L2.St) (D : Addr) (Nx : Hp → Prop) (H4 : Hp) : Prop := ∃ W1 : Nat → Nat → Hp → Prop, (∃ m, W1 0 m H4) ∧ ∀ j k H, W1 j k H →
  (J1.stop j H ∧ Nx H) ∨ (J1.go j H ∧ ∃ Nx1 : Hp → Prop, (∀ H', Nx1 H' → ∃ k', k' < k ∧ W1 (j + 1) k' H') ∧ ∀ x H', J1.yld j H x H' → g1 x (wipe σ2 vs1) H' fun σ3 H5 => wipe σ3 vs1 = wipe σ2 vs1 ∧ tt1 σ3 H5 fun b H6 =>
    if b = true then te σ3 H6 fun y H7 => ∃ acc, H7 D = some (.lst acc) ∧ acc.length < sizeLine ∧ Nx1 (upd H7 D (.lst (acc ++ [y]))) else Nx1 H6)
def LCJ2 (J : It) (g : TG) (tt : TT) (wi1 : TI) (g1 : TG) (tt1 : TT) (te : TE) (vs vs1 : List Nat) (σ : L2.St) (H1 : Hp) (Q : VK) : Prop := ∀ D, H1 D = none → ∃ W : Nat → Nat → Hp → Prop, (∃ m, W 0 m (upd H1 D (.lst []))) ∧ ∀ i m H, W i m H →
  (J.stop i H ∧ Q (.ref D) H) ∨ (J.go i H ∧ ∃ Nx : Hp → Prop, (∀ H', Nx H' → ∃ m', m' < m ∧ W (i + 1) m' H') ∧ ∀ x H', J.yld i H x H' → g x (wipe σ vs) H' fun σ2 H2 => wipe σ2 vs = wipe σ vs ∧ tt σ2 H2 fun b H3 =>
    if b = true then wi1 σ2 H3 fun J1 H4 => LCIN J1 g1 tt1 te vs1 σ2 D Nx H4 else Nx H3)
theorem g_lc2 {wi wi1 : TI} {g g1 : TG} {tt tt1 : TT} {te : TE} {vs vs1 : List Nat} {σ : L2.St} {H : Hp} {Q : VK} (k : wi σ H fun J H1 => LCJ2 J g tt wi1 g1 tt1 te vs vs1 σ H1 Q) : tLc2 wi g tt wi1 g1 tt1 te vs vs1 σ H Q := k
section
variable {K : PySem.W.Frag} {σ σ2 : L2.St} {G H : Hp} {L : List (Addr × HO)} {te : TE} {tt tt1 : TT} {g g1 : TG} {wi1 : TI} {vs vs1 : List Nat} {Q : VK} {D a : Addr} {acc ys : List V} {Nx : Hp → Prop}
theorem v2_rng1 {j : Int} (F : Nat → List V → Hp → List (Addr × HO) → Prop) (S : Own G L H) (hj : 0 ≤ j ∧ j ≤ 1000000) (h0 : F 0 [] G L)
    (hs : ∀ D (i : Nat) acc G1 L1 H1, (i : Int) < j → Ex G G1 → F i acc G1 L1 → Own G1 ((D, .lst acc) :: L1) H1 → g (.int (i : Int)) (wipe σ vs) H1 fun σ2 H2 => wipe σ2 vs = wipe σ vs ∧ tt σ2 H2 fun b H3 =>
      if b = true then wi1 σ2 H3 fun J1 H4 => LCIN J1 g1 tt1 te vs1 σ2 D (fun H' => ∃ acc G2 L2, Ex G G2 ∧ F (i + 1) acc G2 L2 ∧ Own G2 ((D, .lst acc) :: L2) H') H4 else ∃ acc G2 L2, Ex G G2 ∧ F (i + 1) acc G2 L2 ∧ Own G2 ((D, .lst acc) :: L2) H3)
    (hd : ∀ p acc G1 L1 H1, Ex G G1 → F j.toNat acc G1 L1 → Own G1 ((p, .lst acc) :: L1) H1 → Q (.ref p) H1) :
    ∃ j' : Int, [V.int j] = [.int j'] ∧ -(2 ^ 62) ≤ j' ∧ j' < 2 ^ 62 ∧ LCJ2 (Itr 0 j'.toNat) g tt wi1 g1 tt1 te vs vs1 σ H Q := by
  refine ⟨j, rfl, by omega, by omega, fun D hD => ⟨fun i m H => m = j.toNat - i ∧ i ≤ j.toNat ∧ ∃ acc G2 L2, Ex G G2 ∧ F i acc G2 L2 ∧ Own G2 ((D, .lst acc) :: L2) H, ⟨_, rfl, Nat.zero_le _, [], G, L, Ex.refl G, h0, S.lay hD⟩, ?_⟩⟩
  rintro i m H1 ⟨rfl, hi, acc, G1, L1, e, f, S1⟩
  by_cases c : i < j.toNat
  · refine .inr ⟨c, fun H' => ∃ acc G2 L2, Ex G G2 ∧ F (i + 1) acc G2 L2 ∧ Own G2 ((D, .lst acc) :: L2) H', fun H' p => ⟨j.toNat - (i + 1), by omega, rfl, c, p⟩, fun x H' hx => ?_⟩
    obtain ⟨e1, e2⟩ := hx
    subst e1
    have z : x = .int (i : Int) := by
      have e2' : x = V.int (0 + (i : Int)) := e2
      rw [e2', Int.zero_add]
    rw [z]
    exact hs D i acc G1 L1 _ (by omega) e f S1
  · have ei : i = j.toNat := by omega
    subst ei
    exact .inl ⟨Nat.le_refl _, hd D acc G1 L1 H1 e f S1⟩
theorem v2_list (F : Nat → List V → Hp → List (Addr × HO) → Prop) (S : Own G ((D, .lst acc) :: L) H) (hx : SqL K G a ys) (h0 : F 0 acc G L)
    (hs : ∀ i y acc G1 L1 H1, ys[i]? = some y → Ex G G1 → F i acc G1 L1 → Own G1 ((D, .lst acc) :: L1) H1 → g1 y (wipe σ2 vs1) H1 fun σ3 H2 => wipe σ3 vs1 = wipe σ2 vs1 ∧ tt1 σ3 H2 fun b H3 =>
      if b = true then te σ3 H3 fun z H4 => ∃ acc, H4 D = some (.lst acc) ∧ acc.length < sizeLine ∧ ∃ acc' G2 L2, Ex G G2 ∧ F (i + 1) acc' G2 L2 ∧ Own G2 ((D, .lst acc') :: L2) (upd H4 D (.lst (acc ++ [z]))) else ∃ acc' G2 L2, Ex G G2 ∧ F (i + 1) acc' G2 L2 ∧ Own G2 ((D, .lst acc') :: L2) H3)
    (hd : ∀ acc G1 L1 H1, Ex G G1 → F ys.length acc G1 L1 → Own G1 ((D, .lst acc) :: L1) H1 → Nx H1) :
    ∃ p, V.ref a = .ref p ∧ (∃ xs, SqL K H p xs) ∧ LCIN (Itl K p) g1 tt1 te vs1 σ2 D Nx H := by
  refine ⟨a, rfl, ⟨ys, S.sl hx⟩, fun i m H => m = ys.length - i ∧ i ≤ ys.length ∧ ∃ acc G2 L2, Ex G G2 ∧ F i acc G2 L2 ∧ Own G2 ((D, .lst acc) :: L2) H, ⟨_, rfl, Nat.zero_le _, acc, G, L, Ex.refl G, h0, S⟩, ?_⟩
  rintro i m H1 ⟨rfl, hi, acc, G1, L1, e, f, S1⟩
  have q := S1.sl (ex_l e hx)
  by_cases c : i < ys.length
  · refine .inr ⟨⟨ys, ys[i], q, List.getElem?_eq_getElem c⟩, fun H' => ∃ acc G2 L2, Ex G G2 ∧ F (i + 1) acc G2 L2 ∧ Own G2 ((D, .lst acc) :: L2) H', fun H' p => ⟨ys.length - (i + 1), by omega, rfl, c, p⟩, fun x H' hx' => ?_⟩
    obtain ⟨e1, e2⟩ := hx'
    subst e1
    exact hs i x acc G1 L1 _ (e2 ys q) e f S1
  · have ei : i = ys.length := by omega
    subst ei
    exact .inl ⟨⟨ys, q, Nat.le_refl _⟩, hd acc G1 L1 H1 e f S1⟩
theorem c2_yes {F : Nat → List V → Hp → List (Addr × HO) → Prop} {i : Nat} {G1 : Hp} {L1 : List (Addr × HO)} {z : V} (S : Own G1 ((D, .lst acc) :: L1) H) (e : Ex G G1) (hl : acc.length ≤ 1000000) (f : F (i + 1) (acc ++ [z]) G1 L1) :
    ∃ acc, H D = some (.lst acc) ∧ acc.length < sizeLine ∧ ∃ acc' G2 L2, Ex G G2 ∧ F (i + 1) acc' G2 L2 ∧ Own G2 ((D, .lst acc') :: L2) (upd H D (.lst (acc ++ [z]))) :=
  ⟨acc, S.get0, smallL (Nat.le_trans hl (by decide)), acc ++ [z], G1, L1, e, f, S.put0⟩
end
end NX

namespace NX
open PySem PySem.Spec PyProof.Rows L2
open Evl (Ex ex_l ex_t fresh_back)
/-! ### tuple * int, 1 too -/
theorem tuple_mul1 (l : Addr) (items : Array Value) (n : Nat) (dd : Option Addr) (sl : Array (Option Value)) (u : Tok) :
    Meets (Builtin.«tuple.__mul__» ⟨[.ref l, .int 1 u], []⟩) (fun _ R s => s.heap.get? l = some { cls := .type "tuple", dict := dd, data := .seq items n, slots := sl } ∧ R (.ok (.ret (Value.ref l))) s) :=
  .of_wp fun prog w A R s h => by
    obtain ⟨hp, g, d, tk, os⟩ := s
    obtain ⟨hl, h⟩ := h
    have f1 := AutoSeq1.idx_int
    have c0 : (decide ((1 : Int) < -(2 ^ 63)) || decide ((1 : Int) ≥ 2 ^ 63)) = false := by decide
    have c1 : (items.isEmpty || (1 : Int) == 1) = true := by simp
    wp_walk using wpAny_loadPart' hl
    repeat (first
      | (refine wpAny_ite_false (decide_eq_false (by rw [c0]; exact Bool.false_ne_true)) ?_; wp_walk using wpAny_loadPart' hl)
      | (refine wpAny_ite_true (decide_eq_true (by rw [c1])) ?_; wp_walk using wpAny_loadPart' hl))
    exact ⟨_, rfl, h⟩
def rRep1 (K : PySem.W.Frag) : R2 := fun x y H Q => ∃ l k xs, x = .ref l ∧ y = .int k ∧ SqT K H l xs ∧ xs ≠ [] ∧ 1 ≤ k ∧ k ≤ 1000 ∧ xs.length ≤ 1000 ∧ (k = 1 → Q (.ref l) H) ∧ (2 ≤ k → ∀ p, H p = none → Q (.ref p) (upd H p (.tup (List.replicate k.toNat xs).flatten)))
theorem op_rep1 {X : Cx} : OpR X (binaryOp .Mult) (rRep1 X.K) := by
  intro pins s σ H x y v u Q I rx ry h
  obtain ⟨l, k, xs, rfl, rfl, hT, hne, h1, h2, hz, q1, q2⟩ := h
  by_cases e : k = 1
  · subst e
    cases rx
    obtain ⟨t, rfl⟩ := ry
    obtain ⟨its, r, ⟨⟨cls, dd, data, sl⟩, ho, hc, n, hd⟩, hs⟩ := I.tuple hT
    simp only at hc hd
    subst hc hd
    refine wpAny_binaryOp_repeat_ref (T := "tuple") (U := "int") (by decide) ⟨_, ho, rfl⟩ (fun s' => typeIs_int s' 1 t) noFill_tuple_mul F.fills_int_mul F.slot_int_rmul repeat_tuple F.slot_int_index.lookup
      (call_meets F.slot_int_rmul (typeIs_int s 1 t) F.entry_int_rmul (F.args_int_rmul_2 _ _) (int_rmul_tuple 1 t l its.toArray n dd sl)
        ⟨ho, rfl, ⟨_, ho, rfl⟩, call_meets F.slot_tuple_mul ⟨_, ho, rfl⟩ F.entry_tuple_mul (F.args_tuple_mul_2 _ _) (tuple_mul1 l its.toArray n dd sl t) ⟨ho, ?_⟩⟩)
    exact ⟨.ref l, _, I, rfl, q1 rfl⟩
  · exact op_repT pins s σ H _ _ v u Q I rx ry ⟨l, k, xs, rfl, rfl, hT, hne, by omega, h2, hz, q2 (by omega)⟩
theorem n_rep1 {K : PySem.W.Frag} {G H : Hp} {L : List (Addr × HO)} {l : Addr} {x : Int} {n : Nat} {Q : VK} (S : Own G L H) (h : G l = some (.tup [.int x])) (h1 : 1 ≤ n) (h2 : n ≤ 1000) (k : ∀ p G1 H1, Ex G G1 → Ex H H1 → G1 p = some (.tup ((List.replicate n x).map V.int)) → Own G1 L H1 → Q (.ref p) H1) : rRep1 K (.ref l) (.int (n : Int)) H Q := by
  refine ⟨l, n, _, rfl, rfl, SqT.of (S.ex _ _ h), by simp, by omega, by omega, by simp, fun e => ?_, fun e p hp => ?_⟩
  · have e : n = 1 := by omega
    subst e
    exact k l G H (Ex.refl G) (Ex.refl H) h S
  · have e2 : (List.replicate (n : Int).toNat [V.int x]).flatten = (List.replicate n x).map V.int := by
      rw [Int.toNat_natCast, List.map_replicate]
      clear k e h1 h2
      induction n with
      | zero => rfl
      | succ n ih => rw [List.replicate_succ, List.flatten_cons, ih, List.replicate_succ] <;> rfl
    have e3 := S.still (o := .tup (List.replicate (n : Int).toNat [V.int x]).flatten) hp
    rw [e2] at e3 ⊢
    exact k p _ _ e3.2.1 (Ex.new hp) e3.2.2 e3.1
end NX

namespace NX
open PySem PySem.Spec PyProof.Rows L2
/-! ### ways that join behind an if -/
theorem s_join {ts : TS} {n b c : L2.St → Hp → Prop} {rt : VK} {σ : L2.St} {H : Hp} (J : L2.St → Hp → Prop) (hj : ∀ σ' H', J σ' H' → n σ' H') (h : ∀ n' : L2.St → Hp → Prop, (∀ σ' H', J σ' H' → n' σ' H') → ts ⟨n', rt, b, c⟩ σ H) : ts ⟨n, rt, b, c⟩ σ H := h n hj
theorem e_join {te : TE} {σ : L2.St} {H : Hp} {Q : VK} (J : V → Hp → Prop) (hj : ∀ x H', J x H' → Q x H') (h : ∀ Q' : VK, (∀ x H', J x H' → Q' x H') → te σ H Q') : te σ H Q := h Q hj
theorem t_join {tt : TT} {σ : L2.St} {H : Hp} {Q : Bool → Hp → Prop} (J : Bool → Hp → Prop) (hj : ∀ b H', J b H' → Q b H') (h : ∀ Q' : Bool → Hp → Prop, (∀ b H', J b H' → Q' b H') → tt σ H Q') : tt σ H Q := h Q hj
theorem n_sum {K : PySem.W.Frag} {H : Hp} {p : Addr} {ns : List Int} {Q : VK} (h : SqL K H p (ns.map V.int)) (k : Q (.int ns.sum) H) : rSum K [.ref p] H Q := ⟨p, ns, rfl, h, k⟩
theorem n_all {K : PySem.W.Frag} {H : Hp} {p : Addr} {m : Nat} {Q : VK} (h : SqL K H p (List.replicate m (.bl true))) (k : Q (.bl true) H) : rAll K [.ref p] H Q := by
  refine ⟨p, List.replicate m true, rfl, by rw [List.map_replicate]; exact h, ?_⟩
  have e : (List.replicate m true).all id = true := by
    rw [List.all_eq_true]
    intro x hx
    rw [(List.mem_replicate.mp hx).2] <;> rfl
  rw [e]
  exact k
end NX

namespace NX
open PySem PySem.Spec PyProof.Rows L2
open Evl (Ex ex_l ex_t fresh_back)
/-- a state of n stations -/
def StA (H : Hp) (t : Addr) (st : List Int) : Prop := H t = some (.tup (st.map V.int))
theorem n_catT1 {K : PySem.W.Frag} {G H : Hp} {L : List (Addr × HO)} {a b : Addr} {xs ys : List V} {Q : VK} (S : Own G L H) (h : SqT K G a xs) (h2 : G b = some (.tup ys)) (hne : ys ≠ []) (hz : xs.length + ys.length ≤ 10000000) (k : ∀ r G1 H1, Ex G G1 → Ex H H1 → G1 r = some (.tup (xs ++ ys)) → Own G1 L H1 → Q (.ref r) H1) : rCatA K (.ref a) (.ref b) H Q := by
  refine ⟨a, b, xs, ys, rfl, rfl, S.st h, SqT.of (S.ex _ _ h2), small hz, fun e => ?_, fun _ e => absurd e hne, fun _ _ p hp => k p _ _ (S.still hp).2.1 (Ex.new hp) (S.still hp).2.2 (S.still hp).1⟩
  subst e
  exact k b G H (Ex.refl G) (Ex.refl H) h2 S
theorem n_catT2 {K : PySem.W.Frag} {G H : Hp} {L : List (Addr × HO)} {a b : Addr} {xs ys : List V} {Q : VK} (S : Own G L H) (h : G a = some (.tup xs)) (h2 : SqT K G b ys) (hne : xs ≠ []) (hz : xs.length + ys.length ≤ 10000000) (k : ∀ r G1 H1, Ex G G1 → Ex H H1 → G1 r = some (.tup (xs ++ ys)) → Own G1 L H1 → Q (.ref r) H1) : rCatA K (.ref a) (.ref b) H Q := by
  refine ⟨a, b, xs, ys, rfl, rfl, SqT.of (S.ex _ _ h), S.st h2, small hz, fun e => absurd e hne, fun _ e => ?_, fun _ _ p hp => k p _ _ (S.still hp).2.1 (Ex.new hp) (S.still hp).2.2 (S.still hp).1⟩
  subst e
  exact k a G H (Ex.refl G) (Ex.refl H) (by rw [List.append_nil]; exact h) S
theorem cut_take (st : List Int) (i : Nat) : cutV (st.map V.int) none (some (i : Int)) = (st.take i).map V.int := by
  rw [cutV_to, List.map_take] <;> rfl
theorem cut_drop (st : List Int) (i : Nat) (h : i ≤ st.length) : cutV (st.map V.int) (some (i : Int)) none = (st.drop i).map V.int := by
  have e := cutV_from (xs := st.map V.int) (i := i)
  rw [e, List.map_drop] <;> rfl
abbrev keyN (ns : List Int) : List L2.Key := ns.map Sum.inl
theorem keyN_inj {a b : List Int} (h : keyN a = keyN b) : a = b := by
  induction a generalizing b with
  | nil =>
    cases b with
    | nil => rfl
    | cons _ _ => cases h
  | cons x a ih =>
    cases b with
    | nil => cases h
    | cons y b =>
      simp only [keyN, List.map_cons, List.cons.injEq, Sum.inl.injEq] at h
      rw [h.1, ih h.2]
theorem keyN_kV (ns : List Int) : (keyN ns).map kV = ns.map V.int := by rw [List.map_map] <;> rfl
theorem n_dputN {G H : Hp} {L : List (Addr × HO)} {p t : Addr} {kvs : List (List L2.Key × V)} {st : List Int} {v : V} {R : Hp → Prop} (S : Own G ((p, .dT kvs) :: L) H) (ht : StA H t st) (hz : kvs.length ≤ 1000000) (k : ∀ H1, Own G ((p, .dT (putK kvs (keyN st) v)) :: L) H1 → R H1) :
    ∃ a H4, V.ref p = .ref a ∧ DPut H a (.ref t) v H4 ∧ R H4 :=
  ⟨p, _, rfl, DPut.t (k := keyN st) S.get0 (by rw [keyN_kV]; exact ht) (smallL (Nat.le_trans hz (by decide))), k _ S.put0⟩
theorem n_dgetN {H : Hp} {p t : Addr} {kvs : List (List L2.Key × V)} {st : List Int} {v : V} {R : V → Prop} (h : H p = some (.dT kvs)) (ht : StA H t st) (e : valV kvs (keyN st) = some v) (k : R v) : ∃ a v', V.ref p = .ref a ∧ DGet H a (.ref t) (some v') ∧ R v' :=
  ⟨p, v, rfl, e ▸ DGet.t (k := keyN st) h (by rw [keyN_kV]; exact ht), k⟩
theorem n_dinN {H : Hp} {p t : Addr} {kvs : List (List L2.Key × V)} {st : List Int} {Q : VK} (h : H p = some (.dT kvs)) (ht : StA H t st) (k : Q (.bl (valV kvs (keyN st)).isSome) H) : ∃ a o, V.ref p = .ref a ∧ DGet H a (.ref t) o ∧ Q (.bl o.isSome) H :=
  ⟨p, _, rfl, DGet.t (k := keyN st) h (by rw [keyN_kV]; exact ht), k⟩
theorem n_dninN {H : Hp} {p t : Addr} {kvs : List (List L2.Key × V)} {st : List Int} {Q : VK} (h : H p = some (.dT kvs)) (ht : StA H t st) (k : Q (.bl (!(valV kvs (keyN st)).isSome)) H) : ∃ a o, V.ref p = .ref a ∧ DGet H a (.ref t) o ∧ Q (.bl (!o.isSome)) H :=
  ⟨p, _, rfl, DGet.t (k := keyN st) h (by rw [keyN_kV]; exact ht), k⟩
theorem n_dninB {H : Hp} {p t : Addr} {kvs : List (List L2.Key × V)} {st : List Int} {X Y : Prop} (h : H p = some (.dT kvs)) (ht : StA H t st) (k : if (!(valV kvs (keyN st)).isSome) = true then X else Y) : ∃ a o, V.ref p = .ref a ∧ DGet H a (.ref t) o ∧ ∃ b, V.bl (!o.isSome) = V.bl b ∧ if b = true then X else Y :=
  ⟨p, _, rfl, DGet.t (k := keyN st) h (by rw [keyN_kV]; exact ht), _, rfl, k⟩
theorem n_dinB {H : Hp} {p t : Addr} {kvs : List (List L2.Key × V)} {st : List Int} {X Y : Prop} (h : H p = some (.dT kvs)) (ht : StA H t st) (k : if (valV kvs (keyN st)).isSome = true then X else Y) : ∃ a o, V.ref p = .ref a ∧ DGet H a (.ref t) o ∧ ∃ b, V.bl o.isSome = V.bl b ∧ if b = true then X else Y :=
  ⟨p, _, rfl, DGet.t (k := keyN st) h (by rw [keyN_kV]; exact ht), _, rfl, k⟩
theorem g_dnin {td ty : TE} {σ : L2.St} {H : Hp} {Q : VK} (k : ty σ H fun y H1 => td σ H1 fun x H2 => ∃ a o, x = .ref a ∧ DGet H2 a y o ∧ Q (.bl (!o.isSome)) H2) : tDNotIn ty td σ H Q := k
theorem g_dget' {td ty : TE} {σ : L2.St} {H : Hp} {Q : VK} (k : td σ H fun x H1 => ty σ H1 fun y H2 => ∃ a v, x = .ref a ∧ DGet H2 a y (some v) ∧ Q v H2) : tDGet td ty σ H Q := k
theorem s_dput' {td ty tv : TE} {D : Ends} {σ : L2.St} {H : Hp} (k : tv σ H fun v H1 => td σ H1 fun x H2 => ty σ H2 fun y H3 => ∃ a H4, x = .ref a ∧ DPut H3 a y v H4 ∧ D.nx σ H4) : sDPut td ty tv D σ H := k
theorem g_disp1 {tk tv : TE} {σ : L2.St} {H : Hp} {Q : VK} (k : ∀ p, H p = none → tk σ (upd H p (.dT [])) fun x H1 => tv σ H1 fun y H2 => H2 p = some (.dT []) ∧ ∃ (b : Addr) (k : List L2.Key) (H3 : Hp), x = .ref b ∧ H2 b = some (.tup (k.map kV)) ∧ H3 = upd H2 p (.dT [(k, y)]) ∧ Q (.ref p) H3) : tDisp1T tk tv σ H Q := k
theorem n_disp1 {G H : Hp} {L : List (Addr × HO)} {p b : Addr} {st : List Int} {y : V} {R : Hp → Prop} (S : Own G ((p, .dT []) :: L) H) (hb : StA H b st) (k : ∀ H1, Own G ((p, .dT [(keyN st, y)]) :: L) H1 → R H1) :
    H p = some (.dT []) ∧ ∃ (b' : Addr) (k : List L2.Key) (H3 : Hp), V.ref b = .ref b' ∧ H b' = some (.tup (k.map kV)) ∧ H3 = upd H p (.dT [(k, y)]) ∧ R H3 :=
  ⟨S.get0, b, keyN st, _, rfl, by rw [keyN_kV]; exact hb, rfl, k _ S.put0⟩
/-- what the search keeps with a state: the state before it and the station -/
def VF (G : Hp) (E : List Ent) (e : Ent) (v : V) : Prop := (e.l = 0 ∧ v = .non) ∨ (e.l ≠ 0 ∧ ∃ (p q : Addr) (f : Ent), v = .ref p ∧ G p = some (.tup [.ref q, .int (e.i : Int)]) ∧ E[e.p]? = some f ∧ StA G q f.st)
def DV (R : Ent → V → Prop) (E : List Ent) (kvs : List (List L2.Key × V)) : Prop := Paired (fun kv e => kv.1 = keyN e.st ∧ R e kv.2) kvs E
theorem DV.imp {R R' : Ent → V → Prop} {E : List Ent} {kvs : List (List L2.Key × V)} (h : DV R E kvs) (i : ∀ e ∈ E, ∀ v, R e v → R' e v) : DV R' E kvs := by
  unfold DV at *
  induction h with
  | nil => exact .nil
  | cons h _ ih => exact .cons ⟨h.1, i _ List.mem_cons_self _ h.2⟩ (ih fun e he => i e (List.mem_cons_of_mem _ he))
theorem DV.len {R : Ent → V → Prop} {E : List Ent} {kvs : List (List L2.Key × V)} (h : DV R E kvs) : kvs.length = E.length := Paired.length h
theorem DV.keys {R : Ent → V → Prop} {E : List Ent} {kvs : List (List L2.Key × V)} (h : DV R E kvs) : kvs.map (·.1) = (E.map Ent.st).map keyN := by
  unfold DV at h
  induction h with
  | nil => rfl
  | cons h _ ih => rw [List.map_cons, ih, h.1] <;> rfl
theorem DV.none {R : Ent → V → Prop} {E : List Ent} {kvs : List (List L2.Key × V)} (h : DV R E kvs) {st : List Int} (n : st ∉ E.map Ent.st) : valV kvs (keyN st) = Option.none := by
  cases q : valV kvs (keyN st) with
  | none => rfl
  | some v =>
    have := valV_in q
    rw [h.keys] at this
    obtain ⟨s, hs, e⟩ := List.mem_map.mp this
    exact absurd (keyN_inj e ▸ hs) n
theorem DV.some {R : Ent → V → Prop} {E : List Ent} {kvs : List (List L2.Key × V)} (h : DV R E kvs) {st : List Int} (n : st ∈ E.map Ent.st) : (valV kvs (keyN st)).isSome = true := by
  cases q : valV kvs (keyN st) with
  | some v => rfl
  | none =>
    have := valV_not q
    rw [h.keys] at this
    exact absurd (List.mem_map.mpr ⟨st, n, rfl⟩) this
theorem DV.isSome {R : Ent → V → Prop} {E : List Ent} {kvs : List (List L2.Key × V)} (h : DV R E kvs) (st : List Int) : (valV kvs (keyN st)).isSome = decide (st ∈ E.map Ent.st) := by
  by_cases c : st ∈ E.map Ent.st
  · rw [h.some c, decide_eq_true c]
  · rw [h.none c, decide_eq_false c] <;> rfl
theorem DV.add {R : Ent → V → Prop} {E : List Ent} {kvs : List (List L2.Key × V)} (h : DV R E kvs) {e : Ent} {v : V} (n : e.st ∉ E.map Ent.st) (hv : R e v) : DV R (E ++ [e]) (putK kvs (keyN e.st) v) := by
  rw [putK_new v (h.none n)]
  clear n
  unfold DV at *
  induction h with
  | nil => exact .cons ⟨rfl, hv⟩ .nil
  | cons h _ ih => exact .cons h ih
theorem DV.val {R : Ent → V → Prop} {E : List Ent} {kvs : List (List L2.Key × V)} (h : DV R E kvs) : (E.map Ent.st).Nodup → ∀ {m : Nat} {e : Ent}, E[m]? = Option.some e → ∃ v, valV kvs (keyN e.st) = Option.some v ∧ R e v := by
  unfold DV at h
  induction h with
  | nil => intro _ m e he; cases he
  | @cons kv e0 kvs E h t ih =>
    intro nd m e he
    obtain ⟨n1, n2⟩ := List.nodup_cons.mp nd
    cases m with
    | zero => cases he; exact ⟨_, valV_pos h.1, h.2⟩
    | succ m =>
      obtain ⟨v, e1, e2⟩ := ih n2 (m := m) he
      refine ⟨v, (valV_neg ?_).trans e1, e2⟩
      rw [h.1]
      intro z
      exact n1 (List.mem_map.mpr ⟨e, List.mem_of_getElem? he, (keyN_inj z).symm⟩)
theorem VF.mono {G G' : Hp} {E E' : List Ent} (eG : Ex G G') (eE : E <+: E') {e : Ent} {v : V} (h : VF G E e v) : VF G' E' e v := by
  rcases h with h | ⟨h, p, q, f, a, b, c, d⟩
  · exact .inl h
  · exact .inr ⟨h, p, q, f, a, eG _ _ b, pre_get eE c, eG _ _ d⟩
theorem sts_tup {H H' : Hp} {ys : List V} {L : List (List Int)} (h : Sts H' ys L) (e : Ex H H') : Sts (nw H H') ys L := by
  induction h with
  | nil => exact .nil
  | cons h _ ih => obtain ⟨t, e1, e2⟩ := h; exact .cons ⟨t, e1, nw_tup' e e2⟩ ih
end NX

/-! pairs in order; neighbours: plain Lean -/
namespace NX
abbrev Pr := Int × Int
def leP (x y : Pr) : Bool := decide (x.1 < y.1 ∨ (x.1 = y.1 ∧ x.2 ≤ y.2))
theorem leP_iff {x y : Pr} : leP x y = true ↔ (x.1 < y.1 ∨ (x.1 = y.1 ∧ x.2 ≤ y.2)) := by unfold leP; exact decide_eq_true_iff
theorem leP_total (x y : Pr) : leP x y = true ∨ leP y x = true := by
  rw [leP_iff, leP_iff]; omega
theorem leP_anti {x y : Pr} (h : leP x y = true) (h' : leP y x = true) : x = y := by
  rw [leP_iff] at h h'
  obtain ⟨a, b⟩ := x; obtain ⟨c, d⟩ := y
  simp only at h h'
  have h1 : a = c := by omega
  have h2 : b = d := by omega
  rw [h1, h2]
theorem leP_trans {x y z : Pr} (h : leP x y = true) (h' : leP y z = true) : leP x z = true := by
  rw [leP_iff] at *; omega
def insP (x : Pr) : List Pr → List Pr
  | [] => [x]
  | y :: l => if leP x y then x :: y :: l else y :: insP x l
def sortP : List Pr → List Pr
  | [] => []
  | x :: l => insP x (sortP l)
theorem insP_perm (x : Pr) : ∀ l, (insP x l).Perm (x :: l)
  | [] => List.Perm.refl _
  | y :: l => by
    unfold insP
    split
    · exact List.Perm.refl _
    · exact ((insP_perm x l).cons y).trans (List.Perm.swap x y l)
theorem sortP_perm : ∀ l, (sortP l).Perm l
  | [] => List.Perm.refl _
  | x :: l => (insP_perm x _).trans ((sortP_perm l).cons x)
abbrev Up (l : List Pr) : Prop := l.Pairwise fun x y => leP x y = true
theorem insP_up (x : Pr) : ∀ l, Up l → Up (insP x l)
  | [], _ => List.pairwise_singleton _ _
  | y :: l, h => by
    unfold insP
    split
    · rename_i c
      refine List.pairwise_cons.mpr ⟨fun z hz => ?_, h⟩
      rcases List.mem_cons.mp hz with rfl | hz
      · exact c
      · exact leP_trans c ((List.pairwise_cons.mp h).1 z hz)
    · rename_i c
      have c' : leP y x = true := (leP_total x y).resolve_left c
      refine List.pairwise_cons.mpr ⟨fun z hz => ?_, insP_up x l (List.pairwise_cons.mp h).2⟩
      rcases List.mem_cons.mp ((insP_perm x l).mem_iff.mp hz) with rfl | hz
      · exact c'
      · exact (List.pairwise_cons.mp h).1 z hz
theorem sortP_up : ∀ l, Up (sortP l)
  | [] => List.Pairwise.nil
  | x :: l => insP_up x _ (sortP_up l)
theorem up_uniq : ∀ {l m : List Pr}, Up l → Up m → l.Perm m → l = m
  | [], m, _, _, h => (List.Perm.nil_eq h)
  | x :: l, [], _, _, h => absurd h.length_eq (by simp)
  | x :: l, y :: m, hl, hm, h => by
    have hx : x ∈ y :: m := h.mem_iff.mp List.mem_cons_self
    have hy : y ∈ x :: l := h.mem_iff.mpr List.mem_cons_self
    have e : x = y := by
      rcases List.mem_cons.mp hx with e | hx
      · exact e
      · rcases List.mem_cons.mp hy with e | hy
        · exact e.symm
        · exact leP_anti ((List.pairwise_cons.mp hl).1 y hy) ((List.pairwise_cons.mp hm).1 x hx)
    subst e
    rw [up_uniq (List.pairwise_cons.mp hl).2 (List.pairwise_cons.mp hm).2 h.cons_inv]
theorem sortP_eq {l m : List Pr} (h : Up l) (p : l.Perm m) : l = sortP m := up_uniq h (sortP_up m) (p.trans (sortP_perm m).symm)
theorem sortP_congr {l m : List Pr} (p : l.Perm m) : sortP l = sortP m := up_uniq (sortP_up l) (sortP_up m) (((sortP_perm l).trans p).trans (sortP_perm m).symm)
theorem sortP_id {l : List Pr} (h : Up l) : sortP l = l := (sortP_eq h (List.Perm.refl l)).symm
theorem sortP_len (l : List Pr) : (sortP l).length = l.length := (sortP_perm l).length_eq
theorem mem_sortP {l : List Pr} {q : Pr} : q ∈ sortP l ↔ q ∈ l := (sortP_perm l).mem_iff
/-- the neighbours of i, in the order of the links -/
def nb (ks : List Pr) (i : Int) : List Int := ks.filterMap fun q => if q.1 = i then some q.2 else if q.2 = i then some q.1 else none
theorem nb_app (ks ls : List Pr) (i : Int) : nb (ks ++ ls) i = nb ks i ++ nb ls i := by unfold nb; rw [List.filterMap_append]
theorem nb_one (q : Pr) (i : Int) : nb [q] i = if q.1 = i then [q.2] else if q.2 = i then [q.1] else [] := by
  show (([q] : List Pr).filterMap fun q => if q.1 = i then some q.2 else if q.2 = i then some q.1 else none) = _
  rw [List.filterMap_cons]
  by_cases h : q.1 = i
  · simp [h]
  · by_cases h2 : q.2 = i
    · simp [h, h2]
    · simp [h, h2]
theorem mem_nb {ks : List Pr} {i j : Int} : j ∈ nb ks i ↔ (i, j) ∈ ks ∨ (j, i) ∈ ks ∧ j ≠ i := by
  unfold nb
  rw [List.mem_filterMap]
  constructor
  · rintro ⟨⟨a, b⟩, hq, h⟩
    simp only at h
    by_cases h1 : a = i
    · rw [if_pos h1] at h
      cases h
      subst h1
      exact .inl hq
    · rw [if_neg h1] at h
      by_cases h2 : b = i
      · rw [if_pos h2] at h
        cases h
        subst h2
        exact .inr ⟨hq, h1⟩
      · rw [if_neg h2] at h
        cases h
  · rintro (h | ⟨h, ne⟩)
    · exact ⟨(i, j), h, by simp⟩
    · exact ⟨(j, i), h, by simp [ne]⟩
/-- a network's links: each the smaller station first -/
def Okl (n : Nat) (ks : List Pr) : Prop := ∀ q ∈ ks, 0 ≤ q.1 ∧ q.1 < q.2 ∧ q.2 < (n : Int)
theorem mem_nb' {n : Nat} {ks : List Pr} (h : Okl n ks) {i j : Int} : j ∈ nb ks i ↔ (i, j) ∈ ks ∨ (j, i) ∈ ks := by
  rw [mem_nb]
  constructor
  · rintro (a | a)
    · exact .inl a
    · exact .inr a.1
  · rintro (a | a)
    · exact .inl a
    · exact .inr ⟨a, by have := h _ a; simp only at this; omega⟩
theorem nb_sym {n : Nat} {ks : List Pr} (h : Okl n ks) {i j : Int} : j ∈ nb ks i ↔ i ∈ nb ks j := by
  rw [mem_nb' h, mem_nb' h]
  exact ⟨fun a => a.symm, fun a => a.symm⟩
theorem nb_rng {n : Nat} {ks : List Pr} (h : Okl n ks) {i j : Int} (m : j ∈ nb ks i) : 0 ≤ j ∧ j < n ∧ j ≠ i ∧ 0 ≤ i ∧ i < n := by
  rw [mem_nb' h] at m
  rcases m with m | m
  · have := h _ m; simp only at this; omega
  · have := h _ m; simp only at this; omega
theorem Okl.sort {n : Nat} {ks : List Pr} (h : Okl n ks) : Okl n (sortP ks) := fun q hq => h q (mem_sortP.mp hq)
/-- the neighbours of a sorted list of links are in ascending order -/
theorem nb_up {n : Nat} : ∀ {ks : List Pr}, Okl n ks → Up ks → ks.Nodup → ∀ i, (nb ks i).Pairwise (· < ·)
  | [], _, _, _, _ => List.Pairwise.nil
  | q :: ks, h, u, d, i => by
    have h' : Okl n ks := fun q hq => h q (List.mem_cons_of_mem _ hq)
    have u' := List.pairwise_cons.mp u
    have d' := List.nodup_cons.mp d
    have ih := nb_up h' u'.2 d'.2 i
    have e : nb (q :: ks) i = nb [q] i ++ nb ks i := nb_app [q] ks i
    rw [e, nb_one]
    have hq := h q List.mem_cons_self
    obtain ⟨a, b⟩ := q
    simp only at hq ⊢
    by_cases h1 : a = i
    · rw [if_pos h1]
      refine List.pairwise_cons.mpr ⟨fun z hz => ?_, ih⟩
      subst h1
      rcases (mem_nb' h').mp hz with m | m
      · have c := leP_iff.mp (u'.1 _ m)
        simp only at c
        have ne : b ≠ z := fun z' => by subst z'; exact d'.1 m
        omega
      · have c := leP_iff.mp (u'.1 _ m)
        have c2 := h' _ m
        simp only at c c2
        omega
    · rw [if_neg h1]
      by_cases h2 : b = i
      · rw [if_pos h2]
        refine List.pairwise_cons.mpr ⟨fun z hz => ?_, ih⟩
        subst h2
        rcases (mem_nb' h').mp hz with m | m
        · have c := h' _ m
          have c2 := leP_iff.mp (u'.1 _ m)
          simp only at c c2
          omega
        · have c := leP_iff.mp (u'.1 _ m)
          simp only at c
          have ne : a ≠ z := fun z' => by subst z'; exact d'.1 m
          omega
      · rw [if_neg h2]
        exact ih
theorem nb_nodup {n : Nat} {ks : List Pr} (h : Okl n ks) (u : Up ks) (d : ks.Nodup) (i : Int) : (nb ks i).Nodup :=
  (nb_up h u d i).imp fun {a b} (c : a < b) => by omega
/-- not more neighbours than stations -/
theorem up_len : ∀ {l : List Int} {lo hi : Int}, l.Pairwise (· < ·) → (∀ x ∈ l, lo ≤ x ∧ x < hi) → l = [] ∨ (l.length : Int) ≤ hi - lo
  | [], _, _, _, _ => .inl rfl
  | x :: l, lo, hi, h, b => by
    have h' := List.pairwise_cons.mp h
    have bx := b x List.mem_cons_self
    refine .inr ?_
    rcases up_len (lo := x + 1) (hi := hi) h'.2 (fun y hy => ⟨by have := h'.1 y hy; omega, (b y (List.mem_cons_of_mem _ hy)).2⟩) with e | e
    · subst e
      show ((0 + 1 : Nat) : Int) ≤ _
      omega
    · rw [List.length_cons]
      omega
theorem I_len {n : Nat} {ks : List Pr} (h : Okl n ks) (u : Up ks) (d : ks.Nodup) (i : Int) : (nb ks i).length ≤ n := by
  rcases up_len (lo := 0) (hi := (n : Int)) (nb_up h u d i) (fun x hx => by have := nb_rng h hx; omega) with e | e
  · rw [e]; exact Nat.zero_le _
  · omega
end NX

namespace NX
/-! ### greatest_channels: the table -/
/-- one step of the table -/
def StepT (n : Nat) (ks : List Pr) (t t' : List Int) : Prop := t'.length = n ∧ ∀ i : Nat, i < n → IsCh ((nb ks (i : Int)).map (tv t)) (tv t' (i : Int) - 1)
def TabF (n : Nat) (ks : List Pr) (t : List Int) : Prop := StepT n ks t t
def LowT (n : Nat) (ks : List Pr) (t : List Int) : Prop := t.length = n ∧ (∀ i : Nat, i < n → 0 ≤ tv t (i : Int)) ∧ ∀ t', StepT n ks t t' → ∀ i : Nat, i < n → tv t' (i : Int) ≤ tv t (i : Int)
theorem nb_nat {n : Nat} {ks : List Pr} (h : Okl n ks) {i x : Int} (m : x ∈ nb ks i) : ∃ j : Nat, x = (j : Int) ∧ j < n := by
  have := nb_rng h m
  exact ⟨x.toNat, by omega, by omega⟩
theorem low_step {n : Nat} {ks : List Pr} {t t' : List Int} (ok : Okl n ks) (h : LowT n ks t) (s : StepT n ks t t') : LowT n ks t' := by
  refine ⟨s.1, fun i hi => by have := (s.2 i hi).1; omega, fun t'' s' i hi => ?_⟩
  have := IsCh.mono (f := tv t') (g := tv t) (List.Sublist.refl _) (fun x hx => by
    obtain ⟨j, rfl, hj⟩ := nb_nat ok hx
    exact h.2.2 t' s j hj) (s'.2 i hi) (s.2 i hi)
  omega
theorem low_sum {n : Nat} {ks : List Pr} {t t' : List Int} (h : LowT n ks t) (s : StepT n ks t t') : 0 ≤ t'.sum ∧ t'.sum ≤ t.sum ∧ (t' ≠ t → t'.sum < t.sum) := by
  have z := sum_le (s := t') (t := t) (s.1.trans h.1.symm) fun i hi => h.2.2 t' s i (by have := s.1; omega)
  exact ⟨sum_nn fun i hi => by have := (s.2 i (by have := s.1; omega)).1; omega, z⟩
theorem low_start {n : Nat} {ks : List Pr} {t : List Int} (h : t.length = n) (e : ∀ i : Nat, i < n → tv t (i : Int) = ((nb ks (i : Int)).length : Int) + 1) : LowT n ks t :=
  ⟨h, fun i hi => by rw [e i hi]; omega, fun t' s i hi => by
    have := (s.2 i hi).le_len
    rw [List.length_map] at this
    rw [e i hi]
    omega⟩
theorem TabF.tab {n : Nat} {ks : List Pr} {t : List Int} (h : TabF n ks t) : Tab (fun v : Int => 0 ≤ v ∧ v < (n : Int)) (nb ks) (tv t) := fun v ⟨h1, h2⟩ => by
  obtain ⟨i, rfl⟩ : ∃ i : Nat, v = (i : Int) := ⟨v.toNat, by omega⟩
  exact h.2 i (by omega)
theorem TabF.uniq {n : Nat} {ks : List Pr} {s t : List Int} (ok : Okl n ks) (h : TabF n ks s) (h' : TabF n ks t) : s = t := by
  have a := tab_le h.tab h'.tab id (fun v hv => hv) (fun v _ u hu => by have := nb_rng ok hu; omega) (fun v _ => ⟨_, List.Perm.refl _, by rw [List.map_id]; exact List.Sublist.refl _⟩)
  have b := tab_le h'.tab h.tab id (fun v hv => hv) (fun v _ u hu => by have := nb_rng ok hu; omega) (fun v _ => ⟨_, List.Perm.refl _, by rw [List.map_id]; exact List.Sublist.refl _⟩)
  refine tv_ext (h.1.trans h'.1.symm) fun i hi => ?_
  have hi' : i < n := by have := h.1; omega
  have c := a (i : Int) ⟨by omega, by omega⟩
  have d := b (i : Int) ⟨by omega, by omega⟩
  simp only [id] at c d
  omega
end NX

namespace NX
/-! ### switchings of states that are given by functions -/
def mkS (n : Nat) (f : Nat → Int) : List Int := (List.range n).map f
def upS (f : Nat → Int) (i : Nat) (c : Int) : Nat → Int := fun j => if j = i then c else f j
def zeroS : Nat → Int := fun _ => 0
section
variable {nbr : Nbr} {n : Nat} {f g h : Nat → Int} {i : Nat} {c : Int}
theorem tv_mk {j : Nat} (h : j < n) : tv (mkS n f) (j : Int) = f j := tv_get (by
  unfold mkS
  rw [List.getElem?_map, List.getElem?_range h] <;> rfl)
theorem mk_len : (mkS n f).length = n := by unfold mkS; rw [List.length_map, List.length_range]
theorem mk_ext (e : ∀ j, j < n → f j = g j) : mkS n f = mkS n g := List.map_congr_left fun j hj => e j (List.mem_range.mp hj)
theorem mk_zero : mkS n zeroS = List.replicate n 0 := by
  refine tv_ext (by rw [mk_len, List.length_replicate]) fun i hi => ?_
  rw [mk_len] at hi
  rw [tv_mk hi, tv_rep hi] <;> rfl
theorem sw_mk (hi : i < n) (e : chn nbr (mkS n f) i = c) : sw nbr (mkS n f) i = mkS n (upS f i c) := by
  have hl : (sw nbr (mkS n f) i).length = n := by rw [sw_len (by rw [mk_len]; exact hi), mk_len]
  refine tv_ext (by rw [hl, mk_len]) fun j hj => ?_
  rw [hl] at hj
  rw [sw_tv (by rw [mk_len]; exact hi), tv_mk hj, e]
  rw [tv_mk hj]
  unfold upS
  split
  · rfl
  · rfl
/-- neighbours are other stations -/
def NbOk (nbr : Nbr) (n : Nat) : Prop := ∀ i : Nat, i < n → ∀ x ∈ nbr (i : Int), ∃ j : Nat, x = (j : Int) ∧ j < n ∧ j ≠ i
theorem nb_ok {ks : List Pr} (ok : Okl n ks) : NbOk (nb ks) n := fun i _ x hx => by
  obtain ⟨j, rfl, hj⟩ := nb_nat ok hx
  have := nb_rng ok hx
  exact ⟨j, rfl, hj, by omega⟩
theorem st_on (hn : NbOk nbr n) (hi : i < n) (h0 : f i = 0) (hc : 1 ≤ c) (h1 : ∀ j : Nat, j < n → j ≠ i → (j : Int) ∈ nbr (i : Int) → f j ≠ c) (h2 : ∀ d, 1 ≤ d → d < c → ∃ j : Nat, (j : Int) ∈ nbr (i : Int) ∧ f j = d) : sw nbr (mkS n f) i = mkS n (upS f i c) := by
  refine sw_mk hi ?_
  unfold chn
  rw [if_pos (by rw [tv_mk hi]; exact h0)]
  refine mexL_of ⟨hc, fun hm => ?_, fun d a b => ?_⟩
  · obtain ⟨x, hx, e⟩ := List.mem_map.mp hm
    obtain ⟨j, rfl, hj, ne⟩ := hn i hi x hx
    rw [tv_mk hj] at e
    exact h1 j hj ne hx e
  · obtain ⟨j, hj, e⟩ := h2 d a b
    obtain ⟨j', ej, hj', _⟩ := hn i hi _ hj
    have : j = j' := by omega
    subst this
    exact List.mem_map.mpr ⟨_, hj, by rw [tv_mk hj', e]⟩
theorem st_off (hi : i < n) (h0 : f i ≠ 0) : sw nbr (mkS n f) i = mkS n (upS f i 0) := by
  refine sw_mk hi ?_
  unfold chn
  rw [if_neg (by rw [tv_mk hi]; exact h0)]
noncomputable def runS (nbr : Nbr) (st : List Int) (steps : List Int) : List Int := steps.foldl (fun s (x : Int) => sw nbr s x.toNat) st
theorem run_app (st : List Int) (a b : List Int) : runS nbr st (a ++ b) = runS nbr (runS nbr st a) b := by unfold runS; rw [List.foldl_append]
theorem run_cons (st : List Int) (x : Int) (a : List Int) : runS nbr st (x :: a) = runS nbr (sw nbr st x.toNat) a := rfl
theorem run_snoc (st : List Int) (x : Int) (a : List Int) : runS nbr st (a ++ [x]) = sw nbr (runS nbr st a) x.toNat := by rw [run_app] <;> rfl
theorem Rch.run {s : List Int} (h : Rch nbr n s) : ∀ {a : List Int}, (∀ x ∈ a, 0 ≤ x ∧ x < (n : Int)) → Rch nbr n (runS nbr s a)
  | [], _ => h
  | x :: a, hx => by
    rw [run_cons]
    have := hx x List.mem_cons_self
    exact Rch.run (h.step (i := x.toNat) (by omega)) fun y hy => hx y (List.mem_cons_of_mem _ hy)
/-- the switchings lead from f to g -/
def Rn (nbr : Nbr) (n : Nat) (f : Nat → Int) (a : List Int) (g : Nat → Int) : Prop := runS nbr (mkS n f) a = mkS n g
theorem Rn.nil (e : ∀ j, j < n → f j = g j) : Rn nbr n f [] g := mk_ext e
theorem Rn.on {a : List Int} (c : Int) (hn : NbOk nbr n) (hi : i < n) (h0 : f i = 0) (hc : 1 ≤ c) (h1 : ∀ j : Nat, j < n → j ≠ i → (j : Int) ∈ nbr (i : Int) → f j ≠ c) (h2 : ∀ d, 1 ≤ d → d < c → ∃ j : Nat, (j : Int) ∈ nbr (i : Int) ∧ f j = d) (r : Rn nbr n (upS f i c) a g) : Rn nbr n f ((i : Int) :: a) g := by
  unfold Rn
  rw [run_cons, Int.toNat_natCast, st_on hn hi h0 hc h1 h2]
  exact r
theorem Rn.off {a : List Int} (hi : i < n) (h0 : f i ≠ 0) (r : Rn nbr n (upS f i 0) a g) : Rn nbr n f ((i : Int) :: a) g := by
  unfold Rn
  rw [run_cons, Int.toNat_natCast, st_off hi h0]
  exact r
theorem Rn.app {a b : List Int} (r : Rn nbr n f a g) (q : Rn nbr n g b h) : Rn nbr n f (a ++ b) h := by
  unfold Rn
  rw [run_app, r]
  exact q
theorem Rn.to {a : List Int} (r : Rn nbr n f a g) (e : ∀ j, j < n → g j = h j) : Rn nbr n f a h := by
  unfold Rn
  rw [r, mk_ext e]
theorem Rn.of {a : List Int} (r : Rn nbr n f a g) (e : ∀ j, j < n → h j = f j) : Rn nbr n h a g := by
  unfold Rn
  rw [mk_ext e]
  exact r
end
/-! ### 3, 4, 5 -/
def to3 (s h l : Int) : List Int := [s, h, s, l, s, h, l]
def bes2 (s sp go l : Int) : List Int := [sp, s, sp, l, go, s, l]
local macro_rules | `(tactic| walk_at "uu") => `(tactic| ((try unfold NX.upS); (try unfold NX.zeroS); (try dsimp only); repeat' (first | omega | split)))
theorem one_d {P : Int → Prop} (h : P 1) : ∀ d : Int, 1 ≤ d → d < 2 → P d := fun d h1 h2 => by
  obtain rfl : d = 1 := by omega
  exact h
section
variable {nbr : Nbr} {n : Nat}
theorem run_to3 {s h l : Nat} (hn : NbOk nbr n) (hs : s < n) (hh : h < n) (hl : l < n) (ne : h ≠ l) (n1 : h ≠ s) (n2 : l ≠ s) (a1 : (h : Int) ∈ nbr (s : Int)) (a2 : (l : Int) ∈ nbr (s : Int)) (b1 : (s : Int) ∈ nbr (h : Int)) :
    Rn nbr n zeroS (to3 s h l) (upS zeroS s 3) := by
  refine .on 1 hn hs rfl (by omega) (fun j _ _ _ => by walk_at "uu") (fun d h1 h2 => by omega) ?_
  refine .on 2 hn hh (by walk_at "uu") (by omega) (fun j _ _ _ => by walk_at "uu") (one_d ⟨s, b1, by walk_at "uu"⟩) ?_
  refine .off hs (by walk_at "uu") ?_
  refine .on 1 hn hl (by walk_at "uu") (by omega) (fun j _ _ _ => by walk_at "uu") (fun d h1 h2 => by omega) ?_
  refine .on 3 hn hs (by walk_at "uu") (by omega) (fun j _ _ _ => by walk_at "uu") (fun d h1 h2 => ?_) ?_
  · rcases (show d = 1 ∨ d = 2 by omega) with rfl | rfl
    · exact ⟨l, a2, by walk_at "uu"⟩
    · exact ⟨h, a1, by walk_at "uu"⟩
  refine .off hh (by walk_at "uu") ?_
  refine .off hl (by walk_at "uu") ?_
  exact .nil fun j _ => by walk_at "uu"
/-- the last switchings to 4 -/
theorem run_end4 {s t e f : Nat} (hn : NbOk nbr n) (hs : s < n) (ht : t < n) (he : e < n) (hf : f < n) (n1 : t ≠ s) (n2 : e ≠ s) (n3 : f ≠ s) (n4 : e ≠ t) (n5 : f ≠ t) (n6 : e ≠ f) (a1 : (t : Int) ∈ nbr (s : Int)) (a2 : (e : Int) ∈ nbr (s : Int)) (a3 : (f : Int) ∈ nbr (s : Int)) (b2 : (s : Int) ∈ nbr (e : Int)) :
    Rn nbr n (upS zeroS t 3) ([(s : Int), e, s, f, s] ++ [(t : Int), e, f]) (upS zeroS s 4) := by
  refine .on 1 hn hs (by walk_at "uu") (by omega) (fun j _ _ _ => by walk_at "uu") (fun d h1 h2 => by omega) ?_
  refine .on 2 hn he (by walk_at "uu") (by omega) (fun j _ _ _ => by walk_at "uu") (one_d ⟨s, b2, by walk_at "uu"⟩) ?_
  refine .off hs (by walk_at "uu") ?_
  refine .on 1 hn hf (by walk_at "uu") (by omega) (fun j _ _ _ => by walk_at "uu") (fun d h1 h2 => by omega) ?_
  refine .on 4 hn hs (by walk_at "uu") (by omega) (fun j _ _ _ => by walk_at "uu") (fun d h1 h2 => ?_) ?_
  · rcases (show d = 1 ∨ d = 2 ∨ d = 3 by omega) with rfl | rfl | rfl
    · exact ⟨f, a3, by walk_at "uu"⟩
    · exact ⟨e, a2, by walk_at "uu"⟩
    · exact ⟨t, a1, by walk_at "uu"⟩
  refine .off ht (by walk_at "uu") ?_
  refine .off he (by walk_at "uu") ?_
  refine .off hf (by walk_at "uu") ?_
  exact .nil fun j _ => by walk_at "uu"
/-- with 4 beside: 3 at a neighbour -/
theorem run_bes3 {s sp go l q : Nat} (hn : NbOk nbr n) (hs : s < n) (hp : sp < n) (hg : go < n) (hl : l < n) (n1 : sp ≠ s) (n2 : go ≠ s) (n3 : l ≠ s) (n4 : go ≠ l) (n5 : q ≠ s) (n6 : q ≠ sp) (n7 : q ≠ go) (n8 : q ≠ l) (a1 : (sp : Int) ∈ nbr (s : Int)) (a2 : (s : Int) ∈ nbr (go : Int)) (a3 : (l : Int) ∈ nbr (go : Int)) (n9 : sp ≠ go) :
    Rn nbr n (upS zeroS q 4) (bes2 s sp go l) (upS (upS zeroS q 4) go 3) := by
  refine .on 1 hn hp (by walk_at "uu") (by omega) (fun j _ _ _ => by walk_at "uu") (fun d h1 h2 => by omega) ?_
  refine .on 2 hn hs (by walk_at "uu") (by omega) (fun j _ _ _ => by walk_at "uu") (one_d ⟨sp, a1, by walk_at "uu"⟩) ?_
  refine .off hp (by walk_at "uu") ?_
  refine .on 1 hn hl (by walk_at "uu") (by omega) (fun j _ _ _ => by walk_at "uu") (fun d h1 h2 => by omega) ?_
  refine .on 3 hn hg (by walk_at "uu") (by omega) (fun j _ _ _ => by walk_at "uu") (fun d h1 h2 => ?_) ?_
  · rcases (show d = 1 ∨ d = 2 by omega) with rfl | rfl
    · exact ⟨l, a3, by walk_at "uu"⟩
    · exact ⟨s, a2, by walk_at "uu"⟩
  refine .off hs (by walk_at "uu") ?_
  refine .off hl (by walk_at "uu") ?_
  exact .nil fun j _ => by walk_at "uu"
/-- with 3 beside both: 4 at a neighbour -/
theorem run_bes4 {s sp go l q : Nat} (hn : NbOk nbr n) (hs : s < n) (hp : sp < n) (hg : go < n) (hl : l < n) (n1 : sp ≠ s) (n2 : go ≠ s) (n3 : l ≠ s) (n4 : go ≠ l) (n5 : q ≠ s) (n6 : q ≠ sp) (n7 : q ≠ go) (n8 : q ≠ l) (a1 : (sp : Int) ∈ nbr (s : Int)) (a2 : (s : Int) ∈ nbr (go : Int)) (a3 : (l : Int) ∈ nbr (go : Int)) (a4 : (q : Int) ∈ nbr (go : Int)) (n9 : sp ≠ go) :
    Rn nbr n (upS zeroS q 3) (bes2 s sp go l) (upS (upS zeroS q 3) go 4) := by
  refine .on 1 hn hp (by walk_at "uu") (by omega) (fun j _ _ _ => by walk_at "uu") (fun d h1 h2 => by omega) ?_
  refine .on 2 hn hs (by walk_at "uu") (by omega) (fun j _ _ _ => by walk_at "uu") (one_d ⟨sp, a1, by walk_at "uu"⟩) ?_
  refine .off hp (by walk_at "uu") ?_
  refine .on 1 hn hl (by walk_at "uu") (by omega) (fun j _ _ _ => by walk_at "uu") (fun d h1 h2 => by omega) ?_
  refine .on 4 hn hg (by walk_at "uu") (by omega) (fun j _ _ _ => by walk_at "uu") (fun d h1 h2 => ?_) ?_
  · rcases (show d = 1 ∨ d = 2 ∨ d = 3 by omega) with rfl | rfl | rfl
    · exact ⟨l, a3, by walk_at "uu"⟩
    · exact ⟨s, a2, by walk_at "uu"⟩
    · exact ⟨q, a4, by walk_at "uu"⟩
  refine .off hs (by walk_at "uu") ?_
  refine .off hl (by walk_at "uu") ?_
  exact .nil fun j _ => by walk_at "uu"
theorem run_end5 {s q t e f : Nat} (hn : NbOk nbr n) (hs : s < n) (hq : q < n) (ht : t < n) (he : e < n) (hf : f < n) (n1 : t ≠ s) (n2 : e ≠ s) (n3 : f ≠ s) (n4 : e ≠ t) (n5 : f ≠ t) (n6 : e ≠ f) (m1 : q ≠ s) (m2 : q ≠ t) (m3 : q ≠ e) (m4 : q ≠ f)
    (a0 : (q : Int) ∈ nbr (s : Int)) (a1 : (t : Int) ∈ nbr (s : Int)) (a2 : (e : Int) ∈ nbr (s : Int)) (a3 : (f : Int) ∈ nbr (s : Int)) (b2 : (s : Int) ∈ nbr (e : Int)) {g : Nat → Int} (hg : ∀ j, j < n → g j = if j = q then 4 else if j = t then 3 else 0) :
    Rn nbr n g [(s : Int), e, s, f, s, q, t, e, f] (upS zeroS s 5) := by
  refine Rn.of ?_ hg
  refine .on 1 hn hs (by walk_at "uu") (by omega) (fun j _ _ _ => by walk_at "uu") (fun d h1 h2 => by omega) ?_
  refine .on 2 hn he (by walk_at "uu") (by omega) (fun j _ _ _ => by walk_at "uu") (one_d ⟨s, b2, by walk_at "uu"⟩) ?_
  refine .off hs (by walk_at "uu") ?_
  refine .on 1 hn hf (by walk_at "uu") (by omega) (fun j _ _ _ => by walk_at "uu") (fun d h1 h2 => by omega) ?_
  refine .on 5 hn hs (by walk_at "uu") (by omega) (fun j _ _ _ => by walk_at "uu") (fun d h1 h2 => ?_) ?_
  · rcases (show d = 1 ∨ d = 2 ∨ d = 3 ∨ d = 4 by omega) with rfl | rfl | rfl | rfl
    · exact ⟨f, a3, by walk_at "uu"⟩
    · exact ⟨e, a2, by walk_at "uu"⟩
    · exact ⟨t, a1, by walk_at "uu"⟩
    · exact ⟨q, a0, by walk_at "uu"⟩
  refine .off hq (by walk_at "uu") ?_
  refine .off ht (by walk_at "uu") ?_
  refine .off he (by walk_at "uu") ?_
  refine .off hf (by walk_at "uu") ?_
  exact .nil fun j _ => by walk_at "uu"
end
end NX

namespace NX
/-! ### switchings, computed -/
def mexC (us : List Int) : Int := ((((List.range (us.length + 1)).find? fun (k : Nat) => !decide ((k : Int) + 1 ∈ us)).getD 0 : Nat) : Int) + 1
theorem mexC_eq (us : List Int) : mexL us = mexC us := by
  refine mexL_of ?_
  unfold mexC
  have m := mexL_is us
  have hl := mexL_le us
  cases e : (List.range (us.length + 1)).find? fun (k : Nat) => !decide ((k : Int) + 1 ∈ us) with
  | none =>
    have := List.find?_eq_none.mp e (mexL us - 1).toNat (List.mem_range.mpr (by omega))
    rw [show (((mexL us - 1).toNat : Nat) : Int) + 1 = mexL us by omega] at this
    simp [m.no] at this
  | some k =>
    obtain ⟨h1, h2, h3⟩ := List.find?_range_eq_some.mp e
    rw [Option.getD_some]
    refine ⟨by omega, by simpa using h1, fun d a b => ?_⟩
    have := h3 (d - 1).toNat (by omega)
    rw [show (((d - 1).toNat : Nat) : Int) + 1 = d by omega] at this
    simpa using this
def swC (nbr : Nbr) (st : List Int) (i : Nat) : List Int := st.take i ++ [if tv st (i : Int) = 0 then mexC ((nbr (i : Int)).map (tv st)) else 0] ++ st.drop (i + 1)
theorem swC_eq (nbr : Nbr) (st : List Int) (i : Nat) : sw nbr st i = swC nbr st i := by
  unfold sw swC chn
  split
  · rw [mexC_eq]
  · rfl
def runC (nbr : Nbr) (st : List Int) (steps : List Int) : List Int := steps.foldl (fun s (x : Int) => swC nbr s x.toNat) st
theorem runC_eq (nbr : Nbr) (st : List Int) (steps : List Int) : runS nbr st steps = runC nbr st steps := by
  unfold runS runC
  congr 1
  funext s x
  exact swC_eq nbr s x.toNat
end NX

namespace NX
/-! ### renamed, without: what becomes of the links -/
def mmP (a b : Int) : Pr := (min a b, max a b)
def renL (ns : List Int) (ks : List Pr) : List Pr := ks.map fun q => mmP (tv ns q.1) (tv ns q.2)
/-- new numbers of n stations -/
def IsNames (n : Nat) (ns : List Int) : Prop := ns.length = n ∧ ns.Nodup ∧ ∀ x ∈ ns, 0 ≤ x ∧ x < (n : Int)
theorem tv_mem {t : List Int} {j : Int} (h0 : 0 ≤ j) (h : j < (t.length : Int)) : tv t j ∈ t := by
  obtain ⟨i, rfl⟩ : ∃ i : Nat, j = (i : Int) := ⟨j.toNat, by omega⟩
  exact List.mem_of_getElem? (get_tv (by omega))
theorem tv_inj {t : List Int} (h : t.Nodup) {i j : Int} (hi : 0 ≤ i ∧ i < (t.length : Int)) (hj : 0 ≤ j ∧ j < (t.length : Int)) (e : tv t i = tv t j) : i = j := by
  obtain ⟨a, rfl⟩ : ∃ a : Nat, i = (a : Int) := ⟨i.toNat, by omega⟩
  obtain ⟨b, rfl⟩ : ∃ b : Nat, j = (b : Int) := ⟨j.toNat, by omega⟩
  have ha := get_tv (t := t) (i := a) (by omega)
  have hb := get_tv (t := t) (i := b) (by omega)
  obtain ⟨la, ea⟩ := List.getElem?_eq_some_iff.mp ha
  obtain ⟨lb, eb⟩ := List.getElem?_eq_some_iff.mp hb
  have := (List.getElem_inj h).mp (ea.trans (e.trans eb.symm))
  omega
theorem IsNames.rng {n : Nat} {ns : List Int} (h : IsNames n ns) {j : Int} (h0 : 0 ≤ j) (hj : j < (n : Int)) : 0 ≤ tv ns j ∧ tv ns j < (n : Int) := h.2.2 _ (tv_mem h0 (by rw [h.1]; exact hj))
theorem IsNames.inj {n : Nat} {ns : List Int} (h : IsNames n ns) {i j : Int} (hi : 0 ≤ i ∧ i < (n : Int)) (hj : 0 ≤ j ∧ j < (n : Int)) (e : tv ns i = tv ns j) : i = j := tv_inj h.2.1 (by rw [h.1]; exact hi) (by rw [h.1]; exact hj) e
theorem ren_ok {n : Nat} {ns : List Int} {ks : List Pr} (h : IsNames n ns) (ok : Okl n ks) : Okl n (renL ns ks) := fun q hq => by
  obtain ⟨p, hp, rfl⟩ := List.mem_map.mp hq
  have hb := ok p hp
  have h1 := h.rng (j := p.1) hb.1 (by omega)
  have h2 := h.rng (j := p.2) (by omega) hb.2.2
  have ne : tv ns p.1 ≠ tv ns p.2 := fun e => by
    have := h.inj ⟨hb.1, by omega⟩ ⟨by omega, hb.2.2⟩ e
    omega
  unfold mmP
  simp only
  omega
theorem nd_map {α β : Type} {f : α → β} : ∀ {l : List α}, l.Nodup → (∀ x ∈ l, ∀ y ∈ l, f x = f y → x = y) → (l.map f).Nodup
  | [], _, _ => List.Pairwise.nil
  | a :: l, h, inj => by
    have h' := List.nodup_cons.mp h
    rw [List.map_cons, List.nodup_cons]
    refine ⟨fun m => ?_, nd_map h'.2 fun x hx y hy => inj x (List.mem_cons_of_mem _ hx) y (List.mem_cons_of_mem _ hy)⟩
    obtain ⟨b, hb, e⟩ := List.mem_map.mp m
    have := inj b (List.mem_cons_of_mem _ hb) a List.mem_cons_self e
    rw [this] at hb
    exact h'.1 hb
theorem nd_filter {α : Type} {p : α → Bool} {l : List α} (h : l.Nodup) : (l.filter p).Nodup := h.sublist List.filter_sublist
theorem mm_eq {a b c d : Int} (h : mmP a b = mmP c d) : (a = c ∧ b = d) ∨ (a = d ∧ b = c) := by
  unfold mmP at h
  have h1 := congrArg Prod.fst h
  have h2 := congrArg Prod.snd h
  simp only at h1 h2
  omega
theorem ren_nd {n : Nat} {ns : List Int} {ks : List Pr} (h : IsNames n ns) (ok : Okl n ks) (nd : ks.Nodup) : (renL ns ks).Nodup := nd_map nd fun x hx y hy e => by
  have bx := ok x hx
  have by_ := ok y hy
  rcases mm_eq e with ⟨e1, e2⟩ | ⟨e1, e2⟩
  · have a := h.inj ⟨bx.1, by omega⟩ ⟨by_.1, by omega⟩ e1
    have b := h.inj ⟨by omega, bx.2.2⟩ ⟨by omega, by_.2.2⟩ e2
    exact Prod.ext a b
  · have a := h.inj ⟨bx.1, by omega⟩ ⟨by omega, by_.2.2⟩ e1
    have b := h.inj ⟨by omega, bx.2.2⟩ ⟨by_.1, by omega⟩ e2
    omega
def shf (s x : Int) : Int := x - (if s < x then 1 else 0)
theorem shf_inj {s x y : Int} (hx : x ≠ s) (hy : y ≠ s) (e : shf s x = shf s y) : x = y := by
  unfold shf at e
  split at e <;> split at e <;> omega
def woF (s : Int) (ks : List Pr) : List Pr := ks.filter fun q => !decide (s = q.1 ∨ s = q.2)
def woL (s : Int) (ks : List Pr) : List Pr := (woF s ks).map fun q => (shf s q.1, shf s q.2)
theorem mem_woF {s : Int} {ks : List Pr} {q : Pr} : q ∈ woF s ks ↔ q ∈ ks ∧ q.1 ≠ s ∧ q.2 ≠ s := by
  unfold woF
  rw [List.mem_filter]
  simp only [Bool.not_eq_true', decide_eq_false_iff_not, not_or]
  exact ⟨fun h => ⟨h.1, fun e => h.2.1 e.symm, fun e => h.2.2 e.symm⟩, fun h => ⟨h.1, fun e => h.2.1 e.symm, fun e => h.2.2 e.symm⟩⟩
theorem wo_ok {n : Nat} {s : Int} {ks : List Pr} (hs : 0 ≤ s ∧ s < (n : Int)) (ok : Okl n ks) : Okl (n - 1) (woL s ks) := fun q hq => by
  obtain ⟨p, hp, rfl⟩ := List.mem_map.mp hq
  obtain ⟨hp, n1, n2⟩ := mem_woF.mp hp
  have hb := ok p hp
  simp only
  unfold shf
  split <;> split <;> omega
theorem wo_nd {s : Int} {ks : List Pr} (nd : ks.Nodup) : (woL s ks).Nodup := nd_map (nd_filter nd) fun x hx y hy e => by
  obtain ⟨_, a1, a2⟩ := mem_woF.mp hx
  obtain ⟨_, b1, b2⟩ := mem_woF.mp hy
  have h1 := congrArg Prod.fst e
  have h2 := congrArg Prod.snd e
  exact Prod.ext (shf_inj a1 b1 h1) (shf_inj a2 b2 h2)
theorem wo_len {s : Int} {ks : List Pr} : (woL s ks).length ≤ ks.length := by
  unfold woL woF
  rw [List.length_map]
  exact List.length_filter_le ..
theorem ren_len {ns : List Int} {ks : List Pr} : (renL ns ks).length = ks.length := List.length_map ..
end NX

namespace NX
/-! ### renamed, without: their tables -/
theorem nb_perm {ks ls : List Pr} (p : ks.Perm ls) (i : Int) : (nb ks i).Perm (nb ls i) := p.filterMap _
theorem StepT.perm {n : Nat} {ks ls : List Pr} {t t' : List Int} (h : StepT n ks t t') (p : ks.Perm ls) : StepT n ls t t' := ⟨h.1, fun i hi => (h.2 i hi).perm ((nb_perm p _).map _)⟩
theorem TabF.perm {n : Nat} {ks ls : List Pr} {t : List Int} (h : TabF n ks t) (p : ks.Perm ls) : TabF n ls t := StepT.perm h p
theorem nb_cons (q : Pr) (ks : List Pr) (i : Int) : nb (q :: ks) i = nb [q] i ++ nb ks i := nb_app [q] ks i
theorem nb_ren {n : Nat} {ns : List Int} (h : IsNames n ns) {v : Int} (hv : 0 ≤ v ∧ v < (n : Int)) : ∀ {ks : List Pr}, Okl n ks → nb (renL ns ks) (tv ns v) = (nb ks v).map (tv ns)
  | [], _ => rfl
  | q :: ks, ok => by
    have ih := nb_ren h hv (ks := ks) fun x hx => ok x (List.mem_cons_of_mem _ hx)
    have hq := ok q List.mem_cons_self
    have e : renL ns (q :: ks) = mmP (tv ns q.1) (tv ns q.2) :: renL ns ks := rfl
    have i1 : tv ns q.1 = tv ns v → q.1 = v := fun z => h.inj ⟨hq.1, by omega⟩ hv z
    have i2 : tv ns q.2 = tv ns v → q.2 = v := fun z => h.inj ⟨by omega, hq.2.2⟩ hv z
    have ne : tv ns q.1 ≠ tv ns q.2 := fun z => by
      have := h.inj ⟨hq.1, by omega⟩ ⟨by omega, hq.2.2⟩ z
      omega
    rw [e, nb_cons, nb_cons q, List.map_append, ih, nb_one, nb_one]
    congr 1
    unfold mmP
    simp only
    by_cases c1 : q.1 = v
    · subst c1
      rw [if_pos rfl]
      by_cases c : tv ns q.1 ≤ tv ns q.2
      · rw [if_pos (by omega)]
        have : max (tv ns q.1) (tv ns q.2) = tv ns q.2 := by omega
        rw [this] <;> rfl
      · rw [if_neg (by omega), if_pos (by omega)]
        have : min (tv ns q.1) (tv ns q.2) = tv ns q.2 := by omega
        rw [this] <;> rfl
    · rw [if_neg c1]
      have n1 : tv ns q.1 ≠ tv ns v := fun z => c1 (i1 z)
      by_cases c2 : q.2 = v
      · subst c2
        rw [if_pos rfl]
        by_cases c : tv ns q.1 ≤ tv ns q.2
        · rw [if_neg (by omega), if_pos (by omega)]
          have : min (tv ns q.1) (tv ns q.2) = tv ns q.1 := by omega
          rw [this] <;> rfl
        · rw [if_pos (by omega)]
          have : max (tv ns q.1) (tv ns q.2) = tv ns q.1 := by omega
          rw [this] <;> rfl
      · rw [if_neg c2]
        have n2 : tv ns q.2 ≠ tv ns v := fun z => c2 (i2 z)
        rw [if_neg (by omega), if_neg (by omega)] <;> rfl
/-- numbers there and back -/
structure Back (n : Nat) (ns bs : List Int) : Prop where
  a : IsNames n ns
  b : IsNames n bs
  ab : ∀ v : Int, 0 ≤ v ∧ v < (n : Int) → tv bs (tv ns v) = v
  ba : ∀ v : Int, 0 ≤ v ∧ v < (n : Int) → tv ns (tv bs v) = v
theorem back_ren {n : Nat} {ns bs : List Int} (h : Back n ns bs) : ∀ {ks : List Pr}, Okl n ks → renL bs (renL ns ks) = ks
  | [], _ => rfl
  | q :: ks, ok => by
    have ih := back_ren h (ks := ks) fun x hx => ok x (List.mem_cons_of_mem _ hx)
    have hq := ok q List.mem_cons_self
    show mmP (tv bs (mmP (tv ns q.1) (tv ns q.2)).1) (tv bs (mmP (tv ns q.1) (tv ns q.2)).2) :: renL bs (renL ns ks) = q :: ks
    rw [ih]
    have e1 := h.ab q.1 ⟨hq.1, by omega⟩
    have e2 := h.ab q.2 ⟨by omega, hq.2.2⟩
    have z : mmP (tv bs (mmP (tv ns q.1) (tv ns q.2)).1) (tv bs (mmP (tv ns q.1) (tv ns q.2)).2) = q := by
      unfold mmP
      simp only
      rcases Int.le_total (tv ns q.1) (tv ns q.2) with c | c
      · rw [Int.min_eq_left c, Int.max_eq_right c, e1, e2]
        exact Prod.ext (by show min q.1 q.2 = q.1; omega) (by show max q.1 q.2 = q.2; omega)
      · rw [Int.min_eq_right c, Int.max_eq_left c, e1, e2]
        exact Prod.ext (by show min q.2 q.1 = q.1; omega) (by show max q.2 q.1 = q.2; omega)
    rw [z]
theorem ren_perm {ns : List Int} {ks ls : List Pr} (p : ks.Perm ls) : (renL ns ks).Perm (renL ns ls) := p.map _
theorem back_net {n : Nat} {ns bs : List Int} (h : Back n ns bs) {ks : List Pr} (ok : Okl n ks) (u : Up ks) : sortP (renL bs (sortP (renL ns ks))) = ks := by
  rw [sortP_congr (ren_perm (sortP_perm (renL ns ks))), back_ren h ok]
  exact sortP_id u
theorem ren_tab {n : Nat} {ns bs : List Int} (h : Back n ns bs) {ls : List Pr} {t t' : List Int} (ok : Okl n ls) (ht : TabF n ls t) (ht' : TabF n (renL ns ls) t') {v : Int} (hv : 0 ≤ v ∧ v < (n : Int)) : tv t' (tv ns v) = tv t v := by
  have ok' := ren_ok h.a ok
  have a := tab_le ht'.tab ht.tab (tv ns) (fun v hv => h.a.rng hv.1 hv.2) (fun v _ u hu => by have := nb_rng ok hu; omega) (fun v hv => ⟨_, List.Perm.refl _, by rw [nb_ren h.a hv ok]; exact List.Sublist.refl _⟩) v hv
  have b := tab_le ht.tab ht'.tab (tv bs) (fun v hv => h.b.rng hv.1 hv.2) (fun v _ u hu => by have := nb_rng ok' hu; omega) (fun u hu => ⟨_, List.Perm.refl _, by
    have hb := h.b.rng hu.1 hu.2
    have e := nb_ren h.a hb ok
    rw [h.ba u hu] at e
    rw [e, List.map_map]
    have z : (nb ls (tv bs u)).map (tv bs ∘ tv ns) = nb ls (tv bs u) := by
      conv => rhs; rw [← List.map_id (nb ls (tv bs u))]
      refine List.map_congr_left fun x hx => ?_
      have := nb_rng ok hx
      exact h.ab x ⟨by omega, by omega⟩
    rw [z]
    exact List.Sublist.refl _⟩) (tv ns v) (h.a.rng hv.1 hv.2)
  rw [h.ab v hv] at b
  omega
def uns (s x : Int) : Int := if x < s then x else x + 1
theorem uns_shf {s x : Int} (h : x ≠ s) : uns s (shf s x) = x := by
  unfold uns shf
  split <;> split <;> omega
theorem shf_uns (s x : Int) : shf s (uns s x) = x := by
  unfold uns shf
  split <;> split <;> omega
theorem nb_wo {s v : Int} : ∀ ks : List Pr, ((nb (woL s ks) v).map (uns s)).Sublist (nb ks (uns s v))
  | [] => List.Sublist.refl _
  | q :: ks => by
    have ih := nb_wo (s := s) (v := v) ks
    rw [nb_cons q]
    by_cases c : s = q.1 ∨ s = q.2
    · have e : woL s (q :: ks) = woL s ks := by
        unfold woL woF
        rw [List.filter_cons, if_neg (by rw [decide_eq_true c]; exact Bool.false_ne_true)]
      rw [e]
      exact ih.trans (List.sublist_append_right _ _)
    · have e : woL s (q :: ks) = (shf s q.1, shf s q.2) :: woL s ks := by
        unfold woL woF
        rw [List.filter_cons, if_pos (by rw [decide_eq_false c]; rfl)] <;> rfl
      have n1 : q.1 ≠ s := fun z => c (.inl z.symm)
      have n2 : q.2 ≠ s := fun z => c (.inr z.symm)
      have f1 : shf s q.1 = v ↔ q.1 = uns s v := ⟨fun z => by rw [← z, uns_shf n1], fun z => by rw [z, shf_uns]⟩
      have f2 : shf s q.2 = v ↔ q.2 = uns s v := ⟨fun z => by rw [← z, uns_shf n2], fun z => by rw [z, shf_uns]⟩
      rw [e, nb_cons, List.map_append, nb_one, nb_one]
      refine List.Sublist.append ?_ ih
      simp only
      by_cases c1 : q.1 = uns s v
      · rw [if_pos (f1.mpr c1), if_pos c1, List.map_cons, uns_shf n2] <;> exact List.Sublist.refl _
      · rw [if_neg (fun z => c1 (f1.mp z)), if_neg c1]
        by_cases c2 : q.2 = uns s v
        · rw [if_pos (f2.mpr c2), if_pos c2, List.map_cons, uns_shf n1] <;> exact List.Sublist.refl _
        · rw [if_neg (fun z => c2 (f2.mp z)), if_neg c2] <;> exact List.Sublist.refl _
theorem wo_perm {s : Int} {ks ls : List Pr} (p : ks.Perm ls) : (woL s ks).Perm (woL s ls) := (p.filter _).map _
theorem wo_tab {n : Nat} {s : Int} (hs : 0 ≤ s ∧ s < (n : Int)) {ls : List Pr} {t t' : List Int} (ok : Okl n ls) (ht : TabF n ls t) (ht' : TabF (n - 1) (woL s ls) t') {v : Int} (hv : 0 ≤ v ∧ v < ((n - 1 : Nat) : Int)) : tv t' v ≤ tv t (uns s v) := by
  have ok' := wo_ok hs ok
  exact tab_le ht.tab ht'.tab (uns s) (fun v hv => by unfold uns; split <;> omega) (fun v _ u hu => by have := nb_rng ok' hu; omega) (fun v _ => ⟨_, List.Perm.refl _, nb_wo ls⟩) v hv
end NX

local macro_rules | `(tactic| walk_at "go1") => `(tactic| first
  | with_reducible refine NX.s_seq ?_
  | with_reducible refine NX.s_asg ?_
  | with_reducible refine NX.s_name ?_
  | with_reducible refine NX.s_ret ?_
  | with_reducible refine NX.s_if ?_
  | with_reducible refine NX.s_next ?_
  | with_reducible refine NX.s_drop ?_
  | with_reducible refine NX.s_brk ?_
  | with_reducible refine NX.s_cont ?_
  | with_reducible refine NX.s_par ?_
  | with_reducible refine NX.s_two ?_
  | with_reducible refine NX.s_sub ?_
  | with_reducible refine NX.s_gcons ?_
  | with_reducible refine NX.s_gnil ?_
  | with_reducible refine NX.g_c ?_
  | ((with_reducible refine' NX.g_var ?gv ?gk); (case gv => exact rfl))
  | with_reducible refine NX.g_op ?_
  | with_reducible refine NX.g_un ?_
  | with_reducible refine NX.g_U ?_
  | with_reducible refine NX.g_I0 ?_
  | with_reducible refine NX.g_cb ?_
  | with_reducible refine NX.g_call ?_
  | with_reducible refine NX.g_cal ?_
  | with_reducible refine NX.g_calN ?_
  | with_reducible refine NX.g_nil ?_
  | with_reducible refine NX.g_cons ?_
  | with_reducible refine NX.g_test ?_
  | with_reducible refine NX.g_B ?_
  | with_reducible refine NX.g_bl ?_
  | with_reducible refine NX.g_exV ?_
  | with_reducible refine NX.g_exI ?_
  | with_reducible refine NX.g_and ?_
  | with_reducible refine NX.g_or ?_
  | with_reducible refine NX.g_not ?_
  | with_reducible refine NX.g_andV ?_
  | with_reducible refine NX.g_orV ?_
  | with_reducible refine NX.g_notV ?_
  | with_reducible refine NX.g_if ?_
  | with_reducible refine NX.g_chain ?_
  | with_reducible refine NX.g_chain3 ?_
  | with_reducible refine NX.g_tup ?_
  | with_reducible refine NX.g_lst ?_
  | with_reducible refine NX.g_sl ?_
  | with_reducible refine NX.g_noPart ?_
  | with_reducible refine NX.g_part ?_
  | with_reducible refine NX.g_bm ?_
  | with_reducible refine NX.g_bm0 ?_
  | with_reducible refine NX.g_eqI ?_
  | with_reducible refine NX.g_neI ?_
  | with_reducible refine NX.g_eqB ?_
  | with_reducible refine NX.g_neB ?_
  | with_reducible refine NX.s_ipI ?_
  | ((with_reducible refine' NX.s_aug ?gv ?gk); (case gv => exact rfl))
  | with_reducible refine NX.s_for ?_
  | with_reducible refine NX.g_lc ?_
  | with_reducible refine NX.g_iList ?_
  | with_reducible refine NX.g_iTup ?_
  | with_reducible refine NX.g_iRng1 ?_
  | with_reducible refine NX.g_iRng2 ?_
  | with_reducible refine NX.g_iEnum ?_
  | with_reducible refine NX.g_yes ?_
  | with_reducible refine NX.n_int ?_
  | with_reducible refine NX.n_intB ?_
  | with_reducible refine NX.n_min ?_
  | with_reducible refine NX.n_max ?_
  | with_reducible refine NX.n_isN ?_
  | with_reducible refine NX.n_notN ?_
  | with_reducible refine NX.g_lrg ?_
  | with_reducible refine NX.g_rg1 ?_
  | with_reducible refine NX.g_rg2 ?_
  | with_reducible refine NX.g_ex2I ?_
  | with_reducible refine NX.g_mth ?_
  | with_reducible refine NX.g_new ?_
  | with_reducible refine NX.g_fld ?_
  | with_reducible refine NX.s_fld ?_
  | with_reducible refine NX.if_nt ?_
  | with_reducible refine NX.if_nf ?_
  | with_reducible refine L2.iteT ?_
  | with_reducible refine L2.iteF ?_)
local macro_rules | `(tactic| walk_at "go") => `(tactic| repeat (walk_at "go1"))

/-! the text by places -/
namespace NX
open PySem PySem.Spec PyProof.Rows L2
def top (i : Nat) : Stmt := PySem.Challenge.pw_nextchannel_k45_whole_below_the_table.main.body.getD i (.Pass ⟨0, 0, 0, 0⟩)
/-- what the top leaves of built-ins and constants -/
structure Txt (mg : Str → Option Value) : Prop where
  n_all : mg "all" = none
  n_bool : mg "bool" = none
  n_enumerate : mg "enumerate" = none
  n_int : mg "int" = none
  n_isinstance : mg "isinstance" = none
  n_len : mg "len" = none
  n_list : mg "list" = none
  n_max : mg "max" = none
  n_min : mg "min" = none
  n_range : mg "range" = none
  n_sorted : mg "sorted" = none
  n_tuple : mg "tuple" = none
  m_MAX_STATIONS : ∃ t, mg "MAX_STATIONS" = some (.int 60 t)
  m_MOST_LOW : ∃ t, mg "MOST_LOW" = some (.int 5 t)
end NX

namespace NX
open PySem PySem.Spec PyProof.Rows L2
open Evl (Ex ex_l ex_t fresh_back)
abbrev s_is_int : Stmt := top 8
theorem sc_is_int : FnScope ["value"] ["value"] (defScope s_is_int) := ⟨rfl, rfl, rfl, by decide +kernel, rfl, by decide +kernel, by decide +kernel⟩
/-- the types of the values that the law hands around -/
def okTy (t : String) : Bool := t == "int" || t == "bool" || t == "str" || t == "NoneType" || t == "list" || t == "tuple" || t == "dict"
/-- x is of the built-in type t -/
def IsT (K : PySem.W.Frag) (H : Hp) (x : V) (t : String) : Prop := TyX K H x (.type t) ∧ okTy t = true
theorem IsT.int {K : PySem.W.Frag} {H : Hp} {i : Int} : IsT K H (.int i) "int" := ⟨.base (.int i), by decide +kernel⟩
/-- is_int(x): whether x is an int and no bool -/
def spIsInt (K : PySem.W.Frag) : Sp := fun vs H Q _ => ∃ x t, vs = [x] ∧ IsT K H x t ∧ Q (.bl (t == "int")) H
theorem g_isint {K : PySem.W.Frag} {H : Hp} {Q : VK} {E : XK} {i : Int} (k : Q (.bl true) H) : spIsInt K [.int i] H Q E := ⟨_, _, rfl, IsT.int, k⟩
theorem kit_int {t : String} (h : okTy t = true) : kitB t "int" = some (t == "int" || t == "bool") ∧ kitB t "bool" = some (t == "bool") ∧ kitB t "tuple" = some (t == "tuple") ∧ kitB t "list" = some (t == "list") := by
  unfold okTy at h
  simp only [Bool.or_eq_true, beq_iff_eq] at h
  rcases h with (((((h | h) | h) | h) | h) | h) | h <;> subst h <;> exact ⟨by decide +kernel, by decide +kernel, by decide +kernel, by decide +kernel⟩
section
variable {P : Program} {w : World} {K : PySem.W.Frag} {mg : Str → Option Value} {base : Heap}
theorem ok_is_int {f : Addr} {fd : FuncData} (F : Fun K "is_int" "is_int" s_is_int f fd) (T : Txt mg) : FnOk P w K mg base CX0 1 f fd ["value"] (spIsInt K) := by
  refine F.ok sc_is_int (fun vs H Q E h => ?_) (fun cdv A outer s H vs Q E hr h => ?_)
  · obtain ⟨x, t, rfl, _⟩ := h
    rfl
  · obtain ⟨x, t, rfl, ⟨ty, ok⟩, k⟩ := h
    obtain ⟨k1, k2, _, _⟩ := kit_int ok
    refine ⟨_, (pss_one (ps_ret (pe_and (pe_callB call_isi (by rfl) T.n_isinstance (by decide +kernel) (pa_cons (pv 0) (pa_cons (pe_bltn (v := .ty "int") (by rfl) T.n_int (by decide +kernel) rfl) pa_nil))) (pe_one (pe_not (pe_callB call_isi (by rfl) T.n_isinstance (by decide +kernel) (pa_cons (pv 0) (pa_cons (pe_bltn (v := .ty "bool") (by rfl) T.n_bool (by decide +kernel) rfl) pa_nil)))))))), ?_⟩
    walk_at "go"
    refine ⟨x, _, _, _, _, rfl, .ty _, ty, kit_ty k1, ?_⟩
    walk_at "go"
    by_cases c : t = "int"
    · subst c
      refine iteT ?_
      walk_at "go"
      refine ⟨x, _, _, _, _, rfl, .ty _, ty, kit_ty k2, ?_⟩
      walk_at "go"
      exact k
    · by_cases c2 : t = "bool"
      · subst c2
        refine iteT ?_
        walk_at "go"
        refine ⟨x, _, _, _, _, rfl, .ty _, ty, kit_ty k2, ?_⟩
        walk_at "go"
        exact k
      · have e : (t == "int" || t == "bool") = false := by simp [c, c2]
        have e2 : (t == "int") = false := by simp [c]
        rw [e]
        refine iteF ?_
        rw [e2] at k
        exact k
end
end NX

namespace NX
open PySem PySem.Spec PyProof.Rows L2
open Evl (Ex ex_l ex_t fresh_back)
/-! ### lists of pairs of numbers -/
def isPr (H : Hp) (x : V) (q : Int × Int) : Prop := ∃ t, x = .ref t ∧ H t = some (.tup [.int q.1, .int q.2])
abbrev Lks (H : Hp) : List V → List (Int × Int) → Prop := Paired (isPr H)
theorem Lks.mono {G H : Hp} (e : Ex G H) {xs : List V} {ps : List (Int × Int)} (h : Lks G xs ps) : Lks H xs ps := Paired.mapP h fun _ _ ⟨t, a, b⟩ => ⟨t, a, e _ _ b⟩
theorem pr_snoc {α β : Type} {F : α → β → Prop} : ∀ {xs : List α} {ys : List β} {a : α} {b : β}, Paired F xs ys → F a b → Paired F (xs ++ [a]) (ys ++ [b])
  | _, _, _, _, .nil, h => .cons h .nil
  | _, _, _, _, .cons r t, h => .cons r (pr_snoc t h)
theorem pr_len {α β : Type} {F : α → β → Prop} {xs : List α} {ys : List β} (h : Paired F xs ys) : xs.length = ys.length := Paired.length h
theorem pr_get {α β : Type} {F : α → β → Prop} : ∀ {xs : List α} {ys : List β} {i : Nat} {a : α}, Paired F xs ys → xs[i]? = some a → ∃ b, ys[i]? = some b ∧ F a b
  | _, _, _, _, .nil, e => by simp at e
  | _, _, 0, _, .cons r _, e => by simp at e; subst e; exact ⟨_, rfl, r⟩
  | _, _, i + 1, _, .cons _ t, e => by
    obtain ⟨b, h1, h2⟩ := pr_get (i := i) t (by simpa using e)
    exact ⟨b, by simpa using h1, h2⟩
theorem take_snoc {α : Type} : ∀ {l : List α} {i : Nat} {x : α}, l[i]? = some x → l.take (i + 1) = l.take i ++ [x]
  | [], i, x, h => by simp at h
  | a :: l, 0, x, h => by
    have e : a = x := Option.some.inj h
    subst e
    rfl
  | a :: l, i + 1, x, h => by
    have ih := take_snoc (l := l) (i := i) (x := x) h
    show a :: l.take (i + 1) = a :: l.take i ++ [x]
    rw [ih]
    rfl
theorem get_map {α β : Type} {f : α → β} {l : List α} {i : Nat} {y : β} (h : (l.map f)[i]? = some y) : ∃ x, l[i]? = some x ∧ y = f x := by
  rw [List.getElem?_map] at h
  cases e : l[i]? with
  | none => rw [e] at h; cases h
  | some x => rw [e] at h; exact ⟨x, rfl, (Option.some.inj h).symm⟩
/-- range(a, b) -/
def rgI (a b : Int) : List Int := (List.range (b - a).toNat).map fun (i : Nat) => a + (i : Int)
theorem rgV_eq (a b : Int) : rgV a b = (rgI a b).map V.int := by
  unfold rgV rgI
  rw [List.map_map]
  rfl
theorem mem_rgI {a b k : Int} (h : k ∈ rgI a b) : a ≤ k ∧ k < b := by
  obtain ⟨i, hi, rfl⟩ := List.mem_map.mp h
  have := List.mem_range.mp hi
  omega
theorem pr_app {α β : Type} {F : α → β → Prop} : ∀ {xs xs' : List α} {ys ys' : List β}, Paired F xs ys → Paired F xs' ys' → Paired F (xs ++ xs') (ys ++ ys')
  | _, _, _, _, .nil, h => h
  | _, _, _, _, .cons r t, h => .cons r (pr_app t h)
end NX

namespace NX
open PySem PySem.Spec PyProof.Rows L2
open Evl (Ex ex_l ex_t fresh_back)
/-! ### pairs as data -/
def pd (q : Pr) : PyData := .tuple [.int q.1, .int q.2]
theorem dp_pr {K : PySem.W.Frag} {H : Hp} {x : V} {q : Pr} (h : isPr H x q) : Dp K H x (pd q) := by
  obtain ⟨t, rfl, ht⟩ := h
  exact .tup (SqT.of ht) (.cons (.int _) (.cons (.int _) .nil))
theorem dp_lks {K : PySem.W.Frag} {H : Hp} : ∀ {xs : List V} {ps : List Pr}, Lks H xs ps → DpAll K H xs (ps.map pd)
  | _, _, .nil => .nil
  | _, _, .cons r t => .cons (dp_pr r) (dp_lks t)
theorem lay_lks : ∀ ps : List Pr, PyData.canLayAll0 (ps.map pd) = true
  | [] => by rw [List.map_nil]; unfold PyData.canLayAll0; rfl
  | q :: ps => by
    rw [List.map_cons]
    unfold PyData.canLayAll0
    rw [lay_lks ps]
    show (PyData.canLay0 (.tuple [.int q.1, .int q.2]) && true) = true
    simp only [PyData.canLay0, PyData.canLayAll0, Bool.and_self]
theorem depth_lks : ∀ ps : List Pr, PyData.depthAll (ps.map pd) ≤ 1
  | [] => by rw [List.map_nil]; unfold PyData.depthAll; omega
  | q :: ps => by
    rw [List.map_cons]
    unfold PyData.depthAll
    have h := depth_lks ps
    have e : PyData.depth (pd q) = 1 := by
      show PyData.depth (.tuple [.int q.1, .int q.2]) = 1
      simp [PyData.depth, PyData.depthAll]
    rw [e]
    omega
theorem shaped_lks (ps : List Pr) : SeqAt.shaped (.list (ps.map pd)) = true := by
  unfold SeqAt.shaped
  have h := depth_lks ps
  rw [Bool.and_eq_true]
  refine ⟨?_, decide_eq_true ?_⟩
  · simp only [PyData.canLay0]
    exact lay_lks ps
  · simp only [PyData.depth]
    omega
theorem shaped_pd (q : Pr) : SeqAt.shaped (pd q) = true := by
  unfold SeqAt.shaped pd
  simp [PyData.canLay0, PyData.canLayAll0, PyData.depth, PyData.depthAll]
theorem eqv_pd (z q : Pr) : PyData.eqv (pd z) (pd q) = decide (z = q) := by
  unfold pd
  simp only [PyData.eqv, PyData.eqvAll, Bool.and_true]
  obtain ⟨a, b⟩ := z; obtain ⟨c, d⟩ := q
  rw [Bool.eq_iff_iff]
  simp
theorem any_pd (ps : List Pr) (q : Pr) : ((ps.map pd).any fun z => PyData.eqv z (pd q)) = decide (q ∈ ps) := by
  rw [List.any_map, Bool.eq_iff_iff, List.any_eq_true]
  simp only [Function.comp, eqv_pd, decide_eq_true_eq]
  exact ⟨fun ⟨x, hx, e⟩ => e ▸ hx, fun h => ⟨q, h, rfl⟩⟩
theorem eqvAll_lks : ∀ ps qs : List Pr, PyData.eqvAll (ps.map pd) (qs.map pd) = decide (ps = qs)
  | [], [] => by simp [PyData.eqvAll]
  | [], q :: qs => by simp [PyData.eqvAll]
  | p :: ps, [] => by simp [PyData.eqvAll]
  | p :: ps, q :: qs => by
    rw [List.map_cons, List.map_cons, PyData.eqvAll, eqv_pd, eqvAll_lks ps qs, Bool.eq_iff_iff]
    simp
theorem eqv_lks (ps qs : List Pr) : PyData.eqv (.list (ps.map pd)) (.list (qs.map pd)) = decide (ps = qs) := by
  rw [PyData.eqv]; exact eqvAll_lks ps qs
/-- the pair that a tuple holds -/
def kOf (H : Hp) (x : V) : Pr := match x with
  | .ref t => (match H t with
    | some (.tup [.int i, .int j]) => (i, j)
    | _ => (0, 0))
  | _ => (0, 0)
theorem kOf_pr {H : Hp} {x : V} {q : Pr} (h : isPr H x q) : kOf H x = q := by
  obtain ⟨t, rfl, ht⟩ := h
  unfold kOf
  simp only [ht]
theorem lks_k {H : Hp} : ∀ {xs : List V} {ps : List Pr}, Lks H xs ps → xs.map (kOf H) = ps ∧ ∀ x ∈ xs, isPr H x (kOf H x)
  | _, _, .nil => ⟨rfl, fun _ h => nomatch h⟩
  | _, _, .cons r t => by
    obtain ⟨h1, h2⟩ := lks_k t
    refine ⟨by rw [List.map_cons, kOf_pr r, h1], fun x hx => ?_⟩
    rcases List.mem_cons.mp hx with rfl | hx
    · rw [kOf_pr r]; exact r
    · exact h2 x hx
theorem lks_of {H : Hp} : ∀ {ys : List V}, (∀ x ∈ ys, isPr H x (kOf H x)) → Lks H ys (ys.map (kOf H))
  | [], _ => .nil
  | y :: ys, h => .cons (h y List.mem_cons_self) (lks_of fun x hx => h x (List.mem_cons_of_mem _ hx))
/-- sorted(links) -/
theorem n_sortP {K : PySem.W.Frag} {G H : Hp} {L : List (Addr × HO)} {a : Addr} {xs : List V} {ps : List Pr} {Q : VK} {G0 : Hp} (S : Own G L H) (hx : SqL K H a xs) (e0 : Ex G0 H) (hl : Lks G0 xs ps)
    (k : ∀ p ys G1 H1, H p = none → Ex G G1 → Ex H H1 → G1 p = some (.lst ys) → Lks G0 ys (sortP ps) → Own G1 L H1 → Q (.ref p) H1) : rSortedPO K [.ref a] H Q := by
  obtain ⟨h1, h2⟩ := lks_k hl
  refine ⟨a, xs, kOf G0, rfl, hx, fun x m => ?_, fun ys p hs hb hp => ?_⟩
  · obtain ⟨t, e, ht⟩ := h2 x m
    exact ⟨t, e, e0 _ _ ht⟩
  · have hy : Lks G0 ys (ys.map (kOf G0)) := lks_of fun x m => h2 x (hb.perm.mem_iff.mp m)
    have e : ys.map (kOf G0) = sortP ps := by
      refine sortP_eq ?_ ?_
      · refine List.pairwise_map.mpr (hs.imp fun {x y} (c : ltP (kOf G0) y x = false) => ?_)
        have z := SrtO.lexB_no.mp c
        rw [leP_iff]
        omega
      · rw [← h1]
        exact hb.perm.map _
    rw [e] at hy
    exact k p ys _ _ hp (S.still hp).2.1 (Ex.new hp) (S.still hp).2.2 hy (S.still hp).1
/-! ### a network in the heap -/
def NF (kp np : Addr) : List (Str × V) := putF "near" (.ref np) (putF "kept" (.ref kp) [])
theorem nf_near (kp np : Addr) : (NF kp np).lookup ("near" : Str) = some (.ref np) := by unfold NF; rw [lookup_putF, if_pos rfl]
theorem nf_kept (kp np : Addr) : (NF kp np).lookup ("kept" : Str) = some (.ref kp) := by
  unfold NF
  rw [lookup_putF, if_neg (by decide +kernel), lookup_putF, if_pos rfl]
theorem nf_no (kp np : Addr) {m : Str} (h1 : ¬ m = "near") (h2 : ¬ m = "kept") : (NF kp np).lookup m = none := by
  unfold NF
  rw [lookup_putF, if_neg h1, lookup_putF, if_neg h2]
  all_goals rfl
/-- what stands at a network's addresses -/
structure NetO (C : Addr) (H : Hp) (a : Addr) (dx kp np : Addr) (xs : List V) (nps : List Addr) (n : Nat) (ks : List Pr) : Prop where
  ins : H a = some (.ins C dx (NF kp np))
  kept : H kp = some (.lst xs)
  lks : Lks H xs ks
  near : H np = some (.lst (nps.map V.ref))
  len : nps.length = n
  each : ∀ (i : Nat) (p : Addr), nps[i]? = some p → H p = some (.lst ((nb ks (i : Int)).map V.int))
structure NetAt (C : Addr) (H : Hp) (a : Addr) (n : Nat) (ks : List Pr) : Prop where
  at_ : ∃ dx kp np xs nps, NetO C H a dx kp np xs nps n ks
  ok : Okl n ks
  up : Up ks
  nd : ks.Nodup
  sz : 1 ≤ n ∧ n ≤ 60
theorem NetO.mono {C : Addr} {G H : Hp} {a dx kp np : Addr} {xs : List V} {nps : List Addr} {n : Nat} {ks : List Pr} (h : NetO C G a dx kp np xs nps n ks) (e : Ex G H) : NetO C H a dx kp np xs nps n ks :=
  ⟨e _ _ h.ins, e _ _ h.kept, h.lks.mono e, e _ _ h.near, h.len, fun i p q => e _ _ (h.each i p q)⟩
theorem NetAt.mono {C : Addr} {G H : Hp} {a : Addr} {n : Nat} {ks : List Pr} (h : NetAt C G a n ks) (e : Ex G H) : NetAt C H a n ks :=
  ⟨let ⟨dx, kp, np, xs, nps, o⟩ := h.at_; ⟨dx, kp, np, xs, nps, o.mono e⟩, h.ok, h.up, h.nd, h.sz⟩
/-- what the text says of the class -/
structure NetC (K : PySem.W.Frag) (C : Addr) : Prop where
  cl : Cls K C
  nK : NoAttr K C "kept"
  nN : NoAttr K C "near"
  ha : PySem.W.findIn K (.ref C) "__class__" = some (some (.builtin "object.__class__"))
  hn : PySem.W.specialIn K (.builtin "object.__class__") "__get__" = some (some (.builtin "getset_descriptor.__get__"))
  ht : PySem.W.takesIn K (.builtin "object.__class__") = some true
  hm : PySem.W.mroIn K C (.type "object") = some true
  kit : PySem.W.kitOne K (.ref C) (.ref C) = some true
  ne : PySem.W.findIn K (.ref C) "__ne__" = some (some (.builtin "object.__ne__"))
end NX

namespace NX
open PySem PySem.Spec PyProof.Rows L2
open Evl (Ex ex_l ex_t fresh_back)
/-- a well of draws -/
def wl (a b c : Int) : HO := .lst [.int a, .int b, .int c]
theorem n_setLi {H : Hp} {W : Addr} {xs : List V} {i : Int} {j : Nat} {v : V} {Q : Hp → Prop} (h : H W = some (.lst xs)) (hi : ixN xs.length i = some j) (k : Q (upd H W (.lst (xs.set j v)))) : rSetL (.ref W) (.int i) v H Q := ⟨W, xs, i, j, rfl, rfl, h, hi, k⟩
theorem mod_rng {a m : Int} (h : 0 < m) : 0 ≤ a % m ∧ a % m < m := ⟨Int.emod_nonneg a (by omega), Int.emod_lt_of_pos a h⟩
theorem Own.weak {G G' H : Hp} {L : List (Addr × HO)} (e : Ex G G') (S : Own G' L H) : Own G L H := ⟨e.trans S.ex, fun p hp => ⟨fresh_back e (S.at_ p hp).1, (S.at_ p hp).2⟩, S.nd, S.nt⟩
/-- xs.pop(i) -/
theorem n_popAt {G H : Hp} {L : List (Addr × HO)} {p : Addr} {xs : List V} {i : Int} {Q : VK} (S : Own G ((p, .lst xs) :: L) H) (h0 : 0 ≤ i) (h1 : i < (xs.length : Int)) (hz : xs.length ≤ 1000000)
    (k : ∀ y H1, xs[i.toNat]? = some y → Own G ((p, .lst (xs.eraseIdx i.toNat)) :: L) H1 → Q y H1) : rPopAt (.ref p) [.int i] H Q := by
  have hl : i.toNat < xs.length := by omega
  have hy : xs[i.toNat]? = some xs[i.toNat] := List.getElem?_eq_getElem hl
  refine ⟨p, xs, i, i.toNat, _, rfl, rfl, S.get0, by omega, by omega, ?_, hy, k _ _ hy S.put0⟩
  unfold seqIndex?
  have h3 : ¬ i < 0 := by omega
  simp [h3, h1]
  try omega
/-- a list whose items are data: for == and != -/
def DataOk (K : PySem.W.Frag) (G : Hp) (xs : List V) : Prop := ∀ H, Ex G H → ∀ ys : List V, (∀ y ∈ ys, y ∈ xs) → ∃ ds, DpAll K H ys ds ∧ SeqAt.shaped (.list ds) = true ∧ ds.length = ys.length
theorem ints_of_sub {ns : List Int} : ∀ {ys : List V}, (∀ y ∈ ys, y ∈ ns.map V.int) → ∃ ms : List Int, ys = ms.map V.int
  | [], _ => ⟨[], rfl⟩
  | y :: ys, h => by
    obtain ⟨ms, rfl⟩ := ints_of_sub (ys := ys) fun y hy => h y (List.mem_cons_of_mem _ hy)
    obtain ⟨m, _, rfl⟩ := List.mem_map.mp (h y List.mem_cons_self)
    exact ⟨m :: ms, rfl⟩
theorem data_ints (K : PySem.W.Frag) (G : Hp) (ns : List Int) : DataOk K G (ns.map V.int) := fun H _ ys h => by
  obtain ⟨ms, rfl⟩ := ints_of_sub h
  exact ⟨_, dp_ints ms, shaped_ints ms, by simp⟩
theorem data_lks {K : PySem.W.Frag} {G : Hp} {xs : List V} {ps : List Pr} (h : Lks G xs ps) : DataOk K G xs := fun H e ys hy => by
  have z : Lks G ys (ys.map (kOf G)) := lks_of fun x hx => (lks_k h).2 x (hy x hx)
  exact ⟨_, dp_lks (z.mono e), shaped_lks _, by simp⟩
theorem eqv_nil (ds : List PyData) : PyData.eqv (.list ds) (.list []) = decide (ds = []) := by
  cases ds with
  | nil => simp [PyData.eqv, PyData.eqvAll]
  | cons d ds => simp [PyData.eqv, PyData.eqvAll]
theorem n_neNil {K : PySem.W.Frag} {G H : Hp} {p q : Addr} {xs ys : List V} {Q : VK} (d : DataOk K G xs) (e : Ex G H) (sub : ∀ y ∈ ys, y ∈ xs) (h1 : SqL K H p ys) (h2 : SqL K H q []) (k : Q (.bl (!decide (ys = []))) H) : rNeD K (.ref p) (.ref q) H Q := by
  obtain ⟨ds, h3, h4, h5⟩ := d H e ys sub
  refine ⟨_, _, .lst h1 h3, .lst h2 .nil, h4, shaped_ints [], ?_⟩
  rw [eqv_nil]
  have z : decide (ds = []) = decide (ys = []) := by
    rw [Bool.eq_iff_iff, decide_eq_true_eq, decide_eq_true_eq, ← List.length_eq_zero_iff, ← List.length_eq_zero_iff, h5]
  rw [z]
  exact k
theorem erase_perm {α : Type} : ∀ {l : List α} {i : Nat} (h : i < l.length), (l[i] :: l.eraseIdx i).Perm l
  | [], _, h => absurd h (Nat.not_lt_zero _)
  | a :: l, 0, _ => List.Perm.refl _
  | a :: l, i + 1, h => by
    have ih := erase_perm (l := l) (i := i) (by simpa using h)
    exact (List.Perm.swap a _ _).trans (ih.cons a)
theorem DataOk.mono {K : PySem.W.Frag} {G H : Hp} {xs : List V} (h : DataOk K G xs) (e : Ex G H) : DataOk K H xs := fun H' e' => h H' (e.trans e')
def spMixed (K : PySem.W.Frag) : Sp := fun vs H Q _ => ∃ (W p : Addr) (a b c : Int) (xs : List V), vs = [.ref W, .ref p] ∧ H W = some (wl a b c) ∧ SqL K (cut H [(W, wl a b c)]) p xs ∧ DataOk K (cut H [(W, wl a b c)]) xs ∧ xs.length ≤ 100000 ∧
  ∀ ys q H' a' b' c', ys.Perm xs → H q = none → Own (cut H [(W, wl a b c)]) [(W, wl a' b' c'), (q, .lst ys)] H' → Q (.ref q) H'
theorem n_mixed {K : PySem.W.Frag} {H G : Hp} {L : List (Addr × HO)} {W p : Addr} {a b c : Int} {xs : List V} {Q : VK} {E : XK} (S : Own G ((W, wl a b c) :: L) H) (hp : SqL K G p xs) (hd : DataOk K G xs) (hz : xs.length ≤ 100000)
    (k : ∀ ys q H1 a' b' c', ys.Perm xs → H q = none → Own G ((W, wl a' b' c') :: (q, .lst ys) :: L) H1 → Q (.ref q) H1) : spMixed K [.ref W, .ref p] H Q E :=
  ⟨W, p, a, b, c, xs, rfl, S.get0, ex_l S.keep hp, hd.mono S.keep, hz, fun ys q H' a' b' c' hy hq T => k ys q H' a' b' c' hy hq (S.back T)⟩
end NX

namespace NX
open PySem PySem.Spec PyProof.Rows L2
open Evl (Ex ex_l ex_t fresh_back)
theorem IsT.tup {K : PySem.W.Frag} {H : Hp} {t : Addr} {xs : List V} (h : H t = some (.tup xs)) : IsT K H (.ref t) "tuple" := ⟨.base (.tup h), by decide +kernel⟩
theorem IsT.lst {K : PySem.W.Frag} {H : Hp} {t : Addr} {xs : List V} (h : H t = some (.lst xs)) : IsT K H (.ref t) "list" := ⟨.base (.lst h), by decide +kernel⟩
theorem n_isiTup {K : PySem.W.Frag} {H : Hp} {t : Addr} {xs : List V} {Q : VK} (h : H t = some (.tup xs)) (k : Q (.bl true) H) : rIsi K [.ref t, .ty "tuple"] H Q := ⟨_, _, _, _, _, rfl, .ty _, .base (.tup h), kit_ty (by decide +kernel), k⟩
theorem n_isiLst {K : PySem.W.Frag} {H : Hp} {t : Addr} {xs : List V} {Q : VK} (h : H t = some (.lst xs)) (k : Q (.bl true) H) : rIsi K [.ref t, .ty "list"] H Q := ⟨_, _, _, _, _, rfl, .ty _, .base (.lst h), kit_ty (by decide +kernel), k⟩
abbrev s_is_link : Stmt := top 9
theorem sc_is_link : FnScope ["value", "stations", "part"] ["value", "stations"] (defScope s_is_link) := ⟨rfl, rfl, rfl, by decide +kernel, rfl, by decide +kernel, by decide +kernel⟩
def spIsLink : Sp := fun vs H Q _ => ∃ (t : Addr) (a b n : Int), vs = [.ref t, .int n] ∧ H t = some (.tup [.int a, .int b]) ∧ (0 ≤ a ∧ a < b ∧ b < n) ∧ ∀ H', Ex H H' → Q (.bl true) H'
section
variable {P : Program} {w : World} {K : PySem.W.Frag} {mg : Str → Option Value} {base : Heap}
theorem ok_is_link {f : Addr} {fd : FuncData} (F : Fun K "is_link" "is_link" s_is_link f fd) (T : Txt mg) (c_is_int : Cal P w K mg base 1 "is_int" ["value"] [] (spIsInt K)) : FnOk P w K mg base CX0 2 f fd ["value", "stations"] spIsLink := by
  refine F.ok sc_is_link (fun vs H Q E h => ?_) (fun cdv A outer s H vs Q E hr h => ?_)
  · obtain ⟨t, a, b, n, rfl, _⟩ := h
    rfl
  · obtain ⟨t, a, b, n, rfl, ht, hb, k⟩ := h
    refine ⟨_, (pss_cons (ps_if (PW.pt (pw_or (pt_not (pt_val (pe_callB call_isi (by rfl) T.n_isinstance (by decide +kernel) (pa_cons (pv 0) (pa_cons (pe_bltn (v := .ty "tuple") (by rfl) T.n_tuple (by decide +kernel) rfl) pa_nil))))) (pw_or (pt_cmpR op_ne (pe_callB call_lenN (by rfl) T.n_len (by decide +kernel) (pa_cons (pv 0) pa_nil)) pe_int (nomark _)) (pw_or1 (pt_not (pt_val (pe_callB (cr_all rfl) (by rfl) T.n_all (by decide +kernel) (pa_cons (pe_lc (own := [("part", 2)]) (by rfl) sc_is_link.nd (pi_tup (pv 0)) (blkOk_by (own := [("part", 2)]) (N := ["value", "stations", "part"]) (sc := defScope s_is_link) (by decide +kernel)) (fun _ _ _ _ _ => (pg_name (i := 2) sc_is_link.nd rfl (Or.inl rfl))) (fun _ _ _ _ _ => pts_nil) (fun _ _ _ _ _ => (pe_cal c_is_int (hr.mono (by first | decide | omega)) passN (pa_cons (pv 2) pa_nil)))) pa_nil)))))))) (pss_one (ps_ret pe_bl)) pss_nil)
      (pss_one (ps_ret (pe_chain3 op_le op_lt op_lt pe_int (pe_ix ix_tup (pv 0) pe_int (fun _ _ => rfl)) (pe_ix ix_tup (pv 0) pe_int (fun _ _ => rfl)) (pv 1))))), ?_⟩
    walk_at "go"
    refine n_isiTup ht ?_
    walk_at "go"
    refine n_lenT (SqT.of ht) ?_
    walk_at "go"
    refine if_ff (by rfl) ?_
    walk_at "go"
    refine v_tup (xs := [.int a, .int b]) (fun i acc G' L' => G' = H ∧ L' = [] ∧ acc = List.replicate i (.bl true)) (Own.start H) (SqT.of ht) (by show 2 ≤ 1000000; decide) ⟨rfl, rfl, rfl⟩ ?_ ?_
    · rintro D i x acc G1 L1 H1 hx hi e hl ⟨rfl, rfl, rfl⟩ S
      obtain ⟨z, rfl⟩ : ∃ z : Int, x = .int z := by
        match i, hx with
        | 0, hx => exact ⟨a, (Option.some.inj hx).symm⟩
        | 1, hx => exact ⟨b, (Option.some.inj hx).symm⟩
        | i + 2, hx => simp at hx
      walk_at "go"
      refine ⟨rfl, ?_⟩
      walk_at "go"
      refine g_isint ?_
      exact c_yes S e hl hi ⟨rfl, rfl, List.replicate_succ'.symm⟩
    · rintro p acc G1 L1 H1 e hl ⟨rfl, rfl, rfl⟩ S
      walk_at "go"
      refine ⟨p, [true, true], rfl, S.l0, ?_⟩
      walk_at "go"
      refine if_ff (by rfl) ?_
      walk_at "go"
      refine g_ixT (i := 0) (S.st (SqT.of ht)) rfl ?_
      walk_at "go"
      refine if_tt (dtrue hb.1) ?_
      walk_at "go"
      refine g_ixT (i := 1) (S.st (SqT.of ht)) rfl ?_
      walk_at "go"
      refine if_tt (dtrue hb.2.1) ?_
      walk_at "go"
      rw [dtrue hb.2.2]
      exact k _ S.ex
end
end NX

namespace NX
open PySem PySem.Spec PyProof.Rows L2
open Evl (Ex ex_l ex_t fresh_back)
/-! ### lists of lists: near -/
def nearL (nps : List Addr) (g : Nat → List Int) : List (Addr × HO) := nps.zipIdx.map fun x => (x.1, .lst ((g x.2).map V.int))
theorem nearL_get {nps : List Addr} {g : Nat → List Int} {i : Nat} {p : Addr} (h : nps[i]? = some p) : (nearL nps g)[i]? = some (p, .lst ((g i).map V.int)) := by
  unfold nearL
  rw [List.getElem?_map, List.getElem?_zipIdx, h]
  simp
theorem nearL_none {nps : List Addr} {g : Nat → List Int} {i : Nat} (h : nps[i]? = none) : (nearL nps g)[i]? = none := by
  unfold nearL
  rw [List.getElem?_map, List.getElem?_zipIdx, h]
  simp
theorem nearL_set {nps : List Addr} {g g' : Nat → List Int} {i : Nat} {p : Addr} (h : nps[i]? = some p) (hg : ∀ j, j ≠ i → g' j = g j) : (nearL nps g).set i (p, .lst ((g' i).map V.int)) = nearL nps g' := by
  refine List.ext_getElem? fun j => ?_
  by_cases c : i = j
  · subst c
    have hl : i < (nearL nps g).length := (List.getElem?_eq_some_iff.mp (nearL_get h)).1
    rw [List.getElem?_set_self hl, nearL_get h]
  · rw [List.getElem?_set_ne c]
    cases q : nps[j]? with
    | none => rw [nearL_none q, nearL_none q]
    | some r => rw [nearL_get q, nearL_get q, hg j (Ne.symm c)]
theorem nearL_snoc (nps : List Addr) (p : Addr) (g : Nat → List Int) : nearL (nps ++ [p]) g = nearL nps g ++ [(p, .lst ((g nps.length).map V.int))] := by
  unfold nearL
  rw [List.zipIdx_append, List.map_append]
  simp
theorem nearL_len (nps : List Addr) (g : Nat → List Int) : (nearL nps g).length = nps.length := by unfold nearL; simp
theorem nb_one_n {n : Nat} {q : Pr} {a b : Nat} (ha : q.1 = (a : Int)) (hb : q.2 = (b : Int)) (hne : a ≠ b) (ks : List Pr) (j : Nat) :
    nb (ks ++ [q]) (j : Int) = if j = a then nb ks (j : Int) ++ [(b : Int)] else if j = b then nb ks (j : Int) ++ [(a : Int)] else nb ks (j : Int) := by
  rw [nb_app, nb_one, ha, hb]
  by_cases h1 : j = a
  · subst h1; simp
  · have h1' : ¬ (a : Int) = (j : Int) := by omega
    rw [if_neg h1', if_neg h1]
    by_cases h2 : j = b
    · subst h2; simp
    · have h2' : ¬ (b : Int) = (j : Int) := by omega
      rw [if_neg h2', if_neg h2, List.append_nil]
theorem pr_take {α β : Type} {F : α → β → Prop} : ∀ {xs : List α} {ys : List β}, Paired F xs ys → ∀ i, Paired F (xs.take i) (ys.take i)
  | _, _, _, 0 => .nil
  | _, _, .nil, i + 1 => .nil
  | _, _, .cons r t, i + 1 => .cons r (pr_take t i)
theorem nodup_take {α : Type} {l : List α} (h : l.Nodup) {i : Nat} {q : α} (e : l[i]? = some q) : q ∉ l.take i := fun m => by
  obtain ⟨j, hj, e2⟩ := List.mem_iff_getElem.mp m
  have hj' : j < i ∧ j < l.length := by rw [List.length_take] at hj; omega
  have e3 : l[j]? = some q := by rw [← e2, List.getElem_take, List.getElem?_eq_getElem hj'.2]
  obtain ⟨h1, q1⟩ := List.getElem?_eq_some_iff.mp e
  obtain ⟨h2, q2⟩ := List.getElem?_eq_some_iff.mp e3
  have z := (List.getElem_inj h).mp (q1.trans q2.symm)
  omega
theorem perm_mid {α : Type} (a b c : α) (l : List α) : (b :: c :: (l ++ [a])).Perm (a :: b :: c :: l) :=
  ((List.perm_append_singleton a (b :: c :: l)))
abbrev s_Network___init__ : Stmt := inClass (top 10) 0
theorem sc_Network___init__ : FnScope ["self", "stations", "links", "index", "link", "one", "other", "station"] ["self", "stations", "links"] (defScope s_Network___init__) := ⟨rfl, rfl, rfl, by decide +kernel, rfl, by decide +kernel, by decide +kernel⟩
def spInit (C : Addr) : Sp := fun vs H Q _ => ∃ (x lp dx : Addr) (n : Nat) (xs : List V) (ps : List Pr) (G : Hp), vs = [.ref x, .int (n : Int), .ref lp] ∧ Own G [(x, .ins C dx [])] H ∧ G lp = some (.lst xs) ∧ Lks G xs ps ∧
  Okl n ps ∧ ps.Nodup ∧ 1 ≤ n ∧ n ≤ 60 ∧ ps.length ≤ 10000 ∧ ∀ H', Ex G H' → NetAt C (nw G H') x n (sortP ps) → Q .non H'
section
variable {P : Program} {w : World} {K : PySem.W.Frag} {mg : Str → Option Value} {base : Heap}
theorem ok_init {f C : Addr} {fd : FuncData} (F : Fun K "__init__" "Network.__init__" s_Network___init__ f fd) (T : Txt mg) (N : NetC K C) (c_is_int : Cal P w K mg base 1 "is_int" ["value"] [] (spIsInt K))
    (c_is_link : Cal P w K mg base 2 "is_link" ["value", "stations"] [] spIsLink) : FnOk P w K mg base CX0 3 f fd ["self", "stations", "links"] (spInit C) := by
  refine F.ok sc_Network___init__ (fun vs H Q E h => ?_) (fun cdv A outer s H vs Q E hr h => ?_)
  · obtain ⟨x, lp, dx, n, xs, ps, G, rfl, _⟩ := h
    rfl
  · obtain ⟨x, lp, dx, n, xs, ps, G, rfl, S0, hlp, hl, hok, hnd, h1, h60, hz, k⟩ := h
    have hu65 : ∀ X : Cx, X.A = A.deeper (envOfC "Network.__init__" (defScope s_Network___init__) s.heap.objs.size f cdv) → X.A.units + 65 < cLine := fun X e => by rw [e]; have := hr.un; omega
    refine ⟨_, (pss_cons (ps_if (PW.pt (pw_or (pt_not (pt_val (pe_cal c_is_int (hr.mono (by first | decide | omega)) passN (pa_cons (pv 1) pa_nil)))) (pw_or (pt_not (pt_chain op_le op_le pe_int (pv 1) (pe_cst (by rfl) T.m_MAX_STATIONS))) (pw_or1 (pt_not (pt_val (pe_callB call_isi (by rfl) T.n_isinstance (by decide +kernel) (pa_cons (pv 2) (pa_cons (pe_bltn (v := .ty "list") (by rfl) T.n_list (by decide +kernel) rfl) pa_nil))))))))) (pss_one ps_never) pss_nil)
      (pss_cons (ps_for PassesOwn.never rfl (pi_enum (by rfl) T.n_enumerate (pa_cons (pv 2) pa_nil)) (pg_tup (n := 2) rfl (pgs_cons (pg_name (i := 3) sc_Network___init__.nd rfl (Or.inl rfl)) (pgs_cons (pg_name (i := 4) sc_Network___init__.nd rfl (Or.inl rfl)) pgs_nil))) (pss_one (ps_if (PW.pt (pw_or (pt_not (pt_val (pe_cal c_is_link (hr.mono (by first | decide | omega)) passN (pa_cons (pv 4) (pa_cons (pv 1) pa_nil))))) (pw_or1 (pt_cmpR (op_inD (hu65 _ rfl)) (pv 4) (pe_slice sl_list (pv 2) po_none (po_some (pv 3))) rfl)))) (pss_one ps_never) pss_nil)))
      (pss_cons (ps_fld (pv 0) (pe_callB cr_sortedPO (by rfl) T.n_sorted (by decide +kernel) (pa_cons (pv 2) pa_nil)) rfl)
      (pss_cons (ps_fld (pv 0) (pe_lc (own := [("station", 7)]) (by rfl) sc_Network___init__.nd (pi_range1 (by rfl) T.n_range (pa_cons (pv 1) pa_nil)) (blkOk_by (own := [("station", 7)]) (N := ["self", "stations", "links", "index", "link", "one", "other", "station"]) (sc := defScope s_Network___init__) (by decide +kernel)) (fun _ _ _ _ _ => (pg_name (i := 7) sc_Network___init__.nd rfl (Or.inl rfl))) (fun _ _ _ _ _ => pts_nil) (fun _ _ _ _ _ => (pe_lst pa_nil))) rfl)
      (pss_one (ps_for PassesOwn.never rfl (pi_list (pe_fld (pv 0) rfl)) (pg_tup (n := 2) rfl (pgs_cons (pg_name (i := 5) sc_Network___init__.nd rfl (Or.inl rfl)) (pgs_cons (pg_name (i := 6) sc_Network___init__.nd rfl (Or.inl rfl)) pgs_nil))) (pss_cons (ps_expr (pe_bm PySem.F.plainAttrs_list PySem.F.slot_list_append PySem.F.type_list_append mt_append (pe_ix ix_list (pe_fld (pv 0) rfl) (pv 5) (fun _ _ => rfl)) (pa_cons (pv 6) pa_nil)))
      (pss_one (ps_expr (pe_bm PySem.F.plainAttrs_list PySem.F.slot_list_append PySem.F.type_list_append mt_append (pe_ix ix_list (pe_fld (pv 0) rfl) (pv 6) (fun _ _ => rfl)) (pa_cons (pv 5) pa_nil))))))))))), ?_⟩
    walk_at "go"
    refine g_isint ?_
    walk_at "go"
    refine if_tt (dtrue (by omega)) ?_
    walk_at "go"
    refine if_ff (ntrue (by omega)) ?_
    walk_at "go"
    refine n_isiLst (S0.ex _ _ hlp) ?_
    walk_at "go"
    refine w_enum (fun i σ' H' => (∃ x1 x2 x3 x4 x5, σ' = [some (.ref x), some (.int (n : Int)), some (.ref lp), x1, x2, x3, x4, x5]) ∧ ∃ G', Ex G G' ∧ Own G' [(x, .ins C dx [])] H') (SqL.of (S0.ex _ _ hlp)) ⟨⟨_, _, _, _, _, rfl⟩, G, Ex.refl G, S0⟩ (fun i σ' H' ⟨_, G', e, S⟩ => SqL.of (S.ex _ _ (e _ _ hlp))) ?_ ?_
    · rintro i y T σ' H' hy ⟨⟨x1, x2, x3, x4, x5, rfl⟩, G', e, S⟩ hT
      obtain ⟨q, hq, t, rfl, ht⟩ := pr_get hl hy
      have hb := hok q (List.mem_of_getElem? hq)
      have S1 := (S.still (o := .tup [.int (i : Int), .ref t]) hT).1
      have e1 := e.trans (S.still (o := .tup [.int (i : Int), .ref t]) hT).2.1
      refine s_gtup (SqT.of upd_same) rfl ?_
      walk_at "go"
      refine ⟨t, q.1, q.2, n, rfl, S1.ex _ _ (e1 _ _ ht), hb, fun H2 e2 => ?_⟩
      have S2 := S1.grow e2
      walk_at "go"
      refine n_sl S2 (SqL.of (S2.ex _ _ (e1 _ _ hlp))) fun p G3 H3 _ e3 _ hp S3 => ?_
      have e13 := e1.trans e3
      rw [cutV_to] at hp
      have hlt : Lks G (xs.take i) (ps.take i) := by
        have z := hl
        exact pr_take z i
      refine ⟨pd q, (ps.take i).map pd, dp_pr ⟨t, rfl, S3.ex _ _ (e13 _ _ ht)⟩, .lst (SqL.of (S3.ex _ _ hp)) (dp_lks (hlt.mono (e13.trans S3.ex))), shaped_pd q, shaped_lks _, ?_⟩
      rw [any_pd, dfalse (nodup_take hnd hq)]
      walk_at "go"
      exact ⟨⟨_, _, _, _, _, rfl⟩, G3, e13, S3⟩
    · rintro σ' H' ⟨⟨x1, x2, x3, x4, x5, rfl⟩, G1, e1, S1⟩
      walk_at "go"
      refine n_sortP S1 (SqL.of (S1.ex _ _ (e1 _ _ hlp))) (e1.trans S1.ex) hl fun kp ys G2 H2 hkp e2 e2' hk2 hl2 S2 => ?_
      walk_at "go"
      refine n_setF S2 N.cl N.nK (by decide) fun H3 S3 => ?_
      walk_at "go"
      refine v_rng1 (j := (n : Int)) (fun i acc G' L' => G' = G2 ∧ ∃ nps : List Addr, nps.length = i ∧ acc = nps.map V.ref ∧ L' = (x, .ins C dx (putF "kept" (.ref kp) [])) :: nearL nps fun _ => []) S3 (by omega) ⟨rfl, [], rfl, rfl, rfl⟩ ?_ ?_
      · rintro D i acc G' L' H4 hi hi' e4 hl4 ⟨rfl, nps, rfl, rfl, rfl⟩ S4
        walk_at "go"
        refine ⟨rfl, ?_⟩
        walk_at "go"
        refine n_lst S4 (by decide) fun p H5 hp S5 => ?_
        refine c_yes (acc := nps.map V.ref) (L1 := (x, .ins C dx (putF "kept" (.ref kp) [])) :: nearL (nps ++ [p]) fun _ => []) (S5.perm ?_) e4 (by rw [List.length_map]; exact Nat.le_refl _) hi' ⟨rfl, nps ++ [p], by rw [List.length_append]; rfl, by rw [List.map_append] <;> rfl, rfl⟩
        rw [nearL_snoc]
        exact (perm_mid _ _ _ _)
      · rintro np acc G' L' H4 e4 _ ⟨rfl, nps, hlen, rfl, rfl⟩ S4
        have hlen : nps.length = n := by omega
        walk_at "go"
        refine n_setF S4.swap N.cl N.nN (by show 1 < 1000; decide) fun H5 S5 => ?_
        obtain ⟨S6, e6, hnp⟩ := S5.swap.freeze
        have hnG : Ex G (upd G' np (.lst (nps.map V.ref))) := (e1.trans e2).trans e6
        generalize upd G' np (.lst (nps.map V.ref)) = G6 at S6 e6 hnp hnG
        have hkp6 := e6 _ _ hk2
        walk_at "go"
        refine n_fld S6.get0 N.cl N.nK (nf_kept kp np) ?_
        refine w_list (xs := ys) (fun i σ' H' => (∃ x1 x2 x3 x4 x5, σ' = [some (.ref x), some (.int (n : Int)), some (.ref lp), x1, x2, x3, x4, x5]) ∧ Own G6 ((x, .ins C dx (NF kp np)) :: nearL nps fun j => nb ((sortP ps).take i) (j : Int)) H') (SqL.of (S6.ex _ _ hkp6)) ⟨⟨_, _, _, _, _, rfl⟩, S6⟩ (fun i σ' H' h => SqL.of (h.2.ex _ _ hkp6)) ?_ ?_
        · rintro i y σ' H' hy ⟨⟨x1, x2, x3, x4, x5, rfl⟩, S⟩
          obtain ⟨q, hq, t, rfl, ht⟩ := pr_get hl2 hy
          have hb := (hok.sort) q (List.mem_of_getElem? hq)
          have ht6 : G6 t = some (.tup [.int q.1, .int q.2]) := hnG _ _ ht
          obtain ⟨a, ha⟩ : ∃ a : Nat, q.1 = (a : Int) := ⟨q.1.toNat, by omega⟩
          obtain ⟨b, hbq⟩ : ∃ b : Nat, q.2 = (b : Int) := ⟨q.2.toNat, by omega⟩
          have hab : a ≠ b := by omega
          obtain ⟨pa, hpa⟩ : ∃ p, nps[a]? = some p := ⟨_, List.getElem?_eq_getElem (by omega)⟩
          obtain ⟨pb, hpb⟩ : ∃ p, nps[b]? = some p := ⟨_, List.getElem?_eq_getElem (by omega)⟩
          have hz2 : ∀ j : Nat, (nb ((sortP ps).take i) (j : Int)).length ≤ 10000 := fun j => Nat.le_trans (List.length_filterMap_le _ _) (by rw [List.length_take, sortP_len]; omega)
          refine s_gtup (S.st (SqT.of ht6)) rfl ?_
          walk_at "go"
          refine n_fld S.get0 N.cl N.nN (nf_near kp np) ?_
          walk_at "go"
          rw [ha]
          refine g_ixL (SqL.of (S.ex _ _ hnp)) (atI_nat (j := a) (v := .ref pa) (by rw [List.getElem?_map, hpa] <;> rfl)) ?_
          have ea : ((x, HO.ins C dx (NF kp np)) :: nearL nps fun j => nb ((sortP ps).take i) (j : Int))[a + 1]? = some (pa, .lst ((nb ((sortP ps).take i) (a : Int)).map V.int)) := nearL_get hpa
          refine ⟨tyL (SqL.of (S.getM (List.mem_of_getElem? ea))), ?_⟩
          walk_at "go"
          refine n_appM S ea (by rw [List.length_map]; have := hz2 a; omega) fun H7 S7 => ?_
          have eset : ((x, HO.ins C dx (NF kp np)) :: nearL nps fun j => nb ((sortP ps).take i) (j : Int)).set (a + 1) (pa, .lst ((nb ((sortP ps).take i) (a : Int)).map V.int ++ [.int q.2])) =
              (x, HO.ins C dx (NF kp np)) :: nearL nps fun j => if j = a then nb ((sortP ps).take i) (j : Int) ++ [q.2] else nb ((sortP ps).take i) (j : Int) := by
            show (x, HO.ins C dx (NF kp np)) :: (nearL nps fun j => nb ((sortP ps).take i) (j : Int)).set a _ = _
            have e := nearL_set (g := fun j => nb ((sortP ps).take i) (j : Int)) (g' := fun j => if j = a then nb ((sortP ps).take i) (j : Int) ++ [q.2] else nb ((sortP ps).take i) (j : Int)) hpa (fun j hj => if_neg hj)
            rw [← e]
            simp
          rw [eset] at S7
          walk_at "go"
          refine n_fld S7.get0 N.cl N.nN (nf_near kp np) ?_
          walk_at "go"
          rw [hbq]
          refine g_ixL (SqL.of (S7.ex _ _ hnp)) (atI_nat (j := b) (v := .ref pb) (by rw [List.getElem?_map, hpb] <;> rfl)) ?_
          have eb : ((x, HO.ins C dx (NF kp np)) :: nearL nps fun j => if j = a then nb ((sortP ps).take i) (j : Int) ++ [q.2] else nb ((sortP ps).take i) (j : Int))[b + 1]? = some (pb, .lst ((nb ((sortP ps).take i) (b : Int)).map V.int)) := by
            have z := nearL_get (g := fun j => if j = a then nb ((sortP ps).take i) (j : Int) ++ [q.2] else nb ((sortP ps).take i) (j : Int)) hpb
            rw [if_neg (Ne.symm hab)] at z
            exact z
          refine ⟨tyL (SqL.of (S7.getM (List.mem_of_getElem? eb))), ?_⟩
          walk_at "go"
          refine n_appM S7 eb (by rw [List.length_map]; have := hz2 b; omega) fun H8 S8 => ?_
          have etk : (sortP ps).take (i + 1) = (sortP ps).take i ++ [q] := take_snoc hq
          have eset2 : ((x, HO.ins C dx (NF kp np)) :: nearL nps fun j => if j = a then nb ((sortP ps).take i) (j : Int) ++ [q.2] else nb ((sortP ps).take i) (j : Int)).set (b + 1) (pb, .lst ((nb ((sortP ps).take i) (b : Int)).map V.int ++ [.int q.1])) =
              (x, HO.ins C dx (NF kp np)) :: nearL nps fun j => nb ((sortP ps).take (i + 1)) (j : Int) := by
            show (x, HO.ins C dx (NF kp np)) :: (nearL nps fun j => if j = a then nb ((sortP ps).take i) (j : Int) ++ [q.2] else nb ((sortP ps).take i) (j : Int)).set b _ = _
            have e := nearL_set (g := fun j => if j = a then nb ((sortP ps).take i) (j : Int) ++ [q.2] else nb ((sortP ps).take i) (j : Int)) (g' := fun j => nb ((sortP ps).take (i + 1)) (j : Int)) hpb (fun j hj => by
              rw [etk, nb_one_n (n := n) ha hbq hab, if_neg hj, ← hbq])
            rw [← e]
            simp only [etk]
            rw [nb_one_n (n := n) ha hbq hab, if_neg (Ne.symm hab), if_pos rfl]
            simp [ha]
          rw [ha] at eset2
          rw [eset2] at S8
          walk_at "go"
          exact ⟨⟨_, _, _, _, _, rfl⟩, S8⟩
        · rintro σ' H' ⟨_, S⟩
          rw [(pr_len hl2), List.take_length] at S
          walk_at "go"
          have new : ∀ a : Addr, G a = none → nw G H' a = H' a := fun a h => nw_new h
          refine k H' (hnG.trans S.ex) ⟨⟨dx, kp, np, ys, nps, ?_⟩, hok.sort, sortP_up _, (sortP_perm ps).nodup_iff.mpr hnd, h1, h60⟩
          have hx0 : G x = none := S0.no0
          have hk0 : G kp = none := fresh_back (e1.trans S1.ex) hkp
          have hn0 : G np = none := fresh_back (e1.trans e2) S4.no0
          refine ⟨(new x hx0).trans S.get0, (new kp hk0).trans (S.ex _ _ hkp6), Paired.mapP hl2 fun y q ⟨t, e, ht⟩ => ⟨t, e, (nw_tup ht rfl).trans (S.ex _ _ (hnG _ _ ht))⟩, (new np hn0).trans (S.ex _ _ hnp), hlen, fun i p hp => ?_⟩
          have m := List.mem_cons_of_mem (x, HO.ins C dx (NF kp np)) (List.mem_of_getElem? (nearL_get (g := fun j => nb (sortP ps) (j : Int)) hp))
          exact (new p (fresh_back hnG (S.at_ _ m).1)).trans (S.at_ _ m).2
end
end NX

namespace NX
open PySem PySem.Spec PyProof.Rows L2
open Evl (Ex ex_l ex_t fresh_back)
/-! ### len, ==, != of networks -/
section
variable {X : Cx}
/-- a def runs below the running body -/
theorem run_at {A : Around} {CX : CXT} {k : Nat} {f : Addr} {fd : FuncData} {ps : List Str} {sp : Sp} {E : XK} {pins : List (Addr × Obj)} {σ : L2.St} {H : Hp} {s : Shared} {Q : VK} {us : List Value} {vs : List V} (sb : L2.Sub X k A)
    (F : FnOk X.prog X.w X.K X.mg X.base CX k f fd ps sp) (hb : Binds X.K fd ps []) (hx : Passes CX X E) (I : L2.Inv X pins σ H s) (r : Vals vs us) (h : sp vs H Q E) :
    wpAny (model X.prog X.w) A (call (.ref f) us) (EP X pins σ Q) X.xe s := by
  have e0 : Env0 X.prog X.w X.K X.mg X.base A X.stack s H := by
    have e := I.env0
    exact ⟨by rw [sb.fr]; exact e.frames, e.mod, e.bs, e.bsz, e.funs, e.frf, e.hok, e.bare⟩
  have hl := F.len _ _ _ _ h
  refine wpAny_call (codeAny_mono (F.run A X.stack s H ⟨us, []⟩ us vs Q E sb.room e0 (by
    have := hb s us I.kIn (by rw [List.append_nil, ← r.length]; exact hl)
    simpa using this) r h) fun r s' hq => ?_)
  cases r with
  | error e => exact hx pins σ H s e s' I hq
  | ok fl =>
    cases fl with
    | ret w => exact I.after hq
    | next => exact False.elim hq
    | brk => exact False.elim hq
    | cont => exact False.elim hq
def spLen (C : Addr) : Sp := fun vs H Q _ => ∃ (a : Addr) (n : Nat) (ks : List Pr), vs = [.ref a] ∧ NetAt C H a n ks ∧ Q (.int (n : Int)) H
def spEqN (C : Addr) : Sp := fun vs H Q _ => ∃ (a b : Addr) (n m : Nat) (ks ls : List Pr), vs = [.ref a, .ref b] ∧ NetAt C H a n ks ∧ NetAt C H b m ls ∧ ∀ H', Ex H H' → Q (.bl (decide (n = m ∧ ks = ls))) H'
def rLenNet (C : Addr) : List V → Hp → VK → Prop := fun xs H Q => ∃ (a : Addr) (n : Nat) (ks : List Pr), xs = [.ref a] ∧ NetAt C H a n ks ∧ Q (.int (n : Int)) H
def rEqNet (C : Addr) : R2 := fun x y H Q => ∃ (a b : Addr) (n m : Nat) (ks ls : List Pr), x = .ref a ∧ y = .ref b ∧ NetAt C H a n ks ∧ NetAt C H b m ls ∧ ∀ H', Ex H H' → Q (.bl (decide (n = m ∧ ks = ls))) H'
def rNeNet (C : Addr) : R2 := fun x y H Q => ∃ (a b : Addr) (n m : Nat) (ks ls : List Pr), x = .ref a ∧ y = .ref b ∧ NetAt C H a n ks ∧ NetAt C H b m ls ∧ ∀ H', Ex H H' → Q (.bl (!decide (n = m ∧ ks = ls))) H'
theorem inst_net {pins : List (Addr × Obj)} {σ : L2.St} {H : Hp} {s : Shared} {C a : Addr} {n : Nat} {ks : List Pr} (I : L2.Inv X pins σ H s) (N : NetAt C H a n ks) : ∃ dx od, PySem.W.InstAt s.heap a (PySem.W.instObj C dx) C od := by
  obtain ⟨dx, kp, np, xs, nps, o⟩ := N.at_
  obtain ⟨mA, J, _⟩ := ins_get I.hok o.ins
  obtain ⟨od, J, _⟩ := J.look
  exact ⟨_, _, J⟩
theorem call_lenNet {C : Addr} {k : Nat} (_NC : NetC X.K C) (M : Mth X.prog X.w X.K X.mg X.base k C "__len__" ["self"] (spLen C)) (hr : Room (k + 1) X.A) : CallR X (.builtin "len") (rLenNet C) := by
  intro pins s σ H xs us Q I r h
  obtain ⟨a, n, ks, rfl, N, q⟩ := h
  obtain ⟨f, fd, hm, F, hb⟩ := M
  obtain ⟨u, rfl, ru⟩ := vals1 r
  obtain rfl : u = Value.ref a := ru
  obtain ⟨dx, od, J⟩ := inst_net I N
  obtain ⟨m, hF⟩ := I.fr
  refine PySem.W.len_K hF I.ok.mod.kin J hm.at_ hm.fn (wpAny_mono (run_at (L2.Sub.in1 ⟨hr, rfl⟩) F hb passN I r (Q := fun v H' => v = .int (n : Int) ∧ Q (.int (n : Int)) H') ⟨a, n, ks, rfl, N, rfl, q⟩) (fun v s' z => ?_) fun _ _ z => z)
  obtain ⟨w, H', I', rv, rfl, q'⟩ := z
  obtain ⟨t, rfl⟩ := rv
  refine ⟨⟨by omega, ?_⟩, ⟨V.int (n : Int), H', I'.tok _, ⟨_, rfl⟩, q'⟩⟩
  have := N.sz.2
  omega
theorem notFirst_self {K : PySem.W.Frag} {C : Addr} : PySem.W.notFirst K C (.ref C) = true := by simp [PySem.W.notFirst]
theorem op_eqNet {C : Addr} {k : Nat} (_NC : NetC X.K C) (M : Mth X.prog X.w X.K X.mg X.base k C "__eq__" ["self", "other"] (spEqN C)) (hr : Room (k + 1) X.A) : OpR X (compareOp .Eq) (rEqNet C) := by
  intro pins s σ H x y v u Q I rx ry h
  obtain ⟨a, b, n, m, ks, ls, rfl, rfl, N1, N2, q⟩ := h
  cases rx
  cases ry
  obtain ⟨f, fd, hm, F, hb⟩ := M
  obtain ⟨dx, od, J⟩ := inst_net I N1
  obtain ⟨dy, oe, J'⟩ := inst_net I N2
  obtain ⟨mm, hF⟩ := I.fr
  show wpAny (model X.prog X.w) X.A (richCompare .Eq (.ref a) (.ref b)) (EP X pins σ Q) X.xe s
  have hr0 : Room k X.A := hr.mono (Nat.le_succ k)
  refine PySem.W.cmp_K (op := .Eq) (tb := .ref C) hr.units0 hF I.ok.mod.kin J J'.type notFirst_self hm.at_ hm.fn (wpAny_mono (run_at ⟨hr0, rfl⟩ F hb passN I (vs := [V.ref a, V.ref b]) (.cons rfl (.cons rfl .nil)) (Q := fun v H' => v = .bl (decide (n = m ∧ ks = ls)) ∧ Q v H')
    ⟨a, b, n, m, ks, ls, rfl, N1, N2, fun H' e => ⟨rfl, q H' e⟩⟩) (fun v s' z => ?_) fun _ _ z => z)
  obtain ⟨w, H', I', rv, rfl, q'⟩ := z
  cases rv
  exact ⟨V.bl (decide (n = m ∧ ks = ls)), H', I', rfl, q'⟩
theorem op_neNet {C : Addr} {k : Nat} (NC : NetC X.K C) (M : Mth X.prog X.w X.K X.mg X.base k C "__eq__" ["self", "other"] (spEqN C)) (hr : Room (k + 1) X.A) : OpR X (compareOp .NotEq) (rNeNet C) := by
  intro pins s σ H x y v u Q I rx ry h
  obtain ⟨a, b, n, m, ks, ls, rfl, rfl, N1, N2, q⟩ := h
  cases rx
  cases ry
  obtain ⟨f, fd, hm, F, hb⟩ := M
  obtain ⟨dx, od, J⟩ := inst_net I N1
  obtain ⟨dy, oe, J'⟩ := inst_net I N2
  obtain ⟨mm, hF⟩ := I.fr
  show wpAny (model X.prog X.w) X.A (richCompare .NotEq (.ref a) (.ref b)) (EP X pins σ Q) X.xe s
  refine ne_K (tb := .ref C) (hu_of hr) hF I.ok.mod.kin J J'.type notFirst_self NC.ne NC.hm hm.at_ hm.fn (wpAny_mono (run_at (L2.Sub.in1 ⟨hr, rfl⟩) F hb passN I (vs := [V.ref a, V.ref b]) (.cons rfl (.cons rfl .nil)) (Q := fun v H' => v = .bl (decide (n = m ∧ ks = ls)) ∧ Q (.bl (!decide (n = m ∧ ks = ls))) H')
    ⟨a, b, n, m, ks, ls, rfl, N1, N2, fun H' e => ⟨rfl, q H' e⟩⟩) (fun v s' z => ?_) fun _ _ z => z)
  obtain ⟨w, H', I', rv, rfl, q'⟩ := z
  cases rv
  exact ⟨_, rfl, ⟨V.bl (!decide (n = m ∧ ks = ls)), H', I', rfl, q'⟩⟩
end
section
variable {C a b lp : Addr} {n m : Nat} {ks ls ps : List Pr} {G H : Hp} {L : List (Addr × HO)} {Q : VK} {E : XK} {xs : List V}
theorem n_lenNet (N : NetAt C H a n ks) (k : Q (.int (n : Int)) H) : rLenNet C [.ref a] H Q := ⟨a, n, ks, rfl, N, k⟩
theorem n_eqNet (S : Own G L H) (N1 : NetAt C G a n ks) (N2 : NetAt C G b m ls) (k : ∀ H1, Own G L H1 → Q (.bl (decide (n = m ∧ ks = ls))) H1) : rEqNet C (.ref a) (.ref b) H Q := ⟨a, b, n, m, ks, ls, rfl, rfl, N1.mono S.ex, N2.mono S.ex, fun H' e => k H' (S.grow e)⟩
theorem n_neNet (S : Own G L H) (N1 : NetAt C G a n ks) (N2 : NetAt C G b m ls) (k : ∀ H1, Own G L H1 → Q (.bl (!decide (n = m ∧ ks = ls))) H1) : rNeNet C (.ref a) (.ref b) H Q := ⟨a, b, n, m, ks, ls, rfl, rfl, N1.mono S.ex, N2.mono S.ex, fun H' e => k H' (S.grow e)⟩
theorem NetAt.ins (N : NetAt C H a n ks) {m : Str} (h1 : ¬ m = "near") (h2 : ¬ m = "kept") : INS C m (.ref a) H := by
  obtain ⟨dx, kp, np, xs, nps, o⟩ := N.at_
  exact ⟨a, dx, _, rfl, o.ins, nf_no kp np h1 h2⟩
/-- Network(n, links) -/
theorem n_netN (hlp : H lp = some (.lst xs)) (hl : Lks H xs ps) (hok : Okl n ps) (hnd : ps.Nodup) (hn : 1 ≤ n ∧ n ≤ 60) (hz : ps.length ≤ 10000)
    (k : ∀ x H1, H x = none → Ex H H1 → NetAt C (nw H H1) x n (sortP ps) → Q (.ref x) H1) : MAKE C (spInit C) E [.int (n : Int), .ref lp] H Q := by
  intro x dx hx hdx ne
  have hx' : upd H dx (.own x) x = none := by rw [upd_ne (Ne.symm ne)]; exact hx
  have e1 : Ex H (upd H dx (.own x)) := Ex.new hdx
  exact ⟨x, lp, dx, n, xs, ps, upd H dx (.own x), rfl, (Own.start _).lay hx', e1 _ _ hlp, hl.mono e1, hok, hnd, hn.1, hn.2, hz, fun H' e N => ⟨rfl, k x H' hx (e1.trans e) (N.mono (nw_mono e1))⟩⟩
theorem n_net (S : Own G L H) (hlp : H lp = some (.lst xs)) (hl : Lks H xs ps) (hok : Okl n ps) (hnd : ps.Nodup) (hn : 1 ≤ n ∧ n ≤ 60) (hz : ps.length ≤ 10000)
    (k : ∀ x G1 H1, H x = none → Ex G G1 → Ex H H1 → Own G1 L H1 → NetAt C G1 x n (sortP ps) → Q (.ref x) H1) : MAKE C (spInit C) E [.int (n : Int), .ref lp] H Q :=
  n_netN hlp hl hok hnd hn hz fun x H1 hx e N => by
    obtain ⟨S1, e2, e3⟩ := S.absorb e
    exact k x _ H1 hx e2 e S1 (N.mono e3)
end
end NX

namespace NX
open PySem PySem.Spec PyProof.Rows L2
open Evl (Ex ex_l ex_t fresh_back)
theorem lks_nw {H H' : Hp} (e : Ex H H') {xs : List V} {ks : List Pr} (h : Lks H xs ks) : Lks (nw H H') xs ks := Paired.mapP h fun _ _ ⟨t, a, b⟩ => ⟨t, a, by rw [nw_tup b rfl]; exact e _ _ b⟩
abbrev s_Network_links : Stmt := inClass (top 10) 1
theorem sc_Network_links : FnScope ["self"] ["self"] (defScope s_Network_links) := ⟨rfl, rfl, rfl, by decide +kernel, rfl, by decide +kernel, by decide +kernel⟩
abbrev s_Network_check_station : Stmt := inClass (top 10) 5
theorem sc_Network_check_station : FnScope ["self", "station"] ["self", "station"] (defScope s_Network_check_station) := ⟨rfl, rfl, rfl, by decide +kernel, rfl, by decide +kernel, by decide +kernel⟩
def spLinks (C : Addr) : Sp := fun vs H Q _ => ∃ (a : Addr) (n : Nat) (ks : List Pr), vs = [.ref a] ∧ NetAt C H a n ks ∧ ∀ xs, Lks H xs ks → Ret (.lst xs) H Q
/-- the station is one -/
def spChk (C : Addr) : Sp := fun vs H Q _ => ∃ (a : Addr) (n : Nat) (ks : List Pr) (i : Int), vs = [.ref a, .int i] ∧ NetAt C H a n ks ∧ (0 ≤ i ∧ i < (n : Int)) ∧ ∀ H', Ex H H' → Q .non H'
section
variable {C : Addr} {G H : Hp} {L : List (Addr × HO)} {a : Addr} {n : Nat} {ks : List Pr} {Q : VK} {E : XK}
theorem n_links (S : Own G L H) (N : NetAt C G a n ks) (k : ∀ xs p G1 H1, Lks G1 xs ks → H p = none → Ex G G1 → Ex H H1 → G1 p = some (.lst xs) → Own G1 L H1 → Q (.ref p) H1) : spLinks C [.ref a] H Q E :=
  ⟨a, n, ks, rfl, N.mono S.ex, fun xs hx p H' hp e h => by
    obtain ⟨S1, e1, e2⟩ := S.absorb e
    exact k xs p _ H' ((lks_nw e hx).mono e2) hp e1 e (e2 _ _ ((nw_new hp).trans h)) S1⟩
theorem n_linksO (S : Own G L H) (N : NetAt C G a n ks) (k : ∀ xs p G1 H1, Lks G1 xs ks → H p = none → Ex G G1 → Ex H H1 → Own G1 ((p, .lst xs) :: L) H1 → Q (.ref p) H1) : spLinks C [.ref a] H Q E :=
  n_links S N fun xs p G1 H1 hl hp e1 e2 h S1 => by
    obtain ⟨S2, k2⟩ := S1.thaw h
    refine k xs p _ H1 (Paired.mapP hl fun _ _ ⟨t, b, c⟩ => ⟨t, b, k2 _ _ (fun z => ?_) c⟩) hp (fun b u hb => k2 _ _ (ne_of_none hb (fresh_back S.ex hp)) (e1 _ _ hb)) e2 S2
    rw [z, h] at c
    cases c
theorem n_chk {i : Int} (S : Own G L H) (N : NetAt C G a n ks) (h : 0 ≤ i ∧ i < (n : Int)) (k : ∀ H1, Ex H H1 → Own G L H1 → Q .non H1) : spChk C [.ref a, .int i] H Q E :=
  ⟨a, n, ks, i, rfl, N.mono S.ex, h, fun H' e => k H' e (S.grow e)⟩
end
section
variable {P : Program} {w : World} {K : PySem.W.Frag} {mg : Str → Option Value} {base : Heap} {C : Addr}
theorem ok_links {f : Addr} {fd : FuncData} (F : Fun K "links" "Network.links" s_Network_links f fd) (T : Txt mg) (NC : NetC K C) : FnOk P w K mg base CX0 1 f fd ["self"] (spLinks C) := by
  refine F.ok sc_Network_links (fun vs H Q E h => ?_) (fun cdv A outer s H vs Q E hr h => ?_)
  · obtain ⟨a, n, ks, rfl, _⟩ := h
    rfl
  · obtain ⟨a, n, ks, rfl, N, k⟩ := h
    obtain ⟨dx, kp, np, xs, nps, o⟩ := N.at_
    refine ⟨_, (pss_one (ps_ret (pe_callTy call_listN (by rfl) T.n_list (by decide +kernel) (pa_cons (pe_fld (pv 0) rfl) pa_nil)))), ?_⟩
    walk_at "go"
    refine n_fld o.ins NC.cl NC.nK (nf_kept kp np) ?_
    walk_at "go"
    exact ⟨kp, xs, rfl, .inl (SqL.of o.kept), fun p hp => k xs o.lks p _ hp (Ex.new hp) upd_same⟩
theorem ok_chk {f : Addr} {fd : FuncData} (F : Fun K "check_station" "Network.check_station" s_Network_check_station f fd) (T : Txt mg) (NC : NetC K C) (c_is_int : Cal P w K mg base 1 "is_int" ["value"] [] (spIsInt K)) : FnOk P w K mg base CX0 2 f fd ["self", "station"] (spChk C) := by
  refine F.ok sc_Network_check_station (fun vs H Q E h => ?_) (fun cdv A outer s H vs Q E hr h => ?_)
  · obtain ⟨a, n, ks, i, rfl, _⟩ := h
    rfl
  · obtain ⟨a, n, ks, i, rfl, N, hi, k⟩ := h
    obtain ⟨dx, kp, np, xs, nps, o⟩ := N.at_
    refine ⟨_, (pss_one (ps_if (PW.pt (pw_or (pt_not (pt_val (pe_cal c_is_int (hr.mono (by first | decide | omega)) passN (pa_cons (pv 1) pa_nil)))) (pw_or1 (pt_not (pt_chain op_le op_lt pe_int (pv 1) (pe_callB call_lenN (by rfl) T.n_len (by decide +kernel) (pa_cons (pe_fld (pv 0) rfl) pa_nil))))))) (pss_one ps_never) pss_nil)), ?_⟩
    walk_at "go"
    refine g_isint ?_
    walk_at "go"
    refine if_tt (dtrue (by omega)) ?_
    walk_at "go"
    refine n_fld o.ins NC.cl NC.nN (nf_near kp np) ?_
    walk_at "go"
    refine n_len (SqL.of o.near) ?_
    rw [List.length_map, o.len]
    walk_at "go"
    refine if_ff (ntrue (by omega)) ?_
    walk_at "go"
    exact k H (Ex.refl H)
end
end NX

namespace NX
open PySem PySem.Spec PySem.Calls PyProof.Rows L2
open Evl (Ex ex_l ex_t fresh_back)
/-! ### min and max of a tuple of numbers -/
section
variable {prog : Program} {w : World} {A : Around} {E : Value → Shared → Prop} {s : Shared} {l : Addr} {its : List Value} {ns : List Int} {Q : Value → Shared → Prop}
theorem best_of {f : Nat → Nat → Bool} (ht : s.heap.IsTuple l its.toArray) {c : Addr} {h' : Heap}
    (hk : ∀ b o, b ∉ [s.heap.objs.size] → (s.heap.push { cls := .type "tuple_iterator", data := .fields #[.ref l, .int 0 0] }).get? b = some o → h'.get? b = some o) : ∀ b o, s.heap.get? b = some o → h'.get? b = some o := fun b o e =>
  hk b o (fun m => Nat.lt_irrefl _ ((List.mem_singleton.mp m) ▸ Heap.lt_size e)) (Heap.get?_push_of_some _ e)
theorem fp_ok (ht : s.heap.IsTuple l its.toArray) : ∀ b ∈ [s.heap.objs.size, l], b < (s.heap.push { cls := .type "tuple_iterator", data := .fields #[.ref l, .int 0 0] }).objs.size := fun b hb => by
  have hl : l < s.heap.objs.size := by obtain ⟨_, e, _⟩ := ht; exact Heap.lt_size e
  rw [Heap.size_push]
  simp only [List.mem_cons, List.not_mem_nil, or_false] at hb
  rcases hb with rfl | rfl
  · exact Nat.lt_succ_self _
  · exact Nat.lt_succ_of_lt hl
theorem minT_raw (hh : A.handled = none) (ht : s.heap.IsTuple l its.toArray) (hi : IntsAre its ns) (hne : 0 < ns.length)
    (h : ∀ h' tk M t', (∀ b o, s.heap.get? b = some o → h'.get? b = some o) → M ∈ ns → (∀ a, a ∈ ns → M ≤ a) → Q (.int M t') { s with heap := h', toks := tk }) : wpAny (model prog w) A (call (.builtin "min") [.ref l]) Q E s := by
  have hl : l ≠ s.heap.objs.size := by obtain ⟨_, e, _⟩ := ht; exact Nat.ne_of_lt (Heap.lt_size e)
  have fp := fp_ok ht
  have ht0 := ht
  obtain ⟨xs, e⟩ := (hi.allInts).items
  have hn : numsOf (intItems xs).toList = ns := e ▸ hi.numsOf
  rw [nums_intItems] at hn
  rw [e] at ht
  subst hn
  have hsz : 0 < (intItems xs).size := by unfold intItems; simpa using hne
  refine call_min_walk (wpAny_pyIter_tuple ht ⟨_, _, _, _, _, _, _, rfl, Walks.tuple (A := A.in1) hh _ l hl (intItems xs), ⟨⟨_, Heap.get?_push_size _ rfl, rfl, rfl⟩, ht.push _⟩, fp, hsz, CmpOf.ints_lt (numAt xs) (fun _ _ => intItems_at), fun v h' tk hP hk => ?_⟩)
  obtain ⟨t, rfl⟩ := intItems_at hP
  have hsz2 : (intItems xs).size = xs.size := by unfold intItems; simp
  rw [hsz2] at hsz ⊢
  have hb := argBest_lt (numAt xs) (xs.size - 1)
  refine h h' tk _ t (best_of (f := fun _ _ => true) (c := l) ht0 hk) ?_ fun a ha => ?_
  · rw [numAt_eq]
    refine PySem.getD_mem ?_
    rw [List.length_map, Array.length_toList]
    have := hb.1
    omega
  · obtain ⟨j, hj, rfl⟩ := mem_getD ha
    have hj2 : j < xs.size := by simpa using hj
    have := hb.2 j (by omega)
    rw [← numAt_eq]
    exact this
theorem maxT_raw (hh : A.handled = none) (ht : s.heap.IsTuple l its.toArray) (hi : IntsAre its ns) (hne : 0 < ns.length)
    (h : ∀ h' tk M t', (∀ b o, s.heap.get? b = some o → h'.get? b = some o) → M ∈ ns → (∀ a, a ∈ ns → a ≤ M) → Q (.int M t') { s with heap := h', toks := tk }) : wpAny (model prog w) A (call (.builtin "max") [.ref l]) Q E s := by
  have hl : l ≠ s.heap.objs.size := by obtain ⟨_, e, _⟩ := ht; exact Nat.ne_of_lt (Heap.lt_size e)
  have fp := fp_ok ht
  have ht0 := ht
  obtain ⟨xs, e⟩ := (hi.allInts).items
  have hn : numsOf (intItems xs).toList = ns := e ▸ hi.numsOf
  rw [nums_intItems] at hn
  rw [e] at ht
  subst hn
  have hsz : 0 < (intItems xs).size := by unfold intItems; simpa using hne
  refine call_max_walk (wpAny_pyIter_tuple ht ⟨_, _, _, _, _, _, _, rfl, Walks.tuple (A := A.in1) hh _ l hl (intItems xs), ⟨⟨_, Heap.get?_push_size _ rfl, rfl, rfl⟩, ht.push _⟩, fp, hsz, CmpOf.ints_gt (numAt xs) (fun _ _ => intItems_at), fun v h' tk hP hk => ?_⟩)
  obtain ⟨t, rfl⟩ := intItems_at hP
  have hsz2 : (intItems xs).size = xs.size := by unfold intItems; simp
  rw [hsz2] at hsz ⊢
  have hb := argBest_gt (numAt xs) (xs.size - 1)
  refine h h' tk _ t (best_of (f := fun _ _ => true) (c := l) ht0 hk) ?_ fun a ha => ?_
  · rw [numAt_eq]
    refine PySem.getD_mem ?_
    rw [List.length_map, Array.length_toList]
    have := hb.1
    omega
  · obtain ⟨j, hj, rfl⟩ := mem_getD ha
    have hj2 : j < xs.size := by simpa using hj
    have := hb.2 j (by omega)
    rw [← numAt_eq]
    exact this
end
def rMinT (K : PySem.W.Frag) : List V → Hp → VK → Prop := fun vs H Q => ∃ (a : Addr) (ns : List Int), vs = [V.ref a] ∧ SqT K H a (ns.map V.int) ∧ 0 < ns.length ∧ ∀ m, m ∈ ns → (∀ y, y ∈ ns → m ≤ y) → Q (.int m) H
def rMaxT (K : PySem.W.Frag) : List V → Hp → VK → Prop := fun vs H Q => ∃ (a : Addr) (ns : List Int), vs = [V.ref a] ∧ SqT K H a (ns.map V.int) ∧ 0 < ns.length ∧ ∀ m, m ∈ ns → (∀ y, y ∈ ns → y ≤ m) → Q (.int m) H
section
variable {X : Cx} {K : PySem.W.Frag}
theorem cr_minT (hc : X.calm = true) (e : X.K = K := by rfl) : CallR X (.builtin "min") (rMinT K) := by
  subst e
  intro pins s σ H vs us Q I r h
  obtain ⟨a, ns, rfl, hs, hne, q⟩ := h
  obtain ⟨its, rv, ht, _⟩ := I.tuple hs
  rw [Vals.ref1 r]
  exact minT_raw (I.ok.hd hc) ht rv.ints hne fun h' tk m t' hk h1 h2 => ⟨.int _, H, I.kept hk, ⟨_, rfl⟩, q m h1 h2⟩
theorem cr_maxT (hc : X.calm = true) (e : X.K = K := by rfl) : CallR X (.builtin "max") (rMaxT K) := by
  subst e
  intro pins s σ H vs us Q I r h
  obtain ⟨a, ns, rfl, hs, hne, q⟩ := h
  obtain ⟨its, rv, ht, _⟩ := I.tuple hs
  rw [Vals.ref1 r]
  exact maxT_raw (I.ok.hd hc) ht rv.ints hne fun h' tk m t' hk h1 h2 => ⟨.int _, H, I.kept hk, ⟨_, rfl⟩, q m h1 h2⟩
end
theorem n_minT2 {K : PySem.W.Frag} {H : Hp} {t : Addr} {a b : Int} {Q : VK} (h : H t = some (.tup [.int a, .int b])) (k : Q (.int (min a b)) H) : rMinT K [.ref t] H Q :=
  ⟨t, [a, b], rfl, SqT.of h, Nat.succ_pos _, fun m hm hy => by
    have h1 := hy a (by simp)
    have h2 := hy b (by simp)
    simp only [List.mem_cons, List.not_mem_nil, or_false] at hm
    have e : m = min a b := by omega
    rw [e]
    exact k⟩
theorem n_maxT2 {K : PySem.W.Frag} {H : Hp} {t : Addr} {a b : Int} {Q : VK} (h : H t = some (.tup [.int a, .int b])) (k : Q (.int (max a b)) H) : rMaxT K [.ref t] H Q :=
  ⟨t, [a, b], rfl, SqT.of h, Nat.succ_pos _, fun m hm hy => by
    have h1 := hy a (by simp)
    have h2 := hy b (by simp)
    simp only [List.mem_cons, List.not_mem_nil, or_false] at hm
    have e : m = max a b := by omega
    rw [e]
    exact k⟩
/-! ### set(a list of numbers) -/
/-- an empty set -/
def eSet (w : World) : Obj := { cls := .type "set", dict := none, data := .set #[] 0 (.fresh 0 0 (!w.params.followText "set-order")) }
def lIt (l : Addr) : Obj := { cls := .type "list_iterator", data := .fields #[.ref l, .int 0 0] }
section
variable {P : Program} {w : World} {A : Around} {E : Value → Shared → Prop} {s : Shared}
theorem setL_init {l : Addr} {items : Array Value} (ns : List Int) (hh : A.handled = none) (hl : s.heap.IsList l items) (hit : IntsAre items.toList ns) (hb : ns.length + 1 < scanBound) {R : Value → Shared → Prop}
    (h : ∀ (h' : Heap) (tk c : Nat), SetR w h' s.heap.objs.size (fun j => decide (j ∈ ns)) c → c ≤ ns.length → (∀ b o, s.heap.get? b = some o → h'.get? b = some o) → R .none { s with heap := h', toks := tk }) :
    wpAny (model P w) A (Builtin.«set.__init__» ⟨[.ref s.heap.objs.size, .ref l], []⟩) (fun r s' => ∃ v, r = .done (.ret v) ∧ R v s') E { s with heap := s.heap.push (eSet w) } := by
  have hisz : items.size = ns.length := by
    rw [← Array.length_toList]
    exact IntsAre.length hit
  have hlS : l < s.heap.objs.size := by obtain ⟨_, e, _⟩ := hl; exact Heap.lt_size e
  have hS : (s.heap.push (eSet w)).get? s.heap.objs.size = some (eSet w) := Heap.get?_push_size _ rfl
  have hl1 : (s.heap.push (eSet w)).IsList l items := hl.push _
  have hz1 : (s.heap.push (eSet w)).objs.size = s.heap.objs.size + 1 := Heap.size_push ..
  obtain ⟨ol, hol, hcl, nl, hdl⟩ := hl1
  obtain ⟨oc, od, odt, osl⟩ := ol
  simp only at hcl hdl
  subst hcl; subst hdl
  have hl1 : (s.heap.push (eSet w)).IsList l items := hl.push _
  have q1 := F.sub_list_set
  have q2 := F.sub_list_frozenset
  have q3 : (Value.type "list" == Value.type "dict") = false := by decide
  have hS' := hS
  unfold eSet at hS' hol
  have hh3 : A.in1.handled = none := hh
  unfold Builtin.«set.__init__»; unfold noKeywords Builtin.Frozenset.updateFrom
  generalize hPI : pyIter = PI
  unfold eSet
  wp_walk
  subst hPI
  have hneI : l ≠ (s.heap.push (eSet w)).objs.size := by
    rw [hz1]
    exact Nat.ne_of_lt (Nat.lt_succ_of_lt hlS)
  have hSf : s.heap.objs.size ∉ [(s.heap.push (eSet w)).objs.size, l] := fun m => by
    rw [hz1] at m
    simp only [List.mem_cons, List.not_mem_nil, or_false] at m
    rcases m with m | m
    · exact absurd m (by omega)
    · exact absurd m (Nat.ne_of_gt hlS)
  have hval : ∀ (i : Nat) (v : Value), items[i]? = some v → ∃ k t, ns[i]? = some k ∧ v = .int k t := fun i v hv => by
    obtain ⟨lt, _⟩ := Array.getElem?_eq_some_iff.mp hv
    rw [hisz] at lt
    obtain ⟨t, e⟩ := IntsAre.int_at hit i v ((Array.getElem?_toList ..).trans hv)
    have z : ns[i]? = some (ns.getD i 0) := by rw [List.getD_eq_getElem?_getD, List.getElem?_eq_getElem lt] <;> rfl
    exact ⟨_, t, z, e⟩
  have hp2 : ((s.heap.push (eSet w)).push (lIt l)).get? s.heap.objs.size = some (eSet w) := Heap.get?_push_of_some _ hS
  refine wpAny_pyIter_list hl1 (wpAny_bind (wpAny_runValue (set_update_ints ((Walks.list (A := A.in1) hh _ l hneI items).toS) s.heap.objs.size hSf ns hisz hb hval (items.size - 0) 0 _ rfl (Nat.zero_le _) ⟨⟨_, Heap.get?_push_size _ rfl, rfl, rfl⟩, hl1.push _⟩
    ⟨0, Nat.le_refl 0, setR_new_at hp2⟩ fun s' c hm hc hR => ?_)))
  obtain ⟨h1, g1, d1, k1, o1⟩ := s'
  have z1 : g1 = s.gens := hm.gens
  have z2 : d1 = s.drawn := hm.drawn
  have z3 : o1 = s.os := hm.os
  subst z1; subst z2; subst z3
  refine wpAny_pure (wpAny_pure ⟨_, rfl, h h1 k1 c hR (by rw [← hisz]; exact hc) fun b o e => ?_⟩)
  have lt := Heap.lt_size e
  have kk := hm.heap b o
  refine kk (fun m => ?_) (Heap.get?_push_of_some _ (Heap.get?_push_of_some _ e))
  simp only [List.mem_cons, List.not_mem_nil, or_false] at m
  rcases m with m | m
  · exact absurd m (Nat.ne_of_lt lt)
  · rw [hz1] at m
    exact absurd m (Nat.ne_of_lt (Nat.lt_succ_of_lt lt))
/-- set(a list of numbers) -/
theorem setL_call {l : Addr} {items : Array Value} (ns : List Int) {Q : Value → Shared → Prop} (hh : A.handled = none) (hl : s.heap.IsList l items) (hit : IntsAre items.toList ns) (hb : ns.length + 1 < scanBound)
    (h : ∀ (h' : Heap) (tk c : Nat), SetR w h' s.heap.objs.size (fun j => decide (j ∈ ns)) c → c ≤ ns.length → (∀ b o, s.heap.get? b = some o → h'.get? b = some o) → Q (.ref s.heap.objs.size) { s with heap := h', toks := tk }) :
    wpAny (model P w) A (call (.type "set") [.ref l]) Q E s := by
  have k1 := F.called_set.mro
  have k2 := F.called_set.made
  have k3 := F.called_set.sub
  have k4 := F.called_set.notType
  have k5 := F.called_set.canCreate
  have k6 := F.typeCall_set_1 (.ref l)
  have k7 := F.called_set.init.lookup
  have k8 := F.called_set.init.bind (.ref s.heap.objs.size)
  obtain ⟨c0, tl, k1⟩ := k1
  refine wpAny_call (codeAny_of_tree ?_); show wpAny _ _ (callAny (.type "set") _) _ _ _; refine wpAny_pure ⟨Code.quiet_builtin _ (by decide +kernel), codeAny_builtin F.entry_type_call ?_⟩; rw [Around.under_plain (weight_type_call_type "set" [.ref l] []) rfl]
  repeat any_goals (first | assumption | wp_step)
  refine codeAny_mono (code_set_led1 (.ref l) (E := E) (Q₁ := fun obj s₁ => obj = .ref s.heap.objs.size ∧ s₁ = { s with heap := s.heap.push (eSet w) }) ⟨rfl, rfl⟩) fun r s₁ hr => ?_
  have hT : Shared.TypeIs { s with heap := s.heap.push (eSet w) } (.ref s.heap.objs.size) "set" := ⟨_, Heap.get?_push_size _ rfl, rfl⟩
  match r, hr with
  | .error e, hr => exact hr
  | .ok .next, hr => exact hr.elim
  | .ok .brk, hr => exact hr.elim
  | .ok .cont, hr => exact hr.elim
  | .ok (.ret obj), hr =>
    obtain ⟨rfl, rfl⟩ := hr
    repeat any_goals (first | assumption | wp_step)
    refine codeAny_mono (codeAny_call_builtin (R := wants (fun r s₂ => r = .none ∧ ∃ h' tk c, s₂ = { s with heap := h', toks := tk } ∧ SetR w h' s.heap.objs.size (fun j => decide (j ∈ ns)) c ∧ c ≤ ns.length ∧ (∀ b o, s.heap.get? b = some o → h'.get? b = some o)) E)
      F.called_set.init.plain F.entry_set_init (check_set_init_1 hT (wpAny_mono (setL_init (R := fun r s₂ => r = .none ∧ ∃ h' tk c, s₂ = { s with heap := h', toks := tk } ∧ SetR w h' s.heap.objs.size (fun j => decide (j ∈ ns)) c ∧ c ≤ ns.length ∧ (∀ b o, s.heap.get? b = some o → h'.get? b = some o)) ns (A := _) (by exact hh) hl hit hb fun h' tk c R1 hc hk => ⟨rfl, h', tk, c, rfl, R1, hc, hk⟩) (fun fin s' hf => ?_) fun _ _ z => z))) fun r₂ s₂ h2 => ?_
    · obtain ⟨v, rfl, hv⟩ := hf
      exact hv
    · match r₂, h2 with
      | .error e, h2 => exact h2
      | .ok .next, h2 => exact h2.elim
      | .ok .brk, h2 => exact h2.elim
      | .ok .cont, h2 => exact h2.elim
      | .ok (.ret v), h2 =>
        obtain ⟨rfl, h', tk, c, rfl, R1, hc, hk⟩ := h2
        repeat any_goals (first | assumption | wp_step)
        exact h _ _ _ R1 hc hk
end
def rSetOf (K : PySem.W.Frag) (w : World) : List V → Hp → VK → Prop := fun vs H Q => ∃ (a : Addr) (ns : List Int), vs = [V.ref a] ∧ SqL K H a (ns.map V.int) ∧ ns.length + 1 < scanBound ∧ ∀ p c, H p = none → c ≤ ns.length → Q (.ref p) (upd H p (SetO w p (fun j => decide (j ∈ ns)) c))
theorem cr_setL {X : Cx} {K : PySem.W.Frag} (hc : X.calm = true) (e : X.K = K := by rfl) : CallR X (.type "set") (rSetOf K X.w) := by
  subst e
  intro pins s σ H vs us Q I r h
  obtain ⟨a, ns, rfl, hs, hb, q⟩ := h
  obtain ⟨its, rv, hl, _⟩ := I.list hs
  rw [Vals.ref1 r]
  refine setL_call ns (I.ok.hd hc) hl.isList (by simpa using rv.ints) hb fun h' tk c R1 hc' hk => ?_
  have lt := R1.lt
  exact ⟨.ref _, _, I.laid (t' := tk) hk (Nat.le_refl _) (setO_new R1), rfl, q _ c (I.hok.fresh (Nat.le_refl _)) hc'⟩
/-- sorted(set(a list)) -/
theorem n_setL {K : PySem.W.Frag} {w : World} {G H : Hp} {L : List (Addr × HO)} {p : Addr} {ns : List Int} {Q : VK} (S : Own G L H) (h : SqL K H p (ns.map V.int)) (hb : ns.length < 60)
    (k : ∀ q c H1, H q = none → c ≤ ns.length → Own G ((q, SetO w q (fun j => decide (j ∈ ns)) c) :: L) H1 → Q (.ref q) H1) : rSetOf K w [.ref p] H Q :=
  ⟨p, ns, rfl, h, by unfold scanBound; omega, fun q c hq hc => k q c _ hq hc (S.lay hq)⟩
theorem n_sortSet {w : World} {G H : Hp} {L : List (Addr × HO)} {p : Addr} {ns : List Int} {c : Nat} {Q : VK} (S : Own G ((p, SetO w p (fun j => decide (j ∈ ns)) c) :: L) H) (hb : c < 64)
    (k : ∀ (ms : List Int) q G1 H1, ms.Pairwise (· < ·) → (∀ x, x ∈ ms ↔ x ∈ ns) → H q = none → Ex G G1 → Ex H H1 → G1 q = some (.lst (ms.map V.int)) → Own G1 L H1 → Q (.ref q) H1) : rSortedSet w [.ref p] H Q :=
  ⟨p, _, c, rfl, S.get0, hb, fun ms q h1 h2 h3 hq => by
    have T := S.forget.still (o := .lst (ms.map V.int)) hq
    exact k ms q _ _ h1 (fun x => by rw [h2, decide_eq_true_eq]) hq T.2.1 (Ex.new hq) T.2.2 T.1⟩
end NX

namespace NX
open PySem PySem.Spec PyProof.Rows L2
open Evl (Ex ex_l ex_t fresh_back)
theorem all_flat (ns : List Int) : (ns.map V.int).all flatV = true := by
  rw [List.all_eq_true]
  intro x hx
  obtain ⟨n, _, rfl⟩ := List.mem_map.mp hx
  rfl
theorem inV_ints (x : Int) (ns : List Int) : inV (.int x) (ns.map V.int) = decide (x ∈ ns) := by
  unfold inV
  rw [List.any_map, Bool.eq_iff_iff, List.any_eq_true]
  simp only [Function.comp, eqV, beq_iff_eq, decide_eq_true_eq]
  exact ⟨fun ⟨y, hy, e⟩ => e ▸ hy, fun h => ⟨x, h, rfl⟩⟩
section
variable {K : PySem.W.Frag} {H : Hp} {p : Addr} {ns : List Int} {x : Int} {Q : VK}
theorem n_inIL (h : SqL K H p (ns.map V.int)) (k : Q (.bl (decide (x ∈ ns))) H) : rIn K false (.int x) (.ref p) H Q := ⟨p, _, rfl, .inl h, rfl, all_flat ns, by rw [inV_ints]; exact k⟩
theorem n_ninIL (h : SqL K H p (ns.map V.int)) (k : Q (.bl (!decide (x ∈ ns))) H) : rIn K true (.int x) (.ref p) H Q := ⟨p, _, rfl, .inl h, rfl, all_flat ns, by rw [inV_ints]; exact k⟩
theorem n_inIT (h : SqT K H p (ns.map V.int)) (k : Q (.bl (decide (x ∈ ns))) H) : rIn K false (.int x) (.ref p) H Q := ⟨p, _, rfl, .inr h, rfl, all_flat ns, by rw [inV_ints]; exact k⟩
theorem n_ninIT (h : SqT K H p (ns.map V.int)) (k : Q (.bl (!decide (x ∈ ns))) H) : rIn K true (.int x) (.ref p) H Q := ⟨p, _, rfl, .inr h, rfl, all_flat ns, by rw [inV_ints]; exact k⟩
end
def spNet (C : Addr) (n : Nat) (ls : List Pr) (H : Hp) (Q : VK) : Prop := ∀ x H', H x = none → Ex H H' → NetAt C (nw H H') x n (sortP ls) → Q (.ref x) H'
theorem n_spNet {C : Addr} {G H : Hp} {L : List (Addr × HO)} {n : Nat} {ls : List Pr} {Q : VK} (S : Own G L H) (k : ∀ x G1 H1, H x = none → Ex G G1 → Ex H H1 → Own G1 L H1 → NetAt C G1 x n (sortP ls) → Q (.ref x) H1) : spNet C n ls H Q := fun x H' hx e N => by
  obtain ⟨S1, e2, e3⟩ := S.absorb e
  exact k x _ H' hx e2 e S1 (N.mono e3)
def spWo (C : Addr) : Sp := fun vs H Q _ => ∃ (a : Addr) (n : Nat) (ks : List Pr) (i : Int), vs = [.ref a, .int i] ∧ NetAt C H a n ks ∧ (0 ≤ i ∧ i < (n : Int)) ∧ 2 ≤ n ∧ spNet C (n - 1) (woL i ks) H Q
def spRen (K : PySem.W.Frag) (C : Addr) : Sp := fun vs H Q _ => ∃ (a p : Addr) (n : Nat) (ks : List Pr) (ns : List Int), vs = [.ref a, .ref p] ∧ NetAt C H a n ks ∧ H p = some (.lst (ns.map V.int)) ∧ IsNames n ns ∧ spNet C n (renL ns ks) H Q
theorem n_wo {C : Addr} {G H : Hp} {L : List (Addr × HO)} {a : Addr} {n : Nat} {ks : List Pr} {i : Int} {Q : VK} {E : XK} (S : Own G L H) (N : NetAt C G a n ks) (hi : 0 ≤ i ∧ i < (n : Int)) (hn : 2 ≤ n)
    (k : ∀ x G1 H1, H x = none → Ex G G1 → Ex H H1 → Own G1 L H1 → NetAt C G1 x (n - 1) (sortP (woL i ks)) → Q (.ref x) H1) : spWo C [.ref a, .int i] H Q E := ⟨a, n, ks, i, rfl, N.mono S.ex, hi, hn, n_spNet S k⟩
theorem n_ren {K : PySem.W.Frag} {C : Addr} {G H : Hp} {L : List (Addr × HO)} {a p : Addr} {n : Nat} {ks : List Pr} {ns : List Int} {Q : VK} {E : XK} (S : Own G L H) (N : NetAt C G a n ks) (hp : H p = some (.lst (ns.map V.int))) (hn : IsNames n ns)
    (k : ∀ x G1 H1, H x = none → Ex G G1 → Ex H H1 → Own G1 L H1 → NetAt C G1 x n (sortP (renL ns ks)) → Q (.ref x) H1) : spRen K C [.ref a, .ref p] H Q E := ⟨a, p, n, ks, ns, rfl, N.mono S.ex, hp, hn, n_spNet S k⟩
theorem ks_len2 {n : Nat} {ks : List Pr} (ok : Okl n ks) (u : Up ks) (d : ks.Nodup) (hn : n ≤ 60) : ks.length ≤ 4000 := by
  -- the links as numbers, all different, below 3600
  have h : (ks.map fun q => q.1 * 60 + q.2).Pairwise (· < ·) := by
    rw [List.pairwise_map]
    have hh := List.pairwise_iff_getElem.mp u
    refine List.pairwise_iff_getElem.mpr fun i j hi hj hij => ?_
    have c := leP_iff.mp (hh i j hi hj hij)
    have b1 := ok _ (List.getElem_mem hi)
    have b2 := ok _ (List.getElem_mem hj)
    have ne : ks[i] ≠ ks[j] := fun e => by have := (List.getElem_inj d).mp e; omega
    have ne' : ¬ (ks[i].1 = ks[j].1 ∧ ks[i].2 = ks[j].2) := fun e => ne (Prod.ext e.1 e.2)
    omega
  have := up_len (lo := 0) (hi := 3660) h fun x hx => by
    obtain ⟨q, hq, rfl⟩ := List.mem_map.mp hx
    have := ok q hq
    omega
  rcases this with e | e
  · have z := congrArg List.length e
    rw [List.length_map] at z
    simp only [List.length_nil] at z
    omega
  · rw [List.length_map] at e
    omega
theorem ks_len {n : Nat} {ks : List Pr} (ok : Okl n ks) (u : Up ks) (d : ks.Nodup) (hn : n ≤ 60) : ks.length ≤ 10000 := Nat.le_trans (ks_len2 ok u d hn) (by decide)
theorem NetAt.len {C : Addr} {H : Hp} {a : Addr} {n : Nat} {ks : List Pr} (N : NetAt C H a n ks) : ks.length ≤ 10000 := ks_len N.ok N.up N.nd N.sz.2
end NX

namespace NX
open PySem PySem.Spec PyProof.Rows L2
open Evl (Ex ex_l ex_t fresh_back)
/-! ### _law_links -/
/-- behind a call that may change the object at p, where what stands still has grown -/
theorem Own.backG {G G' H H' : Hp} {L L' : List (Addr × HO)} {p : Addr} {o o' : HO} (S : Own G ((p, o) :: L) H) (e : Ex (cut H [(p, o)]) G') (T : Own G' ((p, o') :: L') H') :
    Own (cut G' L) ((p, o') :: L' ++ L) H' ∧ Ex G (cut G' L) ∧ ∀ a u, noTup u = false → G' a = some u → cut G' L a = some u := by
  have hL : ∀ x ∈ L, G' x.1 = some x.2 := fun x hx => e _ _ (by
    have ne : x.1 ≠ p := fun z => S.nin (z ▸ List.mem_map_of_mem hx)
    rw [cut_out (by simpa using ne)]
    exact (S.at_ x (List.mem_cons_of_mem _ hx)).2)
  refine ⟨⟨fun a u h => ?_, fun x hx => ?_, ?_, fun x hx => (List.mem_append.mp hx).elim (T.nt x) (S.forget.nt x)⟩, fun a u h => ?_, fun a u t h => ?_⟩
  · by_cases m : a ∈ L.map Prod.fst
    · rw [cut_in m] at h; cases h
    · rw [cut_out m] at h; exact T.ex _ _ h
  · rcases List.mem_append.mp hx with hx | hx
    · refine ⟨?_, (T.at_ x hx).2⟩
      have z := (T.at_ x hx).1
      by_cases m : x.1 ∈ L.map Prod.fst
      · exact cut_in m
      · rw [cut_out m]; exact z
    · exact ⟨cut_in (List.mem_map_of_mem hx), T.ex _ _ (hL x hx)⟩
  · rw [List.map_append, List.nodup_append]
    refine ⟨T.nd, S.forget.nd, fun a ha b hb z => ?_⟩
    subst z
    obtain ⟨x, hx, ex⟩ := List.mem_map.mp ha
    obtain ⟨y, hy, ey⟩ := List.mem_map.mp hb
    have z := (T.at_ x hx).1
    rw [ex, ← ey, hL y hy] at z
    cases z
  · have ne : a ≠ p := ne_of_none h S.no0
    have m : a ∉ L.map Prod.fst := fun m => by
      obtain ⟨y, hy, ey⟩ := List.mem_map.mp m
      have z := (S.forget.at_ y hy).1
      rw [ey, h] at z
      cases z
    rw [cut_out m]
    exact e _ _ (by rw [cut_out (by simpa using ne)]; exact S.ex _ _ h)
  · have m : a ∉ L.map Prod.fst := fun m => by
      obtain ⟨y, hy, ey⟩ := List.mem_map.mp m
      have z := hL y hy
      rw [ey, h] at z
      have := S.forget.nt y hy
      rw [← Option.some.inj z, t] at this
      cases this
    rw [cut_out m]
    exact h
/-- l.extend(b) -/
theorem n_ext {G H : Hp} {L : List (Addr × HO)} {l b : Addr} {xs zs : List V} {Q : VK} (S : Own G ((l, .lst xs) :: L) H) (hb : H b = some (.lst zs)) (hz : xs.length + zs.length ≤ 1000000) (k : ∀ H1, Own G ((l, .lst (xs ++ zs)) :: L) H1 → Q .non H1) : rExtend (.ref l) [.ref b] H Q :=
  ⟨l, b, xs, zs, rfl, rfl, S.get0, hb, small (by omega), k _ S.put0⟩
/-- links by places: below first -/
def RawL (m : Int) (ips : List Pr) : Prop := ips.Nodup ∧ ∀ q ∈ ips, 0 ≤ q.1 ∧ q.1 < q.2 ∧ q.2 < m
theorem raw_okl {n : Nat} {ips : List Pr} (h : RawL (n : Int) ips) : Okl n ips := h.2
theorem okl_len {n : Nat} {ls : List Pr} (ok : Okl n ls) (nd : ls.Nodup) (hn : n ≤ 60) : ls.length ≤ 10000 := by
  rw [← sortP_len]
  exact ks_len ok.sort (sortP_up _) ((sortP_perm ls).nodup_iff.mpr nd) hn
theorem raw_len {m : Int} {ips : List Pr} (h : RawL m ips) (hm : m ≤ 60) : ips.length ≤ 10000 := okl_len (n := 60) (fun q hq => by have := h.2 q hq; omega) h.1 (Nat.le_refl _)
theorem raw_add {m : Int} {ips : List Pr} {cs : List Int} (h : RawL m ips) (nd : cs.Nodup) (hc : ∀ c ∈ cs, 0 ≤ c ∧ c < m) : RawL (m + 1) (ips ++ cs.map fun c => (c, m)) := by
  refine ⟨List.nodup_append.mpr ⟨h.1, nd_map nd fun x _ y _ e => congrArg Prod.fst e, fun a ha b hb e => ?_⟩, fun q hq => ?_⟩
  · obtain ⟨c, _, rfl⟩ := List.mem_map.mp hb
    have := (h.2 a ha).2.2
    rw [e] at this
    simp only at this
    omega
  · rcases List.mem_append.mp hq with hq | hq
    · have := h.2 q hq
      omega
    · obtain ⟨c, hc', rfl⟩ := List.mem_map.mp hq
      have := hc c hc'
      simp only
      omega
theorem mm_swap (a b : Int) : mmP a b = mmP b a := by unfold mmP; exact Prod.ext (Int.min_comm _ _) (Int.max_comm _ _)
def swP (ns : List Int) (q : Pr) : Pr := (tv ns q.2, tv ns q.1)
theorem names_of {n : Nat} {ms ns : List Int} (hp : ns.Perm ms) (hm : ms = rgI 0 (n : Int)) : IsNames n ns := by
  subst hm
  have hl : (rgI 0 (n : Int)).length = n := by unfold rgI; rw [List.length_map, List.length_range]; omega
  have hnd : (rgI 0 (n : Int)).Nodup := by
    unfold rgI
    exact nd_map List.nodup_range fun x _ y _ e => by omega
  refine ⟨hp.length_eq.trans hl, hp.nodup_iff.mpr hnd, fun x hx => ?_⟩
  have := mem_rgI (hp.mem_iff.mp hx)
  omega
theorem ints_perm {ys : List V} {ms : List Int} (h : ys.Perm (ms.map V.int)) : ∃ ns : List Int, ys = ns.map V.int ∧ ns.Perm ms := by
  obtain ⟨ns, rfl⟩ := ints_of_sub (ns := ms) fun y hy => h.mem_iff.mp hy
  refine ⟨ns, rfl, ?_⟩
  have e := h.map (fun v : V => match v with | .int i => i | _ => 0)
  rw [List.map_map, List.map_map] at e
  have f : ((fun v : V => match v with | .int i => i | _ => 0) ∘ V.int) = (id : Int → Int) := rfl
  rw [f, List.map_id, List.map_id] at e
  exact e
theorem lks_perm {G : Hp} {xs ys : List V} {ps : List Pr} (hl : Lks G xs ps) (h : ys.Perm xs) : ∃ qs, Lks G ys qs ∧ qs.Perm ps := by
  obtain ⟨h1, h2⟩ := lks_k hl
  refine ⟨ys.map (kOf G), lks_of fun x hx => h2 x (h.mem_iff.mp hx), ?_⟩
  rw [← h1]
  exact h.map _
end NX

namespace NX
open PySem PySem.Spec PyProof.Rows L2
open Evl (Ex ex_l ex_t fresh_back)
theorem back_of {n : Nat} {ns bs : List Int} (h : ns.Perm (rgI 0 (n : Int))) (hl : bs.length = n) (hb : ∀ k : Nat, k < n → ∃ j : Nat, ns[j]? = some (k : Int) ∧ tv bs (k : Int) = (j : Int)) : Back n ns bs := by
  have a := names_of h rfl
  have ba : ∀ v : Int, 0 ≤ v ∧ v < (n : Int) → tv ns (tv bs v) = v := fun v hv => by
    obtain ⟨k, rfl⟩ : ∃ k : Nat, v = (k : Int) := ⟨v.toNat, by omega⟩
    obtain ⟨j, h1, h2⟩ := hb k (by omega)
    rw [h2]
    exact tv_get h1
  have rb : ∀ v : Int, 0 ≤ v ∧ v < (n : Int) → 0 ≤ tv bs v ∧ tv bs v < (n : Int) := fun v hv => by
    obtain ⟨k, rfl⟩ : ∃ k : Nat, v = (k : Int) := ⟨v.toNat, by omega⟩
    obtain ⟨j, h1, h2⟩ := hb k (by omega)
    have := (List.getElem?_eq_some_iff.mp h1).1
    rw [h2, ← a.1]
    omega
  have b : IsNames n bs := by
    refine ⟨hl, ?_, fun x hx => ?_⟩
    · refine List.pairwise_iff_getElem.mpr fun i j hi hj hij e => ?_
      have e1 := tv_get (List.getElem?_eq_getElem hi)
      have e2 := tv_get (List.getElem?_eq_getElem hj)
      have b1 := ba (i : Int) ⟨by omega, by omega⟩
      have b2 := ba (j : Int) ⟨by omega, by omega⟩
      rw [e1] at b1
      rw [e2] at b2
      rw [e] at b1
      omega
    · obtain ⟨i, hi, e⟩ := List.mem_iff_getElem.mp hx
      have e1 := tv_get (List.getElem?_eq_getElem hi)
      have := rb (i : Int) ⟨by omega, by omega⟩
      rw [e1, e] at this
      exact this
  refine ⟨a, b, fun v hv => ?_, ba⟩
  have r := a.rng hv.1 hv.2
  have e := ba (tv ns v) r
  exact a.inj (rb _ r) hv e
theorem back_ex {n : Nat} {ns : List Int} (h : ns.Perm (rgI 0 (n : Int))) : ∃ bs, Back n ns bs := by
  refine ⟨(List.range n).map fun (k : Nat) => ((ns.idxOf (k : Int) : Nat) : Int), back_of h (by rw [List.length_map, List.length_range]) fun k hk => ?_⟩
  have hm : (k : Int) ∈ ns := h.mem_iff.mpr (by
    unfold rgI
    exact List.mem_map.mpr ⟨k, List.mem_range.mpr (by omega), by omega⟩)
  refine ⟨ns.idxOf (k : Int), ?_, ?_⟩
  · rw [List.getElem?_eq_getElem (List.idxOf_lt_length_of_mem hm)]
    exact congrArg some (List.getElem_idxOf _)
  · exact tv_get (by rw [List.getElem?_map, List.getElem?_range hk] <;> rfl)
end NX

namespace NX
/-! ### the switchings of schedule_low -/
local macro_rules | `(tactic| walk_at "uu") => `(tactic| ((try unfold NX.upS); (try unfold NX.zeroS); (try dsimp only); repeat' (first | omega | split)))
def othS (ks : List Pr) (i : Int) (wo : List Int) : List Int := (nb ks i).filter fun x => !decide (x ∈ wo)
def thirdS (ks : List Pr) (s : Int) : Int := ((nb ks s).filter fun x => decide (2 ≤ (nb ks x).length)).getD 0 0
def to4 (ks : List Pr) (s : Int) : List Int :=
  to3 (thirdS ks s) ((nb ks (thirdS ks s)).getD 0 0) ((nb ks (thirdS ks s)).getD 1 0) ++ [s, (othS ks s [thirdS ks s]).getD 0 0, s, (othS ks s [thirdS ks s]).getD 1 0, s] ++ [thirdS ks s, (othS ks s [thirdS ks s]).getD 0 0, (othS ks s [thirdS ks s]).getD 1 0]
def fourS (ks : List Pr) (t : List Int) (s : Int) : Int := ((nb ks s).filter fun x => decide (4 ≤ tv t x)).getD 0 0
def threeS (ks : List Pr) (t : List Int) (s q : Int) : Int := ((othS ks s [q]).filter fun x => decide (3 ≤ tv t x)).getD 0 0
def spareS (a b x : Int) : Int := if a ≠ x then a else b
def pre5 (ks : List Pr) (s q r e f : Int) : List Int :=
  match othS ks r [s, q] with
  | x :: _ => to4 ks q ++ bes2 s (spareS f e x) r x
  | [] => to3 r s q ++ bes2 s (spareS f e ((othS ks q [s, r]).getD 0 0)) q ((othS ks q [s, r]).getD 0 0)
def fin5 (ks : List Pr) (s q r e f : Int) : List Int := pre5 ks s q r e f ++ [s, e, s, f, s, q, r, e, f]
def qr5 (ks : List Pr) (s q r : Int) : List Int := fin5 ks s q r ((othS ks s [q, r]).getD 0 0) ((othS ks s [q, r]).getD 1 0)
def to5 (ks : List Pr) (t : List Int) (s : Int) : List Int := qr5 ks s (fourS ks t s) (threeS ks t s (fourS ks t s))
def lowS (ks : List Pr) (t : List Int) (s c : Int) : List Int :=
  if c = 1 then [s] else if c = 2 then [(nb ks s).getD 0 0, s, (nb ks s).getD 0 0] else if c = 3 then to3 s ((nb ks s).getD 0 0) ((nb ks s).getD 1 0) else if c = 4 then to4 ks s else to5 ks t s
theorem filter_two {α : Type} (p : α → Bool) : ∀ l : List α, (l.filter p).length + (l.filter fun x => !p x).length = l.length
  | [] => rfl
  | x :: l => by
    have ih := filter_two p l
    cases h : p x <;> simp [h] <;> omega
theorem oth_len {ks : List Pr} {i : Int} {wo : List Int} (nd : (nb ks i).Nodup) : (nb ks i).length ≤ (othS ks i wo).length + wo.length := by
  have h1 := filter_two (fun x => decide (x ∈ wo)) (nb ks i)
  have h2 : ((nb ks i).filter fun x => decide (x ∈ wo)).length ≤ wo.length := len_le_of_sub (nd.filter _) fun x hx => by
    have := (List.mem_filter.mp hx).2
    exact of_decide_eq_true this
  unfold othS
  omega
theorem mem_oth {ks : List Pr} {i x : Int} {wo : List Int} : x ∈ othS ks i wo ↔ x ∈ nb ks i ∧ x ∉ wo := by
  unfold othS
  rw [List.mem_filter]
  simp
theorem oth_nd {ks : List Pr} {i : Int} {wo : List Int} (nd : (nb ks i).Nodup) : (othS ks i wo).Nodup := nd.filter _
theorem getD_mem {l : List Int} {j : Nat} (h : j < l.length) : l.getD j 0 ∈ l := by
  rw [List.getD_eq_getElem?_getD, List.getElem?_eq_getElem h]
  exact List.getElem_mem h
theorem getD_ne {l : List Int} (nd : l.Nodup) {i j : Nat} (h : i < l.length) (h' : j < l.length) (ne : i ≠ j) : l.getD i 0 ≠ l.getD j 0 := by
  rw [List.getD_eq_getElem?_getD, List.getD_eq_getElem?_getD, List.getElem?_eq_getElem h, List.getElem?_eq_getElem h']
  exact fun e => ne ((List.getElem_inj nd).mp e)
/-- what the numbers of the table say -/
structure NetF (n : Nat) (ks : List Pr) (t : List Int) : Prop where
  ok : Okl n ks
  nd : ∀ i : Int, (nb ks i).Nodup
  tab : TabF n ks t
section
variable {n : Nat} {ks : List Pr} {t : List Int}
theorem NetF.deg (N : NetF n ks t) {i : Nat} (hi : i < n) : tv t (i : Int) ≤ ((nb ks (i : Int)).length : Int) + 1 := by
  have := (N.tab.2 i hi).le_len
  rw [List.length_map] at this
  omega
theorem NetF.many (N : NetF n ks t) {i : Nat} (hi : i < n) {j : Int} (h1 : 1 ≤ j) (h2 : j < tv t (i : Int)) : tv t (i : Int) - j ≤ (((nb ks (i : Int)).filter fun x => decide (j ≤ tv t x)).length : Int) := by
  have h := ((N.tab.2 i hi).2 (tv t (i : Int) - 1)).mp (Int.le_refl _) j h1 (by omega)
  unfold cge at h
  rw [List.countP_map, List.countP_eq_length_filter] at h
  have e : ((fun x => decide (j ≤ x)) ∘ tv t) = fun x => decide (j ≤ tv t x) := rfl
  rw [e] at h
  omega
theorem NetF.nat (N : NetF n ks t) {i x : Int} (h : x ∈ nb ks i) : ∃ j : Nat, x = (j : Int) ∧ j < n := nb_nat N.ok h
theorem NetF.sym (N : NetF n ks t) {i j : Int} (h : j ∈ nb ks i) : i ∈ nb ks j := (nb_sym N.ok).mp h
theorem NetF.irr (N : NetF n ks t) {i j : Int} (h : j ∈ nb ks i) : j ≠ i := (nb_rng N.ok h).2.2.1
theorem NetF.third (N : NetF n ks t) {i : Nat} (hi : i < n) (h : 4 ≤ tv t (i : Int)) : thirdS ks (i : Int) ∈ nb ks (i : Int) ∧ 2 ≤ (nb ks (thirdS ks (i : Int))).length := by
  have h1 := N.many hi (j := 3) (by omega) (by omega)
  obtain ⟨x, hx⟩ : ∃ x, x ∈ (nb ks (i : Int)).filter fun x => decide (3 ≤ tv t x) := by
    cases q : (nb ks (i : Int)).filter fun x => decide (3 ≤ tv t x) with
    | nil => rw [q] at h1; simp at h1; omega
    | cons y l => exact ⟨y, List.mem_cons_self⟩
  obtain ⟨hx1, hx2⟩ := List.mem_filter.mp hx
  have hx2 := of_decide_eq_true hx2
  obtain ⟨j, rfl, hj⟩ := N.nat hx1
  have := N.deg hj
  have hm : (j : Int) ∈ (nb ks (i : Int)).filter fun x => decide (2 ≤ (nb ks x).length) := List.mem_filter.mpr ⟨hx1, decide_eq_true (by omega)⟩
  have hz : thirdS ks (i : Int) ∈ (nb ks (i : Int)).filter fun x => decide (2 ≤ (nb ks x).length) := getD_mem (List.length_pos_of_mem hm)
  obtain ⟨a, b⟩ := List.mem_filter.mp hz
  exact ⟨a, of_decide_eq_true b⟩
theorem NetF.run4 (N : NetF n ks t) {i : Nat} (hi : i < n) (h : 4 ≤ tv t (i : Int)) : Rn (nb ks) n zeroS (to4 ks (i : Int)) (upS zeroS i 4) := by
  obtain ⟨h1, h2⟩ := N.third hi h
  have hd := N.deg hi
  unfold to4
  have o1 := oth_len (wo := [thirdS ks (i : Int)]) (N.nd (i : Int))
  have o2 := oth_nd (wo := [thirdS ks (i : Int)]) (N.nd (i : Int))
  have e0 := getD_mem (l := othS ks (i : Int) [thirdS ks (i : Int)]) (j := 0) (by simp at o1; omega)
  have e1 := getD_mem (l := othS ks (i : Int) [thirdS ks (i : Int)]) (j := 1) (by simp at o1; omega)
  have ne := getD_ne o2 (i := 0) (j := 1) (by simp at o1; omega) (by simp at o1; omega) (by decide)
  generalize (othS ks (i : Int) [thirdS ks (i : Int)]).getD 0 0 = e at e0 ne ⊢
  generalize (othS ks (i : Int) [thirdS ks (i : Int)]).getD 1 0 = f at e1 ne ⊢
  obtain ⟨g0, e0'⟩ := mem_oth.mp e0
  obtain ⟨g1, e1'⟩ := mem_oth.mp e1
  clear e0 e1
  simp only [List.mem_singleton] at e0' e1'
  generalize thirdS ks (i : Int) = z at *
  have m0 := getD_mem (l := nb ks z) (j := 0) (by omega)
  have m1 := getD_mem (l := nb ks z) (j := 1) (by omega)
  have mn := getD_ne (N.nd z) (i := 0) (j := 1) (by omega) (by omega) (by decide)
  generalize (nb ks z).getD 0 0 = a at m0 mn ⊢
  generalize (nb ks z).getD 1 0 = b at m1 mn ⊢
  obtain ⟨z, rfl, hz⟩ := N.nat h1
  obtain ⟨e, rfl, he⟩ := N.nat g0
  obtain ⟨f, rfl, hf⟩ := N.nat g1
  obtain ⟨a, rfl, ha⟩ := N.nat m0
  obtain ⟨b, rfl, hb⟩ := N.nat m1
  have z1 := N.irr h1
  have z2 := N.irr g0
  have z3 := N.irr g1
  have z4 := N.irr m0
  have z5 := N.irr m1
  rw [List.append_assoc]
  exact (run_to3 (nb_ok N.ok) hz ha hb (by omega) (by omega) (by omega) m0 m1 (N.sym m0)).app (run_end4 (nb_ok N.ok) hi hz he hf (by omega) (by omega) (by omega) (by omega) (by omega) (by omega) h1 g0 g1 (N.sym g0))
theorem spare_or (a b x : Int) : (spareS a b x = a ∧ a ≠ x) ∨ (spareS a b x = b ∧ a = x) := by
  unfold spareS
  split
  · rename_i h; exact .inl ⟨rfl, h⟩
  · rename_i h; exact .inr ⟨rfl, Decidable.not_not.mp h⟩
theorem NetF.run5 (N : NetF n ks t) {i : Nat} (hi : i < n) (h : 5 ≤ tv t (i : Int)) : Rn (nb ks) n zeroS (to5 ks t (i : Int)) (upS zeroS i 5) ∧ (to5 ks t (i : Int)).length ≤ 31 ∧ ∀ x ∈ to5 ks t (i : Int), 0 ≤ x ∧ x < (n : Int) := by
  have hd := N.deg hi
  have c4 := N.many hi (j := 4) (by omega) (by omega)
  have c3 := N.many hi (j := 3) (by omega) (by omega)
  have q0 : fourS ks t (i : Int) ∈ (nb ks (i : Int)).filter fun x => decide (4 ≤ tv t x) := getD_mem (by omega)
  unfold to5
  generalize fourS ks t (i : Int) = q at q0 ⊢
  obtain ⟨q1, q2⟩ := List.mem_filter.mp q0
  have q2 := of_decide_eq_true q2
  have r0 : threeS ks t (i : Int) q ∈ (othS ks (i : Int) [q]).filter fun x => decide (3 ≤ tv t x) := getD_mem (by
    have e : (othS ks (i : Int) [q]).filter (fun x => decide (3 ≤ tv t x)) = ((nb ks (i : Int)).filter fun x => decide (3 ≤ tv t x)).filter fun x => !decide (x ∈ [q]) := by
      unfold othS
      rw [List.filter_filter, List.filter_filter]
      congr 1
      funext x
      exact Bool.and_comm _ _
    rw [e]
    have h1 := filter_two (fun x => decide (x ∈ [q])) ((nb ks (i : Int)).filter fun x => decide (3 ≤ tv t x))
    have h2 : (((nb ks (i : Int)).filter fun x => decide (3 ≤ tv t x)).filter fun x => decide (x ∈ [q])).length ≤ [q].length := len_le_of_sub (((N.nd (i : Int)).filter _).filter _) fun x hx => by
      have := (List.mem_filter.mp hx).2
      exact of_decide_eq_true this
    simp only [List.length_singleton] at h2
    omega)
  generalize threeS ks t (i : Int) q = r at r0 ⊢
  obtain ⟨r1, r2⟩ := List.mem_filter.mp r0
  have r2 := of_decide_eq_true r2
  obtain ⟨r4, r3⟩ := mem_oth.mp r1
  clear r1
  simp only [List.mem_singleton] at r3
  have o1 := oth_len (wo := [q, r]) (N.nd (i : Int))
  simp only [List.length_cons, List.length_nil] at o1
  have o2 := oth_nd (wo := [q, r]) (N.nd (i : Int))
  have e0 := getD_mem (l := othS ks (i : Int) [q, r]) (j := 0) (by omega)
  have f0 := getD_mem (l := othS ks (i : Int) [q, r]) (j := 1) (by omega)
  have ne := getD_ne o2 (i := 0) (j := 1) (by omega) (by omega) (by decide)
  unfold qr5
  generalize (othS ks (i : Int) [q, r]).getD 0 0 = e at e0 ne ⊢
  generalize (othS ks (i : Int) [q, r]).getD 1 0 = f at f0 ne ⊢
  obtain ⟨e1, e2⟩ := mem_oth.mp e0
  obtain ⟨f1, f2⟩ := mem_oth.mp f0
  simp only [List.mem_cons, List.not_mem_nil, or_false, not_or] at e2 f2
  obtain ⟨q, rfl, hq⟩ := N.nat q1
  obtain ⟨r, rfl, hr⟩ := N.nat r4
  obtain ⟨e, rfl, he⟩ := N.nat e1
  obtain ⟨f, rfl, hf⟩ := N.nat f1
  have z1 := N.irr q1
  have z2 := N.irr r4
  have z3 := N.irr e1
  have z4 := N.irr f1
  have nbk := nb_ok N.ok
  have fin : ∀ g : Nat → Int, (∀ j, j < n → g j = if j = q then 4 else if j = r then 3 else 0) → Rn (nb ks) n g [(i : Int), e, i, f, i, q, r, e, f] (upS zeroS i 5) := fun g hg =>
    run_end5 nbk hi hq hr he hf (by omega) (by omega) (by omega) (by omega) (by omega) (by omega) (by omega) (by omega) (by omega) (by omega) q1 r4 e1 f1 (N.sym e1) hg
  have main : ∀ a : List Int, Rn (nb ks) n zeroS a (fun j => if j = q then 4 else if j = r then 3 else 0) → a.length ≤ 22 → (∀ x ∈ a, 0 ≤ x ∧ x < (n : Int)) →
      Rn (nb ks) n zeroS (a ++ [(i : Int), e, i, f, i, q, r, e, f]) (upS zeroS i 5) ∧ (a ++ [(i : Int), e, i, f, i, q, r, e, f]).length ≤ 31 ∧ ∀ x ∈ a ++ [(i : Int), e, i, f, i, q, r, e, f], 0 ≤ x ∧ x < (n : Int) := fun a ha hl hx => by
    refine ⟨ha.app (fin _ fun j _ => rfl), by rw [List.length_append]; simp only [List.length_cons, List.length_nil]; omega, fun x hm => ?_⟩
    rcases List.mem_append.mp hm with hm | hm
    · exact hx x hm
    · simp only [List.mem_cons, List.not_mem_nil, or_false] at hm
      omega
  unfold fin5 pre5
  have bx : ∀ (sp go l : Nat), sp < n → go < n → l < n → ∀ x ∈ bes2 (i : Int) sp go l, 0 ≤ x ∧ x < (n : Int) := fun sp go l h1 h2 h3 x hx => by
    unfold bes2 at hx
    simp only [List.mem_cons, List.not_mem_nil, or_false] at hx
    omega
  cases ho : othS ks (r : Int) [(i : Int), (q : Int)] with
  | cons x l =>
    have hx0 : x ∈ othS ks (r : Int) [(i : Int), (q : Int)] := by rw [ho]; exact List.mem_cons_self
    obtain ⟨x1, x2⟩ := mem_oth.mp hx0
    clear hx0
    dsimp only
    simp only [List.mem_cons, List.not_mem_nil, or_false, not_or] at x2
    obtain ⟨x, rfl, hx⟩ := N.nat x1
    have z5 := N.irr x1
    obtain ⟨sp, es, hs, ns, as⟩ : ∃ sp : Nat, spareS (f : Int) (e : Int) (x : Int) = (sp : Int) ∧ sp < n ∧ (sp = f ∨ sp = e) ∧ (sp : Int) ∈ nb ks (i : Int) := by
      rcases spare_or (f : Int) (e : Int) (x : Int) with ⟨h, _⟩ | ⟨h, _⟩
      · exact ⟨f, h, hf, .inl rfl, f1⟩
      · exact ⟨e, h, he, .inr rfl, e1⟩
    rw [es]
    refine main _ (((N.run4 hq q2).app (run_bes3 nbk hi hs hr hx (by omega) (by omega) (by omega) (by omega) (by omega) (by omega) (by omega) (by omega) as (N.sym r4) x1 (by omega))).to fun j _ => by walk_at "uu") (by
      rw [List.length_append]; unfold to4 to3 bes2; simp) fun y hy => ?_
    rcases List.mem_append.mp hy with hy | hy
    · obtain ⟨h1, h2⟩ := N.third hq q2
      unfold to4 at hy
      have o1 := oth_len (wo := [thirdS ks (q : Int)]) (N.nd (q : Int))
      have hdq := N.deg hq
      simp only [List.length_singleton] at o1
      have w0 := (mem_oth.mp (getD_mem (l := othS ks (q : Int) [thirdS ks (q : Int)]) (j := 0) (by omega))).1
      have w1 := (mem_oth.mp (getD_mem (l := othS ks (q : Int) [thirdS ks (q : Int)]) (j := 1) (by omega))).1
      have m0 := getD_mem (l := nb ks (thirdS ks (q : Int))) (j := 0) (by omega)
      have m1 := getD_mem (l := nb ks (thirdS ks (q : Int))) (j := 1) (by omega)
      have k1 := nb_rng N.ok h1
      have k2 := nb_rng N.ok w0
      have k3 := nb_rng N.ok w1
      have k4 := nb_rng N.ok m0
      have k5 := nb_rng N.ok m1
      unfold to3 at hy
      simp only [List.mem_append, List.mem_cons, List.not_mem_nil, or_false] at hy
      omega
    · exact bx sp r x hs hr hx y hy
  | nil =>
    dsimp only
    have hdr := N.deg hr
    have hdq := N.deg hq
    have emp : ∀ y : Int, y ∈ nb ks (r : Int) → y = (i : Int) ∨ y = (q : Int) := fun y hy => by
      by_cases c1 : y = (i : Int)
      · exact .inl c1
      · by_cases c2 : y = (q : Int)
        · exact .inr c2
        · have : y ∈ othS ks (r : Int) [(i : Int), (q : Int)] := mem_oth.mpr ⟨hy, by simp [c1, c2]⟩
          rw [ho] at this
          cases this
    have rq : (q : Int) ∈ nb ks (r : Int) := by
      by_cases c : (q : Int) ∈ nb ks (r : Int)
      · exact c
      · have := len_le_of_sub (m := [(i : Int)]) (N.nd (r : Int)) fun y hy => by
          rcases emp y hy with rfl | rfl
          · exact List.mem_singleton.mpr rfl
          · exact absurd hy c
        simp only [List.length_singleton] at this
        omega
    have o3 := oth_len (wo := [(i : Int), (r : Int)]) (N.nd (q : Int))
    simp only [List.length_cons, List.length_nil] at o3
    have x0 := getD_mem (l := othS ks (q : Int) [(i : Int), (r : Int)]) (j := 0) (by omega)
    generalize (othS ks (q : Int) [(i : Int), (r : Int)]).getD 0 0 = x at x0 ⊢
    obtain ⟨x1, x2⟩ := mem_oth.mp x0
    simp only [List.mem_cons, List.not_mem_nil, or_false, not_or] at x2
    obtain ⟨x, rfl, hx⟩ := N.nat x1
    have z5 := N.irr x1
    obtain ⟨sp, es, hs, ns, as⟩ : ∃ sp : Nat, spareS (f : Int) (e : Int) (x : Int) = (sp : Int) ∧ sp < n ∧ (sp = f ∨ sp = e) ∧ (sp : Int) ∈ nb ks (i : Int) := by
      rcases spare_or (f : Int) (e : Int) (x : Int) with ⟨h, _⟩ | ⟨h, _⟩
      · exact ⟨f, h, hf, .inl rfl, f1⟩
      · exact ⟨e, h, he, .inr rfl, e1⟩
    rw [es]
    refine main _ (((run_to3 nbk hr hi hq (by omega) (by omega) (by omega) (N.sym r4) rq r4).app (run_bes4 nbk hi hs hq hx (by omega) (by omega) (by omega) (by omega) (by omega) (by omega) (by omega) (by omega) as (N.sym q1) x1 (N.sym rq) (by omega))).to fun j _ => by walk_at "uu") (by
      rw [List.length_append]; unfold to3 bes2; simp) fun y hy => ?_
    rcases List.mem_append.mp hy with hy | hy
    · unfold to3 at hy
      simp only [List.mem_cons, List.not_mem_nil, or_false] at hy
      omega
    · exact bx sp q x hs hq hx y hy
theorem pw1 : (2 : Int) ^ (1 : Int).toNat - 1 = 1 := by decide
theorem pw2 : (2 : Int) ^ (2 : Int).toNat - 1 = 3 := by decide
theorem pw3 : (2 : Int) ^ (3 : Int).toNat - 1 = 7 := by decide
theorem pw4 : (2 : Int) ^ (4 : Int).toNat - 1 = 15 := by decide
/-- LOW: the switchings to c leave all others off -/
theorem NetF.low (N : NetF n ks t) {i : Nat} (hi : i < n) {c : Int} (h1 : 1 ≤ c) (h5 : c ≤ 5) (hc : c ≤ tv t (i : Int)) :
    Rn (nb ks) n zeroS (lowS ks t (i : Int) c) (upS zeroS i c) ∧ ((lowS ks t (i : Int) c).length : Int) ≤ 2 ^ c.toNat - 1 ∧ ∀ x ∈ lowS ks t (i : Int) c, 0 ≤ x ∧ x < (n : Int) := by
  have nbk := nb_ok N.ok
  have hd := N.deg hi
  unfold lowS
  rcases (show c = 1 ∨ c = 2 ∨ c = 3 ∨ c = 4 ∨ c = 5 by omega) with rfl | rfl | rfl | rfl | rfl
  · rw [if_pos rfl]
    refine ⟨.on 1 nbk hi rfl (by omega) (fun j _ _ _ => by walk_at "uu") (fun d a b => by omega) (.nil fun j _ => rfl), by rw [pw1]; simp, fun x hx => ?_⟩
    rw [List.mem_singleton.mp hx]
    omega
  · rw [if_neg (by decide), if_pos rfl]
    have m0 := getD_mem (l := nb ks (i : Int)) (j := 0) (by omega)
    generalize (nb ks (i : Int)).getD 0 0 = a at m0 ⊢
    obtain ⟨a, rfl, ha⟩ := N.nat m0
    have z := N.irr m0
    refine ⟨.on 1 nbk ha rfl (by omega) (fun j _ _ _ => by walk_at "uu") (fun d a b => by omega) (.on 2 nbk hi (by walk_at "uu") (by omega) (fun j _ _ _ => by walk_at "uu") (one_d ⟨a, m0, by walk_at "uu"⟩) (.off ha (by walk_at "uu") (.nil fun j _ => by walk_at "uu"))), by rw [pw2]; simp, fun x hx => ?_⟩
    simp only [List.mem_cons, List.not_mem_nil, or_false] at hx
    omega
  · rw [if_neg (by decide), if_neg (by decide), if_pos rfl]
    have m0 := getD_mem (l := nb ks (i : Int)) (j := 0) (by omega)
    have m1 := getD_mem (l := nb ks (i : Int)) (j := 1) (by omega)
    have mn := getD_ne (N.nd (i : Int)) (i := 0) (j := 1) (by omega) (by omega) (by decide)
    generalize (nb ks (i : Int)).getD 0 0 = a at m0 mn ⊢
    generalize (nb ks (i : Int)).getD 1 0 = b at m1 mn ⊢
    obtain ⟨a, rfl, ha⟩ := N.nat m0
    obtain ⟨b, rfl, hb⟩ := N.nat m1
    have z4 := N.irr m0
    have z5 := N.irr m1
    refine ⟨run_to3 nbk hi ha hb (by omega) (by omega) (by omega) m0 m1 (N.sym m0), by rw [pw3]; unfold to3; simp, fun x hx => ?_⟩
    unfold to3 at hx
    simp only [List.mem_cons, List.not_mem_nil, or_false] at hx
    omega
  · rw [if_neg (by decide), if_neg (by decide), if_neg (by decide), if_pos rfl]
    refine ⟨N.run4 hi hc, by rw [pw4]; unfold to4 to3; simp, fun x hx => ?_⟩
    obtain ⟨h1, h2⟩ := N.third hi hc
    unfold to4 at hx
    have o1 := oth_len (wo := [thirdS ks (i : Int)]) (N.nd (i : Int))
    simp only [List.length_singleton] at o1
    have w0 := (mem_oth.mp (getD_mem (l := othS ks (i : Int) [thirdS ks (i : Int)]) (j := 0) (by omega))).1
    have w1 := (mem_oth.mp (getD_mem (l := othS ks (i : Int) [thirdS ks (i : Int)]) (j := 1) (by omega))).1
    have m0 := getD_mem (l := nb ks (thirdS ks (i : Int))) (j := 0) (by omega)
    have m1 := getD_mem (l := nb ks (thirdS ks (i : Int))) (j := 1) (by omega)
    have k1 := nb_rng N.ok h1
    have k2 := nb_rng N.ok w0
    have k3 := nb_rng N.ok w1
    have k4 := nb_rng N.ok m0
    have k5 := nb_rng N.ok m1
    unfold to3 at hx
    simp only [List.mem_append, List.mem_cons, List.not_mem_nil, or_false] at hx
    omega
  · rw [if_neg (by decide), if_neg (by decide), if_neg (by decide), if_neg (by decide)]
    obtain ⟨a, b, d⟩ := N.run5 hi hc
    exact ⟨a, by
      have e : (2 : Int) ^ (5 : Int).toNat - 1 = 31 := by decide
      rw [e]
      omega, d⟩
/-- BOUND: no state that can arise has a channel above the table -/
theorem NetF.bound (N : NetF n ks t) {s : List Int} (h : Rch (nb ks) n s) : ∀ i : Nat, i < n → tv s (i : Int) ≤ tv t (i : Int) := by
  have pos : ∀ i : Nat, i < n → 1 ≤ tv t (i : Int) := fun i hi => by have := (N.tab.2 i hi).1; omega
  induction h with
  | zero =>
    intro i hi
    rw [tv_rep hi]
    have := pos i hi
    omega
  | @step s k hs hk ih =>
    intro i hi
    rw [sw_tv (by rw [hs.len]; exact hk)]
    split
    · rename_i e
      subst e
      unfold chn
      split
      · have m := mexL_is ((nb ks (i : Int)).map (tv s))
        generalize mexL ((nb ks (i : Int)).map (tv s)) = c at m ⊢
        have hh : Has ((nb ks (i : Int)).map (tv t)) (c - 1) := fun j h1 h2 => by
          unfold cge
          rw [List.countP_map, List.countP_eq_length_filter]
          have nd : ((List.range (c - j).toNat).map fun (a : Nat) => (a : Int) + j).Nodup :=
            List.pairwise_map.mpr (by
              refine List.Pairwise.imp ?_ List.nodup_range
              intro a b ne e
              exact ne (by omega))
          have := len_le_of_sub (m := ((nb ks (i : Int)).filter ((fun x => decide (j ≤ x)) ∘ tv t)).map (tv s)) nd fun x hx => by
            obtain ⟨a, ha, rfl⟩ := List.mem_map.mp hx
            have := List.mem_range.mp ha
            obtain ⟨y, hy, ey⟩ := List.mem_map.mp (m.all ((a : Int) + j) (by omega) (by omega))
            obtain ⟨y', rfl, hy'⟩ := N.nat hy
            have := ih y' hy'
            refine List.mem_map.mpr ⟨_, List.mem_filter.mpr ⟨hy, ?_⟩, ey⟩
            show decide (j ≤ tv t (y' : Int)) = true
            exact decide_eq_true (by omega)
          rw [List.length_map, List.length_map, List.length_range] at this
          omega
        have := ((N.tab.2 i hi).2 (c - 1)).mpr hh
        omega
      · have := pos i hi
        omega
    · exact ih i hi
end
end NX

namespace NX
/-! ### linked stations have different channels; a network where one never gets 6 -/
theorem chn_pos {nbr : Nbr} {s : List Int} {k : Nat} {c : Int} (h : chn nbr s k = c) {d : Int} (h1 : 1 ≤ d) (h2 : d < c) : ∃ o ∈ nbr (k : Int), tv s o = d := by
  unfold chn at h
  split at h
  · have m := mexL_is ((nbr (k : Int)).map (tv s))
    rw [h] at m
    obtain ⟨o, ho, e⟩ := List.mem_map.mp (m.all d h1 h2)
    exact ⟨o, ho, e⟩
  · omega
theorem chn_ne {nbr : Nbr} {s : List Int} {k : Nat} (h : chn nbr s k ≠ 0) {o : Int} (ho : o ∈ nbr (k : Int)) : tv s o ≠ chn nbr s k := by
  unfold chn at *
  split
  · have m := mexL_is ((nbr (k : Int)).map (tv s))
    exact fun e => m.no (List.mem_map.mpr ⟨o, ho, e⟩)
  · rename_i q
    rw [if_neg q] at h
    exact absurd rfl h
theorem NetF.proper {n : Nat} {ks : List Pr} {t : List Int} (N : NetF n ks t) {s : List Int} (h : Rch (nb ks) n s) : ∀ i j : Nat, i < n → (j : Int) ∈ nb ks (i : Int) → tv s (i : Int) ≠ 0 → tv s (i : Int) ≠ tv s (j : Int) := by
  induction h with
  | zero =>
    intro i j hi _ h
    rw [tv_rep hi] at h
    exact absurd rfl h
  | @step s k hs hk ih =>
    intro i j hi hj h
    have hl := hs.len
    have hjn : (j : Int) ≠ (i : Int) := N.irr hj
    rw [sw_tv (by omega)] at h ⊢
    rw [sw_tv (by omega)]
    by_cases e : i = k
    · subst e
      rw [if_pos rfl] at h ⊢
      rw [if_neg (by omega)]
      exact fun z => chn_ne h hj z.symm
    · rw [if_neg e] at h ⊢
      by_cases e2 : j = k
      · subst e2
        rw [if_pos rfl]
        intro z
        have z' : chn (nb ks) s j ≠ 0 := fun q => h (z.trans q)
        exact chn_ne z' (N.sym hj) z
      · rw [if_neg e2]
        exact ih i j hi hj h
/-- the middle one and the stations around it -/
structure Eight (n : Nat) (ks : List Pr) (t : List Int) (z a b c d e f g : Nat) : Prop where
  zl : z < n
  cl : c < n
  dl : d < n
  el : e < n
  fl : f < n
  gl : g < n
  al : a < n
  bl : b < n
  nd : d ≠ c ∧ e ≠ c ∧ e ≠ d ∧ z ≠ c ∧ z ≠ d ∧ z ≠ e
  nz : ∀ o ∈ nb ks (z : Int), o = (a : Int) ∨ o = (b : Int) ∨ o = (c : Int) ∨ o = (d : Int) ∨ o = (e : Int)
  nc : ∀ o ∈ nb ks (c : Int), o = (z : Int) ∨ o = (d : Int)
  ndd : ∀ o ∈ nb ks (d : Int), o = (z : Int) ∨ o = (c : Int) ∨ o = (e : Int)
  ne : ∀ o ∈ nb ks (e : Int), o = (z : Int) ∨ o = (d : Int) ∨ o = (f : Int) ∨ o = (g : Int)
  zc : (c : Int) ∈ nb ks (z : Int)
  tz : tv t (z : Int) = 6
  ta : tv t (a : Int) = 2
  tb : tv t (b : Int) = 2
  tc : tv t (c : Int) = 3
  td : tv t (d : Int) = 4
  te : tv t (e : Int) = 5
  tf : tv t (f : Int) = 2
  tg : tv t (g : Int) = 2
theorem NetF.never6 {n : Nat} {ks : List Pr} {t : List Int} (N : NetF n ks t) {z a b c d e f g : Nat} (A : Eight n ks t z a b c d e f g) {s : List Int} (h : Rch (nb ks) n s) : ¬ (tv s (c : Int) = 3 ∧ tv s (d : Int) = 4 ∧ tv s (e : Int) = 5) ∧ tv s (z : Int) ≤ 5 := by
  induction h with
  | zero => rw [tv_rep A.cl, tv_rep A.zl]; omega
  | @step s k hs hk ih =>
    have hl := hs.len
    have bd := N.bound hs
    have b1 := bd a A.al
    have b2 := bd b A.bl
    have b3 := bd c A.cl
    have b4 := bd d A.dl
    have b5 := bd e A.el
    have b6 := bd f A.fl
    have b7 := bd g A.gl
    have b8 := N.bound (hs.step hk) z A.zl
    rw [A.ta] at b1
    rw [A.tb] at b2
    rw [A.tc] at b3
    rw [A.td] at b4
    rw [A.te] at b5
    rw [A.tf] at b6
    rw [A.tg] at b7
    rw [A.tz] at b8
    obtain ⟨n1, n2, n3, n4, n5, n6⟩ := A.nd
    obtain ⟨i1, i2⟩ := ih
    rw [sw_tv (by omega)] at b8
    rw [sw_tv (by omega), sw_tv (by omega), sw_tv (by omega), sw_tv (by omega)]
    refine ⟨fun ⟨q1, q2, q3⟩ => ?_, ?_⟩
    · by_cases k1 : c = k
      · subst k1
        rw [if_pos rfl] at q1
        rw [if_neg n1] at q2
        obtain ⟨o1, m1, v1⟩ := chn_pos q1 (d := 1) (by decide) (by decide)
        obtain ⟨o2, m2, v2⟩ := chn_pos q1 (d := 2) (by decide) (by decide)
        rcases A.nc o1 m1 with rfl | rfl <;> rcases A.nc o2 m2 with rfl | rfl <;> omega
      · rw [if_neg k1] at q1
        by_cases k2 : d = k
        · subst k2
          rw [if_pos rfl] at q2
          rw [if_neg n3] at q3
          obtain ⟨o1, m1, v1⟩ := chn_pos q2 (d := 1) (by decide) (by decide)
          obtain ⟨o2, m2, v2⟩ := chn_pos q2 (d := 2) (by decide) (by decide)
          rcases A.ndd o1 m1 with rfl | rfl | rfl <;> rcases A.ndd o2 m2 with rfl | rfl | rfl <;> omega
        · rw [if_neg k2] at q2
          by_cases k3 : e = k
          · subst k3
            rw [if_pos rfl] at q3
            obtain ⟨o3, m3, v3⟩ := chn_pos q3 (d := 3) (by decide) (by decide)
            rcases A.ne o3 m3 with rfl | rfl | rfl | rfl
            · have := N.proper hs z c A.zl A.zc (by omega)
              omega
            · omega
            · omega
            · omega
          · rw [if_neg k3] at q3
            exact i1 ⟨q1, q2, q3⟩
    · by_cases k1 : z = k
      · subst k1
        rw [if_pos rfl] at b8 ⊢
        by_cases q : chn (nb ks) s z = 6
        · obtain ⟨o5, m5, v5⟩ := chn_pos q (d := 5) (by decide) (by decide)
          obtain ⟨o4, m4, v4⟩ := chn_pos q (d := 4) (by decide) (by decide)
          obtain ⟨o3, m3, v3⟩ := chn_pos q (d := 3) (by decide) (by decide)
          have r5 : tv s (e : Int) = 5 := by rcases A.nz o5 m5 with rfl | rfl | rfl | rfl | rfl <;> omega
          have r4 : tv s (d : Int) = 4 := by rcases A.nz o4 m4 with rfl | rfl | rfl | rfl | rfl <;> omega
          have r3 : tv s (c : Int) = 3 := by rcases A.nz o3 m3 with rfl | rfl | rfl | rfl | rfl <;> omega
          exact absurd ⟨r3, r4, r5⟩ i1
        · omega
      · rw [if_neg k1]
        exact i2
end NX

namespace NX
/-! ### chains, asked by computing -/
def hasB (ns : List Int) (k : Nat) : Bool := (List.range k).all fun (j : Nat) => decide ((k : Int) - ((j : Int) + 1) + 1 ≤ (cge ns ((j : Int) + 1) : Int))
theorem hasB_iff {ns : List Int} {k : Nat} : hasB ns k = true ↔ Has ns (k : Int) := by
  unfold hasB
  rw [List.all_eq_true]
  constructor
  · intro h j h1 h2
    have := of_decide_eq_true (h (j - 1).toNat (List.mem_range.mpr (by omega)))
    have e : (((j - 1).toNat : Nat) : Int) + 1 = j := by omega
    rw [e] at this
    exact this
  · intro h j hj
    have := List.mem_range.mp hj
    exact decide_eq_true (h ((j : Int) + 1) (by omega) (by omega))
def isChB (ns : List Int) (g : Int) : Bool := decide (0 ≤ g) && hasB ns g.toNat && !hasB ns (g.toNat + 1)
theorem isChB_is {ns : List Int} {g : Int} (h : isChB ns g = true) : IsCh ns g := by
  unfold isChB at h
  rw [Bool.and_eq_true, Bool.and_eq_true] at h
  obtain ⟨⟨h0, h1⟩, h2⟩ := h
  have h0 := of_decide_eq_true h0
  have h1 := hasB_iff.mp h1
  have e : ((g.toNat : Nat) : Int) = g := by omega
  rw [e] at h1
  refine ⟨h0, fun k => ⟨fun hk => h1.down hk, fun hk => ?_⟩⟩
  rcases Int.lt_or_le g k with c | c
  · have y : Has ns ((g.toNat + 1 : Nat) : Int) := hk.down (by omega)
    rw [hasB_iff.mpr y] at h2
    cases h2
  · exact c
def tabB (n : Nat) (ks : List Pr) (t : List Int) : Bool := decide (t.length = n) && (List.range n).all fun (i : Nat) => isChB ((nb ks (i : Int)).map (tv t)) (tv t (i : Int) - 1)
theorem tabB_is {n : Nat} {ks : List Pr} {t : List Int} (h : tabB n ks t = true) : TabF n ks t := by
  unfold tabB at h
  rw [Bool.and_eq_true] at h
  exact ⟨of_decide_eq_true h.1, fun i hi => isChB_is (List.all_eq_true.mp h.2 i (List.mem_range.mpr hi))⟩
/-- a chain that there is -/
def chB (ns : List Int) : Nat := ((List.range (ns.length + 1)).reverse.find? fun k => hasB ns k).getD 0
theorem chB_has (ns : List Int) : Has ns (chB ns : Int) := by
  unfold chB
  cases e : (List.range (ns.length + 1)).reverse.find? fun k => hasB ns k with
  | none =>
    intro j h1 h2
    have h2 : j ≤ ((0 : Nat) : Int) := h2
    omega
  | some k => exact hasB_iff.mp (List.find?_some e)
theorem has_mono {α : Type} {f g : α → Int} {l : List α} {k : Int} (h : ∀ x ∈ l, f x ≤ g x) (hk : Has (l.map f) k) : Has (l.map g) k := fun j h1 h2 => by
  have := hk j h1 h2
  have := cge_mono (f := f) (g := g) (List.Sublist.refl l) h j
  omega
end NX

namespace NX
/-! ### the network of eight stations, others beside it -/
def P45 (m : Nat) : List Pr := [(0, 1), (0, 2), (0, 3), (0, 4), (0, 5), (3, 4), (4, 5), (5, 6), (5, 7)] ++ (rgI 1 (m : Int)).map fun k => (7 + k, 8 + k)
def T45 (m : Nat) : List Int := [6, 2, 2, 3, 4, 5, 2, 2] ++ ([[], [1], [2, 2], [2, 3, 2], [2, 3, 3, 2]] : List (List Int)).getD m []
theorem five {P : Nat → Prop} (h0 : P 0) (h1 : P 1) (h2 : P 2) (h3 : P 3) (h4 : P 4) : ∀ m, m ≤ 4 → P m := fun m hm => by
  have : m = 0 ∨ m = 1 ∨ m = 2 ∨ m = 3 ∨ m = 4 := by omega
  rcases this with rfl | rfl | rfl | rfl | rfl <;> assumption
def okB (n : Nat) (ks : List Pr) : Bool := ks.all fun q => decide (0 ≤ q.1 ∧ q.1 < q.2 ∧ q.2 < (n : Int))
theorem okB_is {n : Nat} {ks : List Pr} (h : okB n ks = true) : Okl n ks := fun q hq => of_decide_eq_true (List.all_eq_true.mp h q hq)
theorem p45_ok : ∀ m, m ≤ 4 → Okl (8 + m) (P45 m) := five (okB_is (by decide +kernel)) (okB_is (by decide +kernel)) (okB_is (by decide +kernel)) (okB_is (by decide +kernel)) (okB_is (by decide +kernel))
theorem p45_nd : ∀ m, m ≤ 4 → (P45 m).Nodup := five (by decide +kernel) (by decide +kernel) (by decide +kernel) (by decide +kernel) (by decide +kernel)
theorem p45_tab : ∀ m, m ≤ 4 → TabF (8 + m) (P45 m) (T45 m) := five (tabB_is (by decide +kernel)) (tabB_is (by decide +kernel)) (tabB_is (by decide +kernel)) (tabB_is (by decide +kernel)) (tabB_is (by decide +kernel))
def nb45B (m : Nat) : Bool := decide (nb (P45 m) 0 = [1, 2, 3, 4, 5]) && decide (nb (P45 m) 3 = [0, 4]) && decide (nb (P45 m) 4 = [0, 3, 5]) && decide (nb (P45 m) 5 = [0, 4, 6, 7])
theorem p45_nb : ∀ m, m ≤ 4 → nb45B m = true := five (by decide +kernel) (by decide +kernel) (by decide +kernel) (by decide +kernel) (by decide +kernel)
theorem t45 (m : Nat) : ∀ k : Nat, k < 8 → tv (T45 m) (k : Int) = tv [6, 2, 2, 3, 4, 5, 2, 2] (k : Int) := fun k hk => by
  unfold T45
  rw [tv_nat, tv_nat, List.getD_eq_getElem?_getD, List.getElem?_append_left (by simpa using hk), List.getD_eq_getElem?_getD]
theorem eight_of {m : Nat} (hm : m ≤ 4) {ns : List Int} (hp : ns.Perm (rgI 0 ((8 + m : Nat) : Int))) {P' : List Pr} (hP : P'.Perm (P45 m)) {t : List Int} (ht : TabF (8 + m) (renL ns P') t) :
    (∀ k : Nat, k < 8 → tv t (tv ns (k : Int)) = tv [6, 2, 2, 3, 4, 5, 2, 2] (k : Int)) ∧ Eight (8 + m) (renL ns P') t (tv ns 0).toNat (tv ns 1).toNat (tv ns 2).toNat (tv ns 3).toNat (tv ns 4).toNat (tv ns 5).toNat (tv ns 6).toNat (tv ns 7).toNat := by
  obtain ⟨bs, B⟩ := back_ex hp
  have a := B.a
  have ok : Okl (8 + m) P' := fun q hq => p45_ok m hm q (hP.mem_iff.mp hq)
  have tt : ∀ k : Nat, k < 8 → tv t (tv ns (k : Int)) = tv [6, 2, 2, 3, 4, 5, 2, 2] (k : Int) := fun k hk => by
    rw [ren_tab B ok ((p45_tab m hm).perm hP.symm) ht ⟨by omega, by omega⟩, t45 m k hk]
  have rg : ∀ k : Nat, k < 8 → 0 ≤ tv ns (k : Int) ∧ tv ns (k : Int) < ((8 + m : Nat) : Int) := fun k hk => a.rng (by omega) (by omega)
  have z : ∀ k : Nat, k < 8 → (((tv ns (k : Int)).toNat : Nat) : Int) = tv ns (k : Int) := fun k hk => by have := rg k hk; omega
  have inj : ∀ j k : Nat, j < 8 → k < 8 → j ≠ k → (tv ns (j : Int)).toNat ≠ (tv ns (k : Int)).toNat := fun j k hj hk hn e => by
    have h1 := z j hj
    have h2 := z k hk
    rw [e] at h1
    have := a.inj (i := (j : Int)) (j := (k : Int)) ⟨by omega, by omega⟩ ⟨by omega, by omega⟩ (h1.symm.trans h2)
    omega
  have nbm : ∀ (k : Nat) (l : List Int), k < 8 → nb (P45 m) (k : Int) = l → ∀ o, o ∈ nb (renL ns P') (tv ns (k : Int)) ↔ ∃ x ∈ l, tv ns x = o := fun k l hk hl o => by
    rw [nb_ren a ⟨by omega, by omega⟩ ok, List.mem_map, ← hl]
    exact ⟨fun ⟨x, h1, h2⟩ => ⟨x, (nb_perm hP (k : Int)).mem_iff.mp h1, h2⟩, fun ⟨x, h1, h2⟩ => ⟨x, (nb_perm hP (k : Int)).mem_iff.mpr h1, h2⟩⟩
  have q := p45_nb m hm
  unfold nb45B at q
  simp only [Bool.and_eq_true, decide_eq_true_eq] at q
  obtain ⟨⟨⟨q0, q3⟩, q4⟩, q5⟩ := q
  have m0 : ∀ o, o ∈ nb (renL ns P') (tv ns 0) ↔ ∃ x ∈ ([1, 2, 3, 4, 5] : List Int), tv ns x = o := nbm 0 _ (by decide) q0
  have m3 : ∀ o, o ∈ nb (renL ns P') (tv ns 3) ↔ ∃ x ∈ ([0, 4] : List Int), tv ns x = o := nbm 3 _ (by decide) q3
  have m4 : ∀ o, o ∈ nb (renL ns P') (tv ns 4) ↔ ∃ x ∈ ([0, 3, 5] : List Int), tv ns x = o := nbm 4 _ (by decide) q4
  have m5 : ∀ o, o ∈ nb (renL ns P') (tv ns 5) ↔ ∃ x ∈ ([0, 4, 6, 7] : List Int), tv ns x = o := nbm 5 _ (by decide) q5
  have z0 : (((tv ns 0).toNat : Nat) : Int) = tv ns 0 := z 0 (by decide)
  have r0 : 0 ≤ tv ns 0 ∧ tv ns 0 < ((8 + m : Nat) : Int) := rg 0 (by decide)
  have e0 : tv t (tv ns 0) = 6 := tt 0 (by decide)
  have z1 : (((tv ns 1).toNat : Nat) : Int) = tv ns 1 := z 1 (by decide)
  have r1 : 0 ≤ tv ns 1 ∧ tv ns 1 < ((8 + m : Nat) : Int) := rg 1 (by decide)
  have e1 : tv t (tv ns 1) = 2 := tt 1 (by decide)
  have z2 : (((tv ns 2).toNat : Nat) : Int) = tv ns 2 := z 2 (by decide)
  have r2 : 0 ≤ tv ns 2 ∧ tv ns 2 < ((8 + m : Nat) : Int) := rg 2 (by decide)
  have e2 : tv t (tv ns 2) = 2 := tt 2 (by decide)
  have z3 : (((tv ns 3).toNat : Nat) : Int) = tv ns 3 := z 3 (by decide)
  have r3 : 0 ≤ tv ns 3 ∧ tv ns 3 < ((8 + m : Nat) : Int) := rg 3 (by decide)
  have e3 : tv t (tv ns 3) = 3 := tt 3 (by decide)
  have z4 : (((tv ns 4).toNat : Nat) : Int) = tv ns 4 := z 4 (by decide)
  have r4 : 0 ≤ tv ns 4 ∧ tv ns 4 < ((8 + m : Nat) : Int) := rg 4 (by decide)
  have e4 : tv t (tv ns 4) = 4 := tt 4 (by decide)
  have z5 : (((tv ns 5).toNat : Nat) : Int) = tv ns 5 := z 5 (by decide)
  have r5 : 0 ≤ tv ns 5 ∧ tv ns 5 < ((8 + m : Nat) : Int) := rg 5 (by decide)
  have e5 : tv t (tv ns 5) = 5 := tt 5 (by decide)
  have z6 : (((tv ns 6).toNat : Nat) : Int) = tv ns 6 := z 6 (by decide)
  have r6 : 0 ≤ tv ns 6 ∧ tv ns 6 < ((8 + m : Nat) : Int) := rg 6 (by decide)
  have e6 : tv t (tv ns 6) = 2 := tt 6 (by decide)
  have z7 : (((tv ns 7).toNat : Nat) : Int) = tv ns 7 := z 7 (by decide)
  have r7 : 0 ≤ tv ns 7 ∧ tv ns 7 < ((8 + m : Nat) : Int) := rg 7 (by decide)
  have e7 : tv t (tv ns 7) = 2 := tt 7 (by decide)
  refine ⟨tt, ?_⟩
  exact {
    zl := by omega, cl := by omega, dl := by omega, el := by omega, fl := by omega, gl := by omega, al := by omega, bl := by omega
    nd := ⟨inj 4 3 (by decide) (by decide) (by decide), inj 5 3 (by decide) (by decide) (by decide), inj 5 4 (by decide) (by decide) (by decide), inj 0 3 (by decide) (by decide) (by decide), inj 0 4 (by decide) (by decide) (by decide), inj 0 5 (by decide) (by decide) (by decide)⟩
    nz := by
      intro o ho
      rw [z0] at ho
      obtain ⟨x, hx, rfl⟩ := (m0 o).mp ho
      rw [z1, z2, z3, z4, z5]
      simp only [List.mem_cons, List.not_mem_nil, or_false] at hx
      rcases hx with rfl | rfl | rfl | rfl | rfl <;> simp
    nc := by
      intro o ho
      rw [z3] at ho
      obtain ⟨x, hx, rfl⟩ := (m3 o).mp ho
      rw [z0, z4]
      simp only [List.mem_cons, List.not_mem_nil, or_false] at hx
      rcases hx with rfl | rfl <;> simp
    ndd := by
      intro o ho
      rw [z4] at ho
      obtain ⟨x, hx, rfl⟩ := (m4 o).mp ho
      rw [z0, z3, z5]
      simp only [List.mem_cons, List.not_mem_nil, or_false] at hx
      rcases hx with rfl | rfl | rfl <;> simp
    ne := by
      intro o ho
      rw [z5] at ho
      obtain ⟨x, hx, rfl⟩ := (m5 o).mp ho
      rw [z0, z4, z6, z7]
      simp only [List.mem_cons, List.not_mem_nil, or_false] at hx
      rcases hx with rfl | rfl | rfl | rfl <;> simp
    zc := by
      rw [z0, z3]
      exact (m0 _).mpr ⟨3, by simp, rfl⟩
    tz := by rw [z0, e0]
    ta := by rw [z1, e1]
    tb := by rw [z2, e2]
    tc := by rw [z3, e3]
    td := by rw [z4, e4]
    te := by rw [z5, e5]
    tf := by rw [z6, e6]
    tg := by rw [z7, e7] }
end NX

namespace NX
open PySem PySem.Spec PyProof.Rows L2
open Evl (Ex ex_l ex_t fresh_back)
/-! ### slices of tuples, tuple + tuple -/
section
variable {K : PySem.W.Frag} {G H : Hp} {L : List (Addr × HO)} {a b : Addr} {xs ys : List V} {Q : VK}
theorem n_slA {lo hi : Option Int} (S : Own G L H) (h : SqT K G a xs) (k : ∀ r G1 H1, Ex G G1 → Ex H H1 → SqT K G1 r (cutV xs lo hi) → Own G1 L H1 → Q (.ref r) H1) : rSlA K (.ref a) lo hi H Q := by
  refine ⟨a, xs, rfl, S.st h, fun e => k a G H (Ex.refl G) (Ex.refl H) ?_ S, fun _ p hp => k p _ _ (S.still hp).2.1 (Ex.new hp) (SqT.of (S.still hp).2.2) (S.still hp).1⟩
  have z : cutV xs lo hi = xs := by
    unfold cutV
    rw [e.1, e.2, List.drop_zero, Nat.sub_zero, List.take_length]
  rw [z]
  exact h
theorem n_catA (S : Own G L H) (h : SqT K G a xs) (h2 : SqT K G b ys) (hz : xs.length + ys.length ≤ 10000000) (k : ∀ r G1 H1, Ex G G1 → Ex H H1 → SqT K G1 r (xs ++ ys) → Own G1 L H1 → Q (.ref r) H1) : rCatA K (.ref a) (.ref b) H Q := by
  refine ⟨a, b, xs, ys, rfl, rfl, S.st h, S.st h2, small hz, fun e => ?_, fun _ e => ?_, fun _ _ p hp => k p _ _ (S.still hp).2.1 (Ex.new hp) (SqT.of (S.still hp).2.2) (S.still hp).1⟩
  · subst e
    exact k b G H (Ex.refl G) (Ex.refl H) h2 S
  · subst e
    exact k a G H (Ex.refl G) (Ex.refl H) (by rw [List.append_nil]; exact h) S
theorem n_clear (S : Own G ((a, .lst xs) :: L) H) (k : ∀ H1, Own G ((a, .lst []) :: L) H1 → Q .non H1) : rClear (.ref a) [] H Q := ⟨a, xs, rfl, rfl, S.get0, k _ S.put0⟩
theorem n_neP {c d : Addr} {ps qs : List Pr} {x y : List V} (h1 : SqL K H c x) (h2 : SqL K H d y) (l1 : Lks H x ps) (l2 : Lks H y qs) (k : Q (.bl (!decide (ps = qs))) H) : rNeD K (.ref c) (.ref d) H Q :=
  ⟨_, _, .lst h1 (dp_lks l1), .lst h2 (dp_lks l2), shaped_lks ps, shaped_lks qs, by rw [eqv_lks]; exact k⟩
theorem n_eqP {c d : Addr} {ps qs : List Pr} {x y : List V} (h1 : SqL K H c x) (h2 : SqL K H d y) (l1 : Lks H x ps) (l2 : Lks H y qs) (k : Q (.bl (decide (ps = qs))) H) : rEqD K (.ref c) (.ref d) H Q :=
  ⟨_, _, .lst h1 (dp_lks l1), .lst h2 (dp_lks l2), shaped_lks ps, shaped_lks qs, by rw [eqv_lks]; exact k⟩
/-- sorted(links): frozen -/
theorem n_sortPG {ps : List Pr} (S : Own G L H) (hx : SqL K G a xs) (hl : Lks G xs ps) (k : ∀ p ys G1 H1, H p = none → Ex G G1 → Ex H H1 → G1 p = some (.lst ys) → Lks G1 ys (sortP ps) → Own G1 L H1 → Q (.ref p) H1) : rSortedPO K [.ref a] H Q :=
  n_sortP S (S.sl hx) S.ex hl fun p ys G1 H1 h1 h2 h3 h4 h5 h6 => k p ys G1 H1 h1 h2 h3 h4 (h5.mono h2) h6
/-- xs.index(y): numbers, each once -/
theorem n_index {ns : List Int} {i : Nat} {x : Int} (h : SqL K H a (ns.map V.int)) (nd : ns.Nodup) (hi : ns[i]? = some x) (k : Q (.int (i : Nat)) H) : rIndex K (.ref a) [.int x] H Q :=
  ⟨a, _, .int x, i, .int x, rfl, rfl, h, rfl, all_flat ns, by rw [List.getElem?_map, hi] <;> rfl, by simp [eqV], fun m z' hm hz => by
    obtain ⟨y, hy, rfl⟩ := get_map hz
    obtain ⟨h1, e1⟩ := List.getElem?_eq_some_iff.mp hy
    obtain ⟨h2, e2⟩ := List.getElem?_eq_some_iff.mp hi
    have ne : y ≠ x := fun e => by
      have := (List.getElem_inj nd).mp (e1.trans (e.trans e2.symm))
      omega
    simp [eqV, ne], k⟩
end
end NX

namespace NX
open PySem PySem.Spec PyProof.Rows L2
open Evl (Ex ex_l ex_t fresh_back)
abbrev s_after : Stmt := top 25
theorem sc_after : FnScope ["network", "state", "station", "channel", "used", "one"] ["network", "state", "station"] (defScope s_after) := ⟨rfl, rfl, rfl, by decide +kernel, rfl, by decide +kernel, by decide +kernel⟩
abbrev s_all_off : Stmt := top 23
theorem sc_all_off : FnScope ["network"] ["network"] (defScope s_all_off) := ⟨rfl, rfl, rfl, by decide +kernel, rfl, by decide +kernel, by decide +kernel⟩
def spOff (C : Addr) : Sp := fun vs H Q _ => ∃ (a : Addr) (n : Nat) (ks : List Pr), vs = [.ref a] ∧ NetAt C H a n ks ∧ ∀ t H', Ex H H' → StA H' t (List.replicate n 0) → Q (.ref t) H'
def spAfter (C : Addr) : Sp := fun vs H Q _ => ∃ (a t : Addr) (n : Nat) (ks : List Pr) (st : List Int) (i : Nat), vs = [.ref a, .ref t, .int (i : Int)] ∧ NetAt C H a n ks ∧ StA H t st ∧ st.length = n ∧ i < n ∧ ∀ r H', Ex H H' → StA H' r (sw (nb ks) st i) → Q (.ref r) H'
theorem n_after {C : Addr} {H : Hp} {a t : Addr} {n : Nat} {ks : List Pr} {st : List Int} {i : Nat} {Q : VK} {E : XK} (N : NetAt C H a n ks) (ht : StA H t st) (hl : st.length = n) (hi : i < n)
    (k : ∀ r H', Ex H H' → StA H' r (sw (nb ks) st i) → Q (.ref r) H') : spAfter C [.ref a, .ref t, .int (i : Int)] H Q E := ⟨a, t, n, ks, st, i, rfl, N, ht, hl, hi, k⟩
section
variable {P : Program} {w : World} {K : PySem.W.Frag} {mg : Str → Option Value} {base : Heap} {C : Addr}
theorem ok_off {f : Addr} {fd : FuncData} (F : Fun K "all_off" "all_off" s_all_off f fd) (T : Txt mg) (NC : NetC K C) (M_len : Mth P w K mg base 1 C "__len__" ["self"] (spLen C)) : FnOk P w K mg base CX0 3 f fd ["network"] (spOff C) := by
  refine F.ok sc_all_off (fun vs H Q E h => ?_) (fun cdv A outer s H vs Q E hr h => ?_)
  · obtain ⟨a, n, ks, rfl, _⟩ := h
    rfl
  · obtain ⟨a, n, ks, rfl, N, k⟩ := h
    have hs := N.sz
    refine ⟨_, (pss_one (ps_ret (pe_op op_rep1 (pe_tup (pa_cons pe_int pa_nil)) (pe_callB (call_lenNet NC M_len (hr.mono (by first | decide | omega))) (by rfl) T.n_len (by decide +kernel) (pa_cons (pv 0) pa_nil))))), ?_⟩
    walk_at "go"
    refine n_tup (Own.start H) (by show 1 ≤ 10000000; decide) fun t G1 H1 _ e1 _ ht S1 => ?_
    walk_at "go"
    refine n_lenNet (N.mono (e1.trans S1.ex)) ?_
    refine n_rep1 (n := n) S1 ht hs.1 (Nat.le_trans hs.2 (by decide)) fun p G2 H2 e2 _ hp S2 => ?_
    walk_at "go"
    exact k p H2 ((e1.trans e2).trans S2.ex) (S2.ex _ _ hp)
theorem ok_after {f : Addr} {fd : FuncData} (F : Fun K "after" "after" s_after f fd) (T : Txt mg) (NC : NetC K C) : FnOk P w K mg base CX0 1 f fd ["network", "state", "station"] (spAfter C) := by
  refine F.ok sc_after (fun vs H Q E h => ?_) (fun cdv A outer s H vs Q E hr h => ?_)
  · obtain ⟨a, t, n, ks, st, i, rfl, _⟩ := h
    rfl
  · obtain ⟨a, t, n, ks, st, i, rfl, N, ht, hl, hi, k⟩ := h
    have hs := N.sz
    have ok := N.ok
    obtain ⟨dx, kp, np, xs, nps, o⟩ := N.at_
    obtain ⟨p, hp⟩ : ∃ p, nps[i]? = some p := ⟨_, List.getElem?_eq_getElem (by have := o.len; omega)⟩
    have hz := I_len N.ok N.up N.nd (i : Int)
    refine ⟨_, (pss_cons (ps_set (i := 3) sc_after.nd rfl (Or.inl rfl) pe_int)
      (pss_cons (ps_if (pt_cmpR op_eq (pe_ix ix_tup (pv 1) (pv 2) (fun _ _ => rfl)) pe_int (nomark _)) (pss_cons (ps_setLc (i := 4) (own := [("one", 5)]) (by rfl) sc_after.nd rfl rfl (sw_true rfl rfl rfl (by decide +kernel)) (pi_list (pe_ix ix_list (pe_fld (pv 0) rfl) (pv 2) (fun _ _ => rfl))) (blkOk_by (own := [("one", 5)]) (N := ["network", "state", "station", "channel", "used", "one"]) (sc := defScope s_after) (by decide +kernel)) (fun _ _ _ _ _ => (pg_name (i := 5) sc_after.nd rfl (Or.inl rfl))) (fun _ _ _ _ _ => pts_nil) (fun _ _ _ _ _ => (pe_ix (ix_tupK (K := K)) (pv 1) (pv 5) (fun _ _ => rfl))))
      (pss_cons (ps_set (i := 3) sc_after.nd rfl (Or.inl rfl) pe_int)
      (pss_one (ps_while PassesOwn.never (pt_cmpR op_in_seq (pv 3) (pv 4) rfl) (pss_one (ps_aug (i := 3) sc_after.nd rfl (Or.inl rfl) pe_int ip_add)))))) pss_nil)
      (pss_one (ps_ret (pe_op op_catA (pe_op op_catA (pe_slice sl_tupA (pv 1) po_none (po_some (pv 2))) (pe_tup (pa_cons (pv 3) pa_nil))) (pe_slice sl_tupA (pv 1) (po_some (pe_op op_add (pv 2) pe_int)) po_none)))))), ?_⟩
    refine s_seq ?_
    refine s_asg ?_
    refine g_c ?_
    refine s_name ?_
    refine s_seq ?_
    refine s_join (fun σ2 H2 => ∃ (c : Int) (x4 x5 : Option V), σ2 = [some (.ref a), some (.ref t), some (.int (i : Int)), some (.int c), x4, x5] ∧ Ex H H2 ∧ c = chn (nb ks) st i) ?_ (fun n' hn' => ?_)
    · rintro σ2 H2 ⟨c, x4, x5, rfl, e2, rfl⟩
      have ht2 : SqT K H2 t (st.map V.int) := SqT.of (e2 _ _ ht)
      walk_at "go"
      refine n_slA (Own.start H2) ht2 fun r3 G3 H3 e3 _ hr3 S3 => ?_
      rw [cut_take] at hr3
      walk_at "go"
      refine n_tup S3 (by show 1 ≤ 10000000; decide) fun t4 G4 H4 _ e4 _ ht4 S4 => ?_
      walk_at "go"
      refine n_catT1 S4 (ex_t e4 hr3) ht4 (by simp) (by simp; omega) fun r5 G5 H5 e5 _ hr5 S5 => ?_
      walk_at "go"
      refine n_slA S5 (ex_t (e3.trans (e4.trans e5)) ht2) fun r6 G6 H6 e6 _ hr6 S6 => ?_
      rw [show (i : Int) + 1 = ((i + 1 : Nat) : Int) by omega, cut_drop _ _ (by omega)] at hr6
      walk_at "go"
      refine n_catT2 S6 (e6 _ _ hr5) hr6 (by simp) (by simp; omega) fun r7 G7 H7 e7 _ hr7 S7 => ?_
      walk_at "go"
      refine k r7 H7 (e2.trans ((((e3.trans e4).trans e5).trans (e6.trans e7)).trans S7.ex)) (S7.ex _ _ ?_)
      rw [hr7]
      unfold sw
      simp only [List.map_append, List.map_cons, List.map_nil]
    · walk_at "go"
      refine g_ixT (SqT.of ht) (at_tv (by omega) (by omega)) ?_
      walk_at "go"
      refine if_2 (fun c => ?_) (fun c => ?_)
      · have c := of_decide_eq_true c
        walk_at "go"
        refine n_fld o.ins NC.cl NC.nN (nf_near kp np) ?_
        walk_at "go"
        refine g_ixL (SqL.of o.near) (atI_nat (j := i) (v := .ref p) (by rw [List.getElem?_map, hp] <;> rfl)) ?_
        refine v_list (xs := (nb ks (i : Int)).map V.int) (fun m acc G' L' => L' = [] ∧ acc = (((nb ks (i : Int)).take m).map (tv st)).map V.int) (Own.start H) (SqL.of (o.each i p hp)) (by rw [List.length_map]; omega) ⟨rfl, rfl⟩ ?_ ?_
        · rintro D m x acc G' L' H' hx hm e' hl' ⟨rfl, rfl⟩ S'
          obtain ⟨y, hy, rfl⟩ := get_map hx
          obtain ⟨y', rfl, hy'⟩ := nb_nat ok (List.mem_of_getElem? hy)
          walk_at "go"
          refine ⟨rfl, ?_⟩
          walk_at "go"
          refine g_ixT (ex_t (e'.trans S'.ex) (SqT.of ht)) (at_tv (by omega) (by omega)) ?_
          exact c_yes S' e' hl' hm ⟨rfl, by rw [take_snoc hy, List.map_append, List.map_append] <;> rfl⟩
        · rintro up acc G' L' H' e' _ ⟨rfl, rfl⟩ S'
          rw [List.length_map, List.take_length] at S'
          generalize hus : (nb ks (i : Int)).map (tv st) = us at S'
          walk_at "go"
          refine s_while (fun m σ' H'' => ∃ (c : Int) (x5 : Option V) (G2 : Hp), σ' = [some (.ref a), some (.ref t), some (.int (i : Int)), some (.int c), some (.ref up), x5] ∧ m = ((us.length : Int) + 1 - c).toNat ∧ 1 ≤ c ∧ (∀ d, 1 ≤ d → d < c → d ∈ us) ∧ Ex H G2 ∧ Own G2 [(up, .lst (us.map V.int))] H'') _
            ⟨1, _, G', rfl, rfl, Int.le_refl 1, fun d a b => by omega, e', S'⟩ ?_
          rintro m σ' H'' ⟨c', x5, G2, rfl, rfl, h1, hb, eG, S⟩
          walk_at "go"
          refine n_inIL (SqL.of S.get0) ?_
          walk_at "go"
          refine if_2 (fun cu => ?_) (fun cu => ?_)
          · have cu := of_decide_eq_true cu
            refine s_turn ?_
            walk_at "go"
            have hb' : ∀ d, 1 ≤ d → d < c' + 1 → d ∈ us := fun d a b => by
              by_cases e : d = c'
              · rw [e]; exact cu
              · exact hb d a (by omega)
            have hle := below_le hb'
            exact ⟨_, by omega, c' + 1, _, G2, rfl, rfl, by omega, hb', eG, S⟩
          · have cu := of_decide_eq_false cu
            refine hn' _ _ ⟨c', _, _, rfl, eG.trans S.ex, ?_⟩
            unfold chn
            rw [if_pos c, hus]
            exact (mexL_of ⟨h1, cu, hb⟩).symm
      · have c := of_decide_eq_false c
        walk_at "go"
        refine hn' _ _ ⟨0, _, _, rfl, Ex.refl H, ?_⟩
        unfold chn
        rw [if_neg c]
end
end NX

namespace NX
open PySem PySem.Spec PyProof.Rows L2
open Evl (Ex ex_l ex_t fresh_back)
/-- the class at CL is raised with v as its field f -/
def Thr (E : XK) (CL : Addr) (f : Str) (v : V) (H : Hp) : Prop := ∀ d H', Ex H H' → H' d = some (.xd [(f, v)]) → E (.ref CL) (some d) H'
theorem Thr.mono {E : XK} {CL : Addr} {f : Str} {v : V} {H H1 : Hp} (h : Thr E CL f v H) (e : Ex H H1) : Thr E CL f v H1 := fun d H' e' => h d H' (e.trans e')
end NX

namespace NX
open PySem PySem.Spec PyProof.Rows L2
open Evl (Ex ex_l ex_t fresh_back)
abbrev s_first_steps : Stmt := top 26
theorem sc_first_steps : FnScope ["network", "most", "found", "waiting", "at", "station", "later"] ["network", "most"] (defScope s_first_steps) := ⟨rfl, rfl, rfl, by decide +kernel, rfl, by decide +kernel, by decide +kernel⟩
abbrev s_TooMany___init__ : Stmt := inClass (top 5) 0
theorem sc_TooMany___init__ : FnScope ["self", "most"] ["self", "most"] (defScope s_TooMany___init__) := ⟨rfl, rfl, rfl, by decide +kernel, rfl, by decide +kernel, by decide +kernel⟩
def spFirst (C CT : Addr) : Sp := fun vs H Q E => ∃ (a : Addr) (n : Nat) (ks : List Pr) (most : Int) (B : List Ent), vs = [.ref a, .int most] ∧ NetAt C H a n ks ∧ Bfs (nb ks) n B ∧ (B.length ≤ 1000000 ∨ most ≤ 1000000) ∧ ((B.length : Int) ≤ most → ∀ p kvs H', H p = none → Ex H H' → H' p = some (.dT kvs) → DV (VF (nw H H') B) B kvs → Q (.ref p) H') ∧
  (most < (B.length : Int) → Thr E CT "most" (.int most) H)
section
variable {P : Program} {w : World} {K : PySem.W.Frag} {mg : Str → Option Value} {base : Heap} {C CT : Addr}
theorem ok_ini_TooMany {P : Program} {w : World} {K : PySem.W.Frag} {mg : Str → Option Value} {base : Heap} {CL C0 : Addr} {f : Addr} {fd : FuncData} (F : Fun K "__init__" "TooMany.__init__" s_TooMany___init__ f fd) (m_ChannelError : mg "ChannelError" = some (.ref C0)) (BC : BaseC K C0) (hno : PySem.W.findIn K (.ref CL) "most" = some none) : FnOk P w K mg base CX0 1 f fd ["self", "most"] (spExInit K CL "most") := by
  refine F.ok sc_TooMany___init__ (fun vs H Q E h => ?_) (fun cdv A outer s H vs Q E hr h => ?_)
  · obtain ⟨a, v, rfl, _⟩ := h
    rfl
  · obtain ⟨a, v, rfl, ha, T, k⟩ := h
    refine ⟨_, (pss_cons (ps_expr (pe_oeinit (K := K) m_ChannelError BC (pa_cons (pv 0) (pa_cons pe_str pa_nil))))
      (pss_one (ps_ost (pv 0) (pv 1) rfl))), ?_⟩
    walk_at "go"
    refine n_vei ?_
    walk_at "go"
    refine ⟨a, CL, _, rfl, by simp, T, ha, ?_⟩
    refine s_ost ?_
    walk_at "go"
    exact ⟨a, CL, rfl, T, hno, .inl ⟨ha, fun dx h1 h2 => k dx h1 h2⟩⟩
theorem ok_first {f : Addr} {fd : FuncData} (F : Fun K "first_steps" "first_steps" s_first_steps f fd) (T : Txt mg) (NC : NetC K C) (M_len : Mth P w K mg base 1 C "__len__" ["self"] (spLen C)) (c_all_off : Cal P w K mg base 3 "all_off" ["network"] [] (spOff C))
    (c_after : Cal P w K mg base 2 "after" ["network", "state", "station"] [] (spAfter C)) (X_TooMany : Exn P w K mg base "TooMany" CT "most") : FnOk P w K mg base (L2.CX P w) 5 f fd ["network", "most"] (spFirst C CT) := by
  refine F.okX sc_first_steps (fun vs H Q E h => ?_) (fun cdv A outer s H vs Q E hr h => ?_)
  · obtain ⟨a, n, ks, most, B, rfl, _⟩ := h
    rfl
  · obtain ⟨a, n, ks, most, B, rfl, N, hB, hz, k, kE⟩ := h
    have hu65 : ∀ X : Cx, X.A = A.deeper (envOfC "first_steps" (defScope s_first_steps) s.heap.objs.size f cdv) → X.A.units + 65 < cLine := fun X e => by rw [e]; have := hr.un; omega
    have hs := N.sz
    refine ⟨_, (pss_cons (ps_set (i := 2) sc_first_steps.nd rfl (Or.inl rfl) (pe_disp1T (hu1 (hu65 _ rfl)) (pe_cal c_all_off (hr.mono (by first | decide | omega)) passN (pa_cons (pv 0) pa_nil)) pe_non))
      (pss_cons (ps_set (i := 3) sc_first_steps.nd rfl (Or.inl rfl) (pe_callTy (call_list_dT rfl) (by rfl) T.n_list (by decide +kernel) (pa_cons (pv 2) pa_nil)))
      (pss_cons (ps_if (pt_cmpR op_lt (pv 1) pe_int (nomark _)) (pss_one (ps_raiseE (K := K) rfl (takes_of rfl rfl rfl rfl) X_TooMany (hr.mono (by first | decide | omega)) (pa_cons (pv 1) pa_nil))) pss_nil)
      (pss_cons (ps_set (i := 4) sc_first_steps.nd rfl (Or.inl rfl) pe_int)
      (pss_cons (ps_while (passes_of rfl) (pt_cmpR op_lt (pv 4) (pe_callB call_lenN (by rfl) T.n_len (by decide +kernel) (pa_cons (pv 3) pa_nil)) (nomark _)) (pss_cons (ps_for (passes_of rfl) rfl (pi_range1 (by rfl) T.n_range (pa_cons (pe_callB (call_lenNet NC M_len (hr.mono (by first | decide | omega))) (by rfl) T.n_len (by decide +kernel) (pa_cons (pv 0) pa_nil)) pa_nil)) (pg_name (i := 5) sc_first_steps.nd rfl (Or.inl rfl)) (pss_cons (ps_set (i := 6) sc_first_steps.nd rfl (Or.inl rfl) (pe_cal c_after (hr.mono (by first | decide | omega)) passN (pa_cons (pv 0) (pa_cons (pe_ix ix_list (pv 3) (pv 4) (fun _ _ => rfl)) (pa_cons (pv 5) pa_nil)))))
      (pss_one (ps_if (pt_cmp (pc_dnotin (hu1 (hu65 _ rfl)) (pv 6) (pv 2))) (pss_cons (ps_if (pt_cmpR op_ge (pe_callB call_len_dT (by rfl) T.n_len (by decide +kernel) (pa_cons (pv 2) pa_nil)) (pv 1) (nomark _)) (pss_one (ps_raiseE (K := K) rfl (takes_of rfl rfl rfl rfl) X_TooMany (hr.mono (by first | decide | omega)) (pa_cons (pv 1) pa_nil))) pss_nil)
      (pss_cons (ps_dput (hu1 (hu65 _ rfl)) (pv 2) (pv 6) (pe_tup (pa_cons (pe_ix ix_list (pv 3) (pv 4) (fun _ _ => rfl)) (pa_cons (pv 5) pa_nil))) rfl)
      (pss_one (ps_expr (pe_bm PySem.F.plainAttrs_list PySem.F.slot_list_append PySem.F.type_list_append mt_append (pv 3) (pa_cons (pv 6) pa_nil)))))) pss_nil))))
      (pss_one (ps_aug (i := 4) sc_first_steps.nd rfl (Or.inl rfl) pe_int ip_add))))
      (pss_one (ps_ret (pv 2)))))))), ?_⟩
    walk_at "go"
    refine g_disp1 fun p hp => ?_
    have S0 := (Own.start H).lay (o := .dT []) hp
    walk_at "go"
    refine ⟨a, n, ks, rfl, N.mono (Ex.new hp), fun t H1 e1 ht => ?_⟩
    walk_at "go"
    obtain ⟨S1, ez, ey⟩ := S0.absorb e1
    have ht1 : StA (cut H1 [(p, HO.dT [])]) t (List.replicate n 0) := ey _ _ (nw_tup' e1 ht)
    generalize cut H1 [(p, HO.dT [])] = G1 at S1 ez ey ht1
    refine n_disp1 S1 (S1.ex _ _ ht1) fun H2 S2 => ?_
    walk_at "go"
    refine ⟨p, _, rfl, .inl S2.get0, fun q bs hq ik => ?_⟩
    obtain ⟨S3, ez3, ey3⟩ := S2.absorb (Ex.refl H2)
    have hx3 : Sts (cut H2 [(p, HO.dT [(keyN (List.replicate n 0), V.non)])]) (bs.map V.ref) ((bfsE (nb ks) n 0).map Ent.st) := by
      cases ik with
      | cons h t =>
        cases t
        refine .cons ⟨_, rfl, ?_⟩ .nil
        rw [keyN_kV] at h
        exact ey3 _ _ (nw_tup' (Ex.refl H2) h)
    generalize cut H2 [(p, HO.dT [(keyN (List.replicate n 0), V.non)])] = G3 at S3 ez3 ey3 hx3
    have S4 := S3.lay (o := .lst (bs.map V.ref)) hq
    generalize bs.map V.ref = xs0 at S4 hx3
    have eG0 : Ex H G3 := fun b u hb => ez3 _ _ (ez _ _ hb)
    have hB1 : 1 ≤ B.length := List.length_pos_iff.mpr hB.okk.ne
    walk_at "go"
    refine if_2 (fun c => ?_) (fun c => ?_)
    · have c := of_decide_eq_true c
      refine s_raiseE ?_
      walk_at "go"
      exact n_raise X_TooMany.oex fun d H5 _ e5 hd => kE (by omega) d H5 ((eG0.trans S4.ex).trans e5) hd
    have c1 := of_decide_eq_false c
    walk_at "go"
    refine s_while (fun m σ' H' => ∃ (m0 : Nat) (xs : List V) (kvs : List (List L2.Key × V)) (G' : Hp) (x5 x6 : Option V), σ' = [some (.ref a), some (.int most), some (.ref p), some (.ref q), some (.int (m0 : Int)), x5, x6] ∧ m = B.length - m0 ∧ m0 ≤ (bfsE (nb ks) n m0).length ∧
      ((bfsE (nb ks) n m0).length : Int) ≤ most ∧ Ex H G' ∧ Own G' [(q, .lst xs), (p, .dT kvs)] H' ∧ Sts G' xs ((bfsE (nb ks) n m0).map Ent.st) ∧ DV (VF G' (bfsE (nb ks) n m0)) (bfsE (nb ks) n m0) kvs) _
      ⟨0, _, _, G3, _, _, rfl, rfl, Nat.zero_le _, (by show ((1 : Nat) : Int) ≤ most; omega), eG0, S4, hx3, .cons ⟨rfl, .inl ⟨rfl, rfl⟩⟩ .nil⟩ ?_
    rintro m σ' H' ⟨m0, xs, kvs, G', x5, x6, rfl, rfl, hm0, hmo, eG, S, hx, hv⟩
    have hxl : xs.length = (bfsE (nb ks) n m0).length := by rw [hx.len, List.length_map]
    walk_at "go"
    refine n_len (SqL.of S.get0) ?_
    walk_at "go"
    rw [hxl]
    refine if_2 (fun c => ?_) (fun c => ?_)
    · have c := of_decide_eq_true c
      have hlt : m0 < (bfsE (nb ks) n m0).length := by omega
      have hltB := hB.lt hlt
      obtain ⟨e, he⟩ : ∃ e, (bfsE (nb ks) n m0)[m0]? = some e := ⟨_, List.getElem?_eq_getElem hlt⟩
      refine s_turn ?_
      walk_at "go"
      refine n_lenNet (N.mono (eG.trans S.ex)) ?_
      walk_at "go"
      refine w_rng1 (j := (n : Int)) (fun j σ' H' => ∃ (xs : List V) (kvs : List (List L2.Key × V)) (G' : Hp) (x5 x6 : Option V), σ' = [some (.ref a), some (.int most), some (.ref p), some (.ref q), some (.int (m0 : Int)), x5, x6] ∧
        ((rowE (nb ks) m0 (bfsE (nb ks) n m0) j).length : Int) ≤ most ∧ Ex H G' ∧ Own G' [(q, .lst xs), (p, .dT kvs)] H' ∧ Sts G' xs ((rowE (nb ks) m0 (bfsE (nb ks) n m0) j).map Ent.st) ∧ DV (VF G' (rowE (nb ks) m0 (bfsE (nb ks) n m0) j)) (rowE (nb ks) m0 (bfsE (nb ks) n m0) j) kvs)
        (by omega) ⟨xs, kvs, G', _, _, rfl, hmo, eG, S, hx, hv⟩ ?_ ?_
      · rintro j σ2 H2 hj ⟨xs, kvs, G', x5, x6, rfl, hmo, eG, S, hx, hv⟩
        have hjn : j < n := by omega
        have hpre := hB.pre hlt (j := j + 1) (by omega)
        rw [rowE_succ] at hpre ⊢
        have he' : (rowE (nb ks) m0 (bfsE (nb ks) n m0) j)[m0]? = some e := pre_get (rowE_pre _ _ _ (Nat.zero_le j)) he
        rw [vis_new he'] at hpre ⊢
        generalize rowE (nb ks) m0 (bfsE (nb ks) n m0) j = R at hmo hx hv hpre he' ⊢
        obtain ⟨y, hy⟩ : ∃ y, xs[m0]? = some y := ⟨_, List.getElem?_eq_getElem (by rw [hx.len, List.length_map]; exact (List.getElem?_eq_some_iff.mp he').1)⟩
        obtain ⟨tq, ns, hns, rfl, htq⟩ := hx.get hy
        have ens : ns = e.st := by
          rw [List.getElem?_map, he'] at hns
          exact (Option.some.inj hns).symm
        subst ens
        have hel : e.st.length = n := (hB.okk.rch e (List.mem_of_getElem? (pre_get ((addE_pre _ _ _ _ _).trans hpre) he'))).len
        have hRl : R.length ≤ 1000000 := by
          have : R.length ≤ B.length := ((addE_pre _ _ _ _ _).trans hpre).length_le
          omega
        walk_at "go"
        refine g_ixL (SqL.of S.get0) (atI_nat (j := m0) hy) ?_
        walk_at "go"
        refine n_after (N.mono (eG.trans S.ex)) (S.ex _ _ htq) hel hjn fun r H5 e5 hr5 => ?_
        obtain ⟨S5, ez5, ey5⟩ := S.absorb e5
        have hr5 := ey5 _ _ (nw_tup' e5 hr5)
        generalize cut H5 [(q, HO.lst xs), (p, HO.dT kvs)] = G5 at S5 ez5 ey5 hr5
        walk_at "go"
        refine g_dnin ?_
        walk_at "go"
        refine n_dninB S5.get1 (S5.ex _ _ hr5) ?_
        rw [hv.isSome]
        refine if_2 (fun cn => ?_) (fun cn => ?_)
        · have cn : sw (nb ks) e.st j ∉ R.map Ent.st := by simpa using cn
          have eadd : addE R (sw (nb ks) e.st j) m0 j (e.l + 1) = R ++ [⟨sw (nb ks) e.st j, m0, j, e.l + 1⟩] := by unfold addE; rw [if_neg cn]
          rw [eadd] at hpre ⊢
          have hlB := hpre.length_le
          rw [List.length_append, List.length_singleton] at hlB
          walk_at "go"
          refine ⟨p, kvs, rfl, S5.get1, ?_⟩
          walk_at "go"
          rw [hv.len]
          refine if_2 (fun cm => ?_) (fun cm => ?_)
          · have cm := of_decide_eq_true cm
            refine s_raiseE ?_
            walk_at "go"
            exact n_raise X_TooMany.oex fun d H6 _ e6 hd => kE (by omega) d H6 (((eG.trans ez5).trans S5.ex).trans e6) hd
          · have cm := of_decide_eq_false cm
            walk_at "go"
            refine s_dput' ?_
            walk_at "go"
            refine g_ixL (SqL.of S5.get0) (atI_nat (j := m0) hy) ?_
            walk_at "go"
            refine n_tup S5 (by show 2 ≤ 10000000; decide) fun t6 G6 H6 _ e6 _ ht6 S6 => ?_
            walk_at "go"
            refine n_dputN S6.swap (S6.ex _ _ (e6 _ _ hr5)) (by rw [hv.len]; exact hRl) fun H7 S7 => ?_
            walk_at "go"
            refine ⟨tyL (SqL.of S7.get1), ?_⟩
            walk_at "go"
            refine n_app1 S7 (by rw [hx.len, List.length_map]; exact hRl) fun H8 S8 => ?_
            walk_at "go"
            have e56 : Ex G' G6 := ez5.trans e6
            refine ⟨_, _, G6, _, _, rfl, by rw [List.length_append, List.length_singleton]; omega, eG.trans e56, S8.swap, ?_, ?_⟩
            · rw [List.map_append]
              exact (hx.mono e56).append (.cons ⟨r, rfl, e6 _ _ hr5⟩ .nil)
            · refine DV.add (hv.imp fun f _ v h => h.mono e56 (List.prefix_append _ _)) cn (.inr ⟨Nat.succ_ne_zero _, t6, tq, e, rfl, ht6, ?_, e56 _ _ htq⟩)
              exact pre_get (List.prefix_append _ _) he'
        · have cn : sw (nb ks) e.st j ∈ R.map Ent.st := by simpa using cn
          have eadd : addE R (sw (nb ks) e.st j) m0 j (e.l + 1) = R := by unfold addE; rw [if_pos cn]
          rw [eadd]
          walk_at "go"
          exact ⟨xs, kvs, G5, _, _, rfl, hmo, eG.trans ez5, S5, hx.mono ez5, hv.imp fun f _ v h => h.mono ez5 (List.prefix_refl _)⟩
      · rintro σ2 H2 ⟨xs, kvs, G', x5, x6, rfl, hmo, eG, S, hx, hv⟩
        walk_at "go"
        have hp1 := (bfsE_pre (nb ks) n (Nat.le_succ m0)).length_le
        exact ⟨B.length - (m0 + 1), by omega, m0 + 1, xs, kvs, G', _, _, rfl, rfl, (by show m0 + 1 ≤ _; have : (bfsE (nb ks) n m0).length ≤ (bfsE (nb ks) n (m0 + 1)).length := hp1; omega), hmo, eG, S, hx, hv⟩
    · have c := of_decide_eq_false c
      have hfin : bfsE (nb ks) n m0 = B := (Bfs.of hm0 (by omega)).uniq hB
      rw [hfin] at hmo hx hv
      walk_at "go"
      refine k hmo p kvs H' hp (eG.trans S.ex) S.get1 (hv.imp fun f _ v h => ?_)
      rcases h with h | ⟨h, p', q', g, e1, e2, e3, e4⟩
      · exact .inl h
      · exact .inr ⟨h, p', q', g, e1, nw_tup' (eG.trans S.ex) (S.ex _ _ e2), e3, nw_tup' (eG.trans S.ex) (S.ex _ _ e4)⟩
end
end NX

namespace NX
open PySem PySem.Spec PyProof.Rows L2
open Evl (Ex ex_l ex_t fresh_back)
abbrev s_greatest_reached : Stmt := top 27
theorem sc_greatest_reached : FnScope ["network", "most", "states", "station", "state"] ["network", "most"] (defScope s_greatest_reached) := ⟨rfl, rfl, rfl, by decide +kernel, rfl, by decide +kernel, by decide +kernel⟩
/-- g: the greatest channels in the states of B -/
def MaxB (B : List Ent) (n : Nat) (g : List Int) : Prop := g.length = n ∧ ∀ j : Nat, j < n → (∃ e ∈ B, tv e.st (j : Int) = tv g (j : Int)) ∧ ∀ e ∈ B, tv e.st (j : Int) ≤ tv g (j : Int)
theorem MaxB.uniq {B : List Ent} {n : Nat} {g h : List Int} (a : MaxB B n g) (b : MaxB B n h) : g = h := by
  refine tv_ext (a.1.trans b.1.symm) fun j hj => ?_
  rw [a.1] at hj
  obtain ⟨⟨e, he, x⟩, y⟩ := a.2 j hj
  obtain ⟨⟨f, hf, z⟩, u⟩ := b.2 j hj
  have := y f hf
  have := u e he
  omega
def spGR (C CT : Addr) : Sp := fun vs H Q E => ∃ (a : Addr) (n : Nat) (ks : List Pr) (most : Int) (B : List Ent), vs = [.ref a, .int most] ∧ NetAt C H a n ks ∧ Bfs (nb ks) n B ∧ (B.length ≤ 1000000 ∨ most ≤ 1000000) ∧ ((B.length : Int) ≤ most → ∀ g, MaxB B n g → Ret (.tup (g.map V.int)) H Q) ∧ (most < (B.length : Int) → Thr E CT "most" (.int most) H)
theorem n_max1 {K : PySem.W.Frag} {H : Hp} {p : Addr} {ns : List Int} {Q : VK} (h : SqL K H p (ns.map V.int)) (h0 : 0 < ns.length) (k : ∀ m, m ∈ ns → (∀ y, y ∈ ns → y ≤ m) → Q (.int m) H) : rMax K [.ref p] H Q := ⟨p, ns, rfl, h, h0, k⟩
section
variable {P : Program} {w : World} {K : PySem.W.Frag} {mg : Str → Option Value} {base : Heap} {C CT : Addr}
theorem ok_gr {f : Addr} {fd : FuncData} (F : FunD K "greatest_reached" "greatest_reached" (defArgs s_greatest_reached) (defBody s_greatest_reached) (defScope s_greatest_reached) [] [("most", .int 1000)] f fd) (T : Txt mg) (NC : NetC K C) (M_len : Mth P w K mg base 1 C "__len__" ["self"] (spLen C))
    (c_first_steps : Cal P w K mg base 5 "first_steps" ["network", "most"] [] (spFirst C CT)) : FnOk P w K mg base (L2.CX P w) 6 f fd ["network", "most"] (spGR C CT) := by
  refine F.ok sc_greatest_reached (fun vs H Q E h => ?_) (fun cdv A outer s H vs Q E hr h => ?_)
  · obtain ⟨a, n, ks, most, B, rfl, _⟩ := h
    rfl
  · obtain ⟨a, n, ks, most, B, rfl, N, hB, hz, k, kE⟩ := h
    refine ⟨_, (pss_cons (ps_set (i := 2) sc_greatest_reached.nd rfl (Or.inr rfl) (pe_callTy (call_list_dT rfl) (by rfl) T.n_list (by decide +kernel) (pa_cons (pe_cal c_first_steps (hr.mono (by first | decide | omega)) (passE (takes_of rfl rfl rfl rfl) fun _ _ _ _ z => z) (pa_cons (pv 0) (pa_cons (pv 1) pa_nil))) pa_nil)))
      (pss_one (ps_ret (pe_callTy call_tupN (by rfl) T.n_tuple (by decide +kernel) (pa_cons (pe_lc (own := [("station", 3)]) (by rfl) sc_greatest_reached.nd (pi_range1 (by rfl) T.n_range (pa_cons (pe_callB (call_lenNet NC M_len (hr.mono (by first | decide | omega))) (by rfl) T.n_len (by decide +kernel) (pa_cons (pv 0) pa_nil)) pa_nil)) (blkOk_by (own := [("station", 3)]) (N := ["network", "most", "states", "station", "state"]) (sc := defScope s_greatest_reached) (by decide +kernel)) (fun _ _ _ _ _ => (pg_name (i := 3) sc_greatest_reached.nd rfl (Or.inr rfl))) (fun _ _ _ _ _ => pts_nil) (fun _ _ _ _ _ => (pe_callB (cr_maxK (K := K) rfl) (by rfl) T.n_max (by decide +kernel) (pa_cons (pe_lc (own := [("state", 4)]) (by rfl) sc_greatest_reached.nd (pi_listK (K := K) (pv 2)) (blkOk_by (own := [("state", 4)]) (by first | decide +kernel | kernel_rfl)) (fun _ _ _ _ _ => (pg_name (i := 4) sc_greatest_reached.nd rfl (Or.inl rfl))) (fun _ _ _ _ _ => pts_nil) (fun _ _ _ _ _ => (pe_ix (ix_tupK (K := K)) (pv 4) (pv 3) (fun _ _ => rfl)))) pa_nil)))) pa_nil))))), ?_⟩
    walk_at "go"
    refine ⟨a, n, ks, most, B, rfl, N, hB, hz, fun hm p kvs H1 hp e1 hd hv => ?_, fun hm => kE hm⟩
    have hn := N.sz
    walk_at "go"
    refine ⟨p, kvs, rfl, .inl hd, fun q bs hq ik => ?_⟩
    have e2 : Ex H1 (upd H1 q (.lst (bs.map V.ref))) := Ex.new hq
    have eG : Ex H (upd H1 q (.lst (bs.map V.ref))) := e1.trans e2
    have hx : Sts (upd H1 q (.lst (bs.map V.ref))) (bs.map V.ref) (B.map Ent.st) := by
      have hk := hv.keys
      clear hv k kE hd
      unfold IsKeys at ik
      refine Sts.mono e2 ?_
      clear e2 eG
      generalize B.map Ent.st = L at hk
      induction ik generalizing L with
      | nil =>
        cases L with
        | nil => exact .nil
        | cons _ _ => cases hk
      | @cons pp b ps bs h t ih =>
        cases L with
        | nil => cases hk
        | cons ns L =>
          simp only [List.map_cons, List.cons.injEq] at hk
          refine .cons ⟨b, rfl, ?_⟩ (ih L hk.2)
          rw [h, hk.1, keyN_kV]
    have hql : (upd H1 q (.lst (bs.map V.ref))) q = some (.lst (bs.map V.ref)) := upd_same
    generalize bs.map V.ref = xs at eG hx hql
    generalize upd H1 q (.lst xs) = H2 at eG hx hql
    have hl : xs.length = B.length := by rw [hx.len, List.length_map]
    have hB1 : 0 < B.length := List.length_pos_iff.mpr hB.okk.ne
    have hB6 : B.length ≤ 1000000 := by omega
    walk_at "go"
    refine n_lenNet (N.mono eG) ?_
    walk_at "go"
    refine v_rng1 (j := (n : Int)) (fun j acc G' L' => L' = [] ∧ ∃ c : List Int, c.length = j ∧ acc = c.map V.int ∧ ∀ m : Nat, m < j → (∃ e ∈ B, tv e.st (m : Int) = tv c (m : Int)) ∧ ∀ e ∈ B, tv e.st (m : Int) ≤ tv c (m : Int)) (Own.start H2) (by omega) ⟨rfl, [], rfl, rfl, fun m hm => absurd hm (Nat.not_lt_zero m)⟩ ?_ ?_
    · rintro D j acc G' L' H3 hj hj' e3 hl3 ⟨rfl, c, hc, rfl, hcm⟩ S3
      walk_at "go"
      refine ⟨rfl, ?_⟩
      walk_at "go"
      refine v_list (xs := xs) (fun i acc' G4 L4 => L4 = [(D, .lst (c.map V.int))] ∧ acc' = ((B.take i).map fun e => tv e.st (j : Int)).map V.int) S3 (SqL.of (e3 _ _ hql)) (by omega) ⟨rfl, rfl⟩ ?_ ?_
      · rintro D2 i x acc' G4 L4 H4 hx4 hi e4 hl4 ⟨rfl, rfl⟩ S4
        obtain ⟨t, ns, hns, rfl, ht⟩ := hx.get hx4
        obtain ⟨e, he, rfl⟩ : ∃ e, B[i]? = some e ∧ ns = e.st := by
          rw [List.getElem?_map] at hns
          cases q : B[i]? with
          | none => rw [q] at hns; cases hns
          | some e => rw [q] at hns; cases hns; exact ⟨e, rfl, rfl⟩
        have hel := (hB.okk.rch e (List.mem_of_getElem? he)).len
        walk_at "go"
        refine ⟨rfl, ?_⟩
        walk_at "go"
        refine g_ixT (SqT.of (S4.ex _ _ (e4 _ _ (e3 _ _ ht)))) (at_tv (by omega) (by omega)) ?_
        refine c_yes S4 e4 hl4 hi ⟨rfl, ?_⟩
        rw [take_snoc he, List.map_append, List.map_append] <;> rfl
      · rintro p5 acc5 G5 L5 H5 e5 _ ⟨rfl, rfl⟩ S5
        rw [hl, List.take_length] at S5
        refine n_max1 (SqL.of S5.get0) (by rw [List.length_map]; exact hB1) fun m hm1 hm2 => ?_
        have S5 := S5.forget
        refine c_yes S5 (e3.trans e5) hl3 hj' ⟨rfl, c ++ [m], by rw [List.length_append, hc] <;> rfl, by rw [List.map_append] <;> rfl, fun mm hmm => ?_⟩
        by_cases q : mm < j
        · rw [tv_app1 (by omega) (by omega)]
          exact hcm mm q
        · have : mm = j := by omega
          subst this
          rw [show ((mm : Nat) : Int) = (c.length : Int) by omega, tv_app2, show (c.length : Int) = (mm : Int) by omega]
          obtain ⟨e, he, r⟩ := List.mem_map.mp hm1
          exact ⟨⟨e, he, r⟩, fun e he => hm2 _ (List.mem_map.mpr ⟨e, he, rfl⟩)⟩
    · rintro p5 acc5 G5 L5 H5 e5 _ ⟨rfl, c, hc, rfl, hcm⟩ S5
      rw [Int.toNat_natCast] at hc hcm
      refine n_tupL S5 (SqL.of S5.get0) fun p6 G6 H6 hp6 e6 e6' hp6' S6 => ?_
      exact k hm c ⟨hc, hcm⟩ p6 H6 (fresh_back (eG.trans (e5.trans S5.ex)) hp6) (eG.trans (e5.trans (e6.trans S6.ex))) (S6.ex _ _ hp6')
end
end NX

namespace NX
/-! ### the complete network of six -/
def K6R (m : Nat) : List Pr := (List.range m).flatMap fun (b : Nat) => (List.range b).map fun (a : Nat) => ((a : Int), (b : Int))
theorem k6_ok : Okl 6 (K6R 6) := okB_is (by decide +kernel)
theorem k6_nd : (K6R 6).Nodup := by decide +kernel
theorem k6_nb : ∀ i : Nat, i < 6 → (nb (sortP (K6R 6)) (i : Int)).length = 5 := by decide +kernel
theorem k6_tab : TabF 6 (sortP (K6R 6)) [6, 6, 6, 6, 6, 6] := tabB_is (by decide +kernel)
theorem k6_net : NetF 6 (sortP (K6R 6)) [6, 6, 6, 6, 6, 6] := ⟨k6_ok.sort, fun i => nb_nodup k6_ok.sort (sortP_up _) ((sortP_perm _).nodup_iff.mpr k6_nd) i, k6_tab⟩
def PP6 : List (Nat × Nat) := ((List.range 7).flatMap fun a => (List.range 7).map fun b => (a, b)).filter fun q => !decide (q.1 = q.2 ∧ q.1 ≠ 0)
theorem pp6_len : PP6.length = 43 := by decide +kernel
theorem pp6_mem {a b : Int} (ha : 0 ≤ a ∧ a ≤ 6) (hb : 0 ≤ b ∧ b ≤ 6) (h : a ≠ 0 → a ≠ b) : (a.toNat, b.toNat) ∈ PP6 := by
  unfold PP6
  refine List.mem_filter.mpr ⟨List.mem_flatMap.mpr ⟨a.toNat, List.mem_range.mpr (by omega), List.mem_map.mpr ⟨b.toNat, List.mem_range.mpr (by omega), rfl⟩⟩, ?_⟩
  have : ¬ (a.toNat = b.toNat ∧ a.toNat ≠ 0) := fun ⟨x, y⟩ => h (by omega) (by omega)
  rw [decide_eq_false this] <;> rfl
def all6 : List (List Int) := PP6.flatMap fun p => PP6.flatMap fun q => PP6.map fun r => [(p.1 : Int), (p.2 : Int), (q.1 : Int), (q.2 : Int), (r.1 : Int), (r.2 : Int)]
theorem all6_len : all6.length = 79507 := by
  unfold all6
  rw [flat_len (k := 1849) fun p => ?_, pp6_len]
  rw [flat_len (k := 43) fun q => ?_, pp6_len]
  rw [List.length_map, pp6_len]
theorem k6_few (L : List (List Int)) (nd : L.Nodup) (h : ∀ s ∈ L, Rch (nb (sortP (K6R 6))) 6 s) : L.length ≤ 79507 := by
  rw [← all6_len]
  refine len_le_of_sub nd fun s hs => ?_
  have r := h s hs
  have hl := r.len
  have pr : ∀ i j : Nat, i < 6 → (j : Int) ∈ nb (sortP (K6R 6)) (i : Int) → tv s (i : Int) ≠ 0 → tv s (i : Int) ≠ tv s (j : Int) := k6_net.proper r
  have rg : ∀ i : Nat, i < 6 → 0 ≤ tv s (i : Int) ∧ tv s (i : Int) ≤ 6 := fun i hi => by
    have := r.rng i
    rw [k6_nb i hi] at this
    omega
  match s, hl with
  | [a, b, c, d, e, f], _ =>
    have m1 := pp6_mem (rg 0 (by decide)) (rg 1 (by decide)) (pr 0 1 (by decide) (by decide +kernel))
    have m2 := pp6_mem (rg 2 (by decide)) (rg 3 (by decide)) (pr 2 3 (by decide) (by decide +kernel))
    have m3 := pp6_mem (rg 4 (by decide)) (rg 5 (by decide)) (pr 4 5 (by decide) (by decide +kernel))
    have r0 := rg 0 (by decide)
    have r1 := rg 1 (by decide)
    have r2 := rg 2 (by decide)
    have r3 := rg 3 (by decide)
    have r4 := rg 4 (by decide)
    have r5 := rg 5 (by decide)
    have ga : tv [a, b, c, d, e, f] ((0 : Nat) : Int) = a := rfl
    have gb : tv [a, b, c, d, e, f] ((1 : Nat) : Int) = b := rfl
    have gc : tv [a, b, c, d, e, f] ((2 : Nat) : Int) = c := rfl
    have gd : tv [a, b, c, d, e, f] ((3 : Nat) : Int) = d := rfl
    have ge : tv [a, b, c, d, e, f] ((4 : Nat) : Int) = e := rfl
    have gf : tv [a, b, c, d, e, f] ((5 : Nat) : Int) = f := rfl
    rw [ga, gb] at m1
    rw [gc, gd] at m2
    rw [ge, gf] at m3
    rw [ga] at r0
    rw [gb] at r1
    rw [gc] at r2
    rw [gd] at r3
    rw [ge] at r4
    rw [gf] at r5
    unfold all6
    refine List.mem_flatMap.mpr ⟨_, m1, List.mem_flatMap.mpr ⟨_, m2, List.mem_map.mpr ⟨_, m3, ?_⟩⟩⟩
    show [((a.toNat : Nat) : Int), ((b.toNat : Nat) : Int), ((c.toNat : Nat) : Int), ((d.toNat : Nat) : Int), ((e.toNat : Nat) : Int), ((f.toNat : Nat) : Int)] = _
    rw [show ((a.toNat : Nat) : Int) = a by omega, show ((b.toNat : Nat) : Int) = b by omega, show ((c.toNat : Nat) : Int) = c by omega, show ((d.toNat : Nat) : Int) = d by omega, show ((e.toNat : Nat) : Int) = e by omega, show ((f.toNat : Nat) : Int) = f by omega]
theorem k6_bfs : ∃ B, Bfs (nb (sortP (K6R 6))) 6 B ∧ B.length ≤ 79507 := bfs_ex k6_few
def run6 (j : Nat) : List Int := ((List.range 6).filter fun k => decide (k ≠ j)).map (fun (k : Nat) => (k : Int)) ++ [(j : Int)]
theorem run6_ok : ∀ j : Nat, j < 6 → (tv (runC (nb (sortP (K6R 6))) (List.replicate 6 0) (run6 j)) (j : Int) = 6 ∧ ∀ x ∈ run6 j, 0 ≤ x ∧ x < ((6 : Nat) : Int)) := by decide +kernel
theorem k6_max {B : List Ent} (h : Bfs (nb (sortP (K6R 6))) 6 B) : MaxB B 6 [6, 6, 6, 6, 6, 6] := by
  have c6 : ∀ j : Nat, j < 6 → tv [6, 6, 6, 6, 6, 6] (j : Int) = 6 := by decide
  refine ⟨rfl, fun j hj => ⟨?_, fun e he => ?_⟩⟩
  · obtain ⟨h1, h2⟩ := run6_ok j hj
    have r := (Rch.zero (nbr := nb (sortP (K6R 6))) (n := 6)).run h2
    rw [runC_eq] at r
    obtain ⟨e, he, es⟩ := List.mem_map.mp ((h.all _).mpr r)
    exact ⟨e, he, by rw [es, h1, c6 j hj]⟩
  · have := (h.okk.rch e he).rng j
    rw [k6_nb j hj] at this
    rw [c6 j hj]
    omega
end NX

namespace NX
open PySem PySem.Spec PyProof.Rows L2
open Evl (Ex ex_l ex_t fresh_back)
/-! ### _law_near, _law_table -/
/-- at a: the lists of the neighbours of n stations -/
def NearAt (H : Hp) (a : Addr) (n : Nat) (ks : List Pr) : Prop := ∃ nps : List Addr, H a = some (.lst (nps.map V.ref)) ∧ nps.length = n ∧ ∀ (i : Nat) (p : Addr), nps[i]? = some p → H p = some (.lst ((nb ks (i : Int)).map V.int))
theorem NearAt.mono {G H : Hp} {a : Addr} {n : Nat} {ks : List Pr} (h : NearAt G a n ks) (e : Ex G H) : NearAt H a n ks := by
  obtain ⟨nps, h1, h2, h3⟩ := h
  exact ⟨nps, e _ _ h1, h2, fun i p q => e _ _ (h3 i p q)⟩
abbrev s__law_near : Stmt := top 32
theorem sc__law_near : FnScope ["_law_size", "_law_links", "_law_found", "_law_one", "_law_two", "_law_station"] ["_law_size", "_law_links"] (defScope s__law_near) := ⟨rfl, rfl, rfl, by decide +kernel, rfl, by decide +kernel, by decide +kernel⟩
/-- n stations, links in any order -/
def spNear : Sp := fun vs H Q _ => ∃ (n : Nat) (p : Addr) (xs : List V) (ps : List Pr), vs = [.int (n : Int), .ref p] ∧ H p = some (.lst xs) ∧ Lks H xs ps ∧ Okl n ps ∧ n ≤ 1000 ∧ ps.length ≤ 10000 ∧ ∀ x H', H x = none → Ex H H' → NearAt (nw H H') x n ps → Q (.ref x) H'
theorem n_near {G H : Hp} {L : List (Addr × HO)} {n : Nat} {p : Addr} {xs : List V} {ps : List Pr} {Q : VK} {E : XK} (S : Own G L H) (hp : H p = some (.lst xs)) (hl : Lks H xs ps) (ok : Okl n ps) (hn : n ≤ 1000) (hz : ps.length ≤ 10000)
    (k : ∀ x G1 H1, H x = none → Ex G G1 → Ex H H1 → Own G1 L H1 → NearAt G1 x n ps → Q (.ref x) H1) : spNear [.int (n : Int), .ref p] H Q E :=
  ⟨n, p, xs, ps, rfl, hp, hl, ok, hn, hz, fun x H' hx e N => by
    obtain ⟨S1, e2, e3⟩ := S.absorb e
    exact k x _ H' hx e2 e S1 (N.mono e3)⟩
theorem nb_len (ps : List Pr) (i : Int) : (nb ps i).length ≤ ps.length := List.length_filterMap_le _ _
section
variable {P : Program} {w : World} {K : PySem.W.Frag} {mg : Str → Option Value} {base : Heap}
theorem ok_near {f : Addr} {fd : FuncData} (F : Fun K "_law_near" "_law_near" s__law_near f fd) (T : Txt mg) : FnOk P w K mg base CX0 1 f fd ["_law_size", "_law_links"] spNear := by
  refine F.ok sc__law_near (fun vs H Q E h => ?_) (fun cdv A outer s H vs Q E hr h => ?_)
  · obtain ⟨n, p, xs, ps, rfl, _⟩ := h
    rfl
  · obtain ⟨n, p, xs, ps, rfl, hp, hl, ok, hn, hz, k⟩ := h
    refine ⟨_, (pss_cons (ps_setLc (i := 2) (own := [("_law_station", 5)]) (by rfl) sc__law_near.nd rfl rfl (sw_true rfl rfl rfl (by decide +kernel)) (pi_range1 (by rfl) T.n_range (pa_cons (pv 0) pa_nil)) (blkOk_by (own := [("_law_station", 5)]) (N := ["_law_size", "_law_links", "_law_found", "_law_one", "_law_two", "_law_station"]) (sc := defScope s__law_near) (by decide +kernel)) (fun _ _ _ _ _ => (pg_name (i := 5) sc__law_near.nd rfl (Or.inl rfl))) (fun _ _ _ _ _ => pts_nil) (fun _ _ _ _ _ => (pe_lst pa_nil)))
      (pss_cons (ps_for PassesOwn.never rfl (pi_list (pv 1)) (pg_tup (n := 2) rfl (pgs_cons (pg_name (i := 3) sc__law_near.nd rfl (Or.inl rfl)) (pgs_cons (pg_name (i := 4) sc__law_near.nd rfl (Or.inl rfl)) pgs_nil))) (pss_cons (ps_expr (pe_bm PySem.F.plainAttrs_list PySem.F.slot_list_append PySem.F.type_list_append mt_append (pe_ix ix_list (pv 2) (pv 3) (fun _ _ => rfl)) (pa_cons (pv 4) pa_nil)))
      (pss_one (ps_expr (pe_bm PySem.F.plainAttrs_list PySem.F.slot_list_append PySem.F.type_list_append mt_append (pe_ix ix_list (pv 2) (pv 4) (fun _ _ => rfl)) (pa_cons (pv 3) pa_nil))))))
      (pss_one (ps_ret (pv 2))))), ?_⟩
    walk_at "go"
    refine v_rng1 (j := (n : Int)) (fun i acc G' L' => G' = H ∧ ∃ nps : List Addr, nps.length = i ∧ acc = nps.map V.ref ∧ L' = nearL nps fun _ => []) (Own.start H) (by omega) ⟨rfl, [], rfl, rfl, rfl⟩ ?_ ?_
    · rintro D i acc G' L' H4 hi hi' e4 hl4 ⟨hG, nps, rfl, rfl, rfl⟩ S4
      subst hG
      walk_at "go"
      refine ⟨rfl, ?_⟩
      walk_at "go"
      refine n_lst S4 (by decide) fun q H5 hq S5 => ?_
      refine c_yes (acc := nps.map V.ref) (L1 := nearL (nps ++ [q]) fun _ => []) (S5.perm ?_) e4 hl4 hi' ⟨rfl, nps ++ [q], by rw [List.length_append]; rfl, by rw [List.map_append] <;> rfl, rfl⟩
      rw [nearL_snoc]
      exact ((List.perm_append_singleton _ _).cons _).trans (List.Perm.swap _ _ _)
    · rintro np acc G' L' H4 e4 _ ⟨hG, nps, hlen, rfl, rfl⟩ S4
      subst hG
      have hlen : nps.length = n := by omega
      obtain ⟨S6, e6, hnp⟩ := S4.freeze
      have hnp0 : G' np = none := S4.no0
      generalize upd G' np (.lst (nps.map V.ref)) = G6 at S6 e6 hnp
      have hl6 := hl.mono e6
      walk_at "go"
      refine w_list (xs := xs) (fun i σ' H' => (∃ x1 x2 x3, σ' = [some (.int (n : Int)), some (.ref p), some (.ref np), x1, x2, x3]) ∧ Own G6 (nearL nps fun j => nb (ps.take i) (j : Int)) H') (SqL.of (S6.ex _ _ (e6 _ _ hp))) ⟨⟨_, _, _, rfl⟩, S6⟩ (fun i σ' H' h => SqL.of (h.2.ex _ _ (e6 _ _ hp))) ?_ ?_
      · rintro i y σ' H' hy ⟨⟨x1, x2, x3, rfl⟩, S⟩
        obtain ⟨q, hq, t, rfl, ht6⟩ := pr_get hl6 hy
        have hb := ok q (List.mem_of_getElem? hq)
        obtain ⟨a, ha⟩ : ∃ a : Nat, q.1 = (a : Int) := ⟨q.1.toNat, by omega⟩
        obtain ⟨b, hbq⟩ : ∃ b : Nat, q.2 = (b : Int) := ⟨q.2.toNat, by omega⟩
        have hab : a ≠ b := by omega
        obtain ⟨pa, hpa⟩ : ∃ p, nps[a]? = some p := ⟨_, List.getElem?_eq_getElem (by omega)⟩
        obtain ⟨pb, hpb⟩ : ∃ p, nps[b]? = some p := ⟨_, List.getElem?_eq_getElem (by omega)⟩
        have hz2 : ∀ j : Nat, (nb (ps.take i) (j : Int)).length ≤ 10000 := fun j => Nat.le_trans (nb_len _ _) (by rw [List.length_take]; omega)
        refine s_gtup (S.st (SqT.of ht6)) rfl ?_
        walk_at "go"
        rw [ha]
        refine g_ixL (SqL.of (S.ex _ _ hnp)) (atI_nat (j := a) (v := .ref pa) (by rw [List.getElem?_map, hpa] <;> rfl)) ?_
        have ea : (nearL nps fun j => nb (ps.take i) (j : Int))[a]? = some (pa, .lst ((nb (ps.take i) (a : Int)).map V.int)) := nearL_get hpa
        refine ⟨tyL (SqL.of (S.getM (List.mem_of_getElem? ea))), ?_⟩
        walk_at "go"
        refine n_appM S ea (by rw [List.length_map]; have := hz2 a; omega) fun H7 S7 => ?_
        have eset : (nearL nps fun j => nb (ps.take i) (j : Int)).set a (pa, .lst ((nb (ps.take i) (a : Int)).map V.int ++ [.int q.2])) = nearL nps fun j => if j = a then nb (ps.take i) (j : Int) ++ [q.2] else nb (ps.take i) (j : Int) := by
          have e := nearL_set (g := fun j => nb (ps.take i) (j : Int)) (g' := fun j => if j = a then nb (ps.take i) (j : Int) ++ [q.2] else nb (ps.take i) (j : Int)) hpa (fun j hj => if_neg hj)
          rw [← e]
          simp
        rw [eset] at S7
        walk_at "go"
        rw [hbq]
        refine g_ixL (SqL.of (S7.ex _ _ hnp)) (atI_nat (j := b) (v := .ref pb) (by rw [List.getElem?_map, hpb] <;> rfl)) ?_
        have eb : (nearL nps fun j => if j = a then nb (ps.take i) (j : Int) ++ [q.2] else nb (ps.take i) (j : Int))[b]? = some (pb, .lst ((nb (ps.take i) (b : Int)).map V.int)) := by
          have z := nearL_get (g := fun j => if j = a then nb (ps.take i) (j : Int) ++ [q.2] else nb (ps.take i) (j : Int)) hpb
          rw [if_neg (Ne.symm hab)] at z
          exact z
        refine ⟨tyL (SqL.of (S7.getM (List.mem_of_getElem? eb))), ?_⟩
        walk_at "go"
        refine n_appM S7 eb (by rw [List.length_map]; have := hz2 b; omega) fun H8 S8 => ?_
        have etk : ps.take (i + 1) = ps.take i ++ [q] := take_snoc hq
        have eset2 : (nearL nps fun j => if j = a then nb (ps.take i) (j : Int) ++ [q.2] else nb (ps.take i) (j : Int)).set b (pb, .lst ((nb (ps.take i) (b : Int)).map V.int ++ [.int q.1])) = nearL nps fun j => nb (ps.take (i + 1)) (j : Int) := by
          have e := nearL_set (g := fun j => if j = a then nb (ps.take i) (j : Int) ++ [q.2] else nb (ps.take i) (j : Int)) (g' := fun j => nb (ps.take (i + 1)) (j : Int)) hpb (fun j hj => by
            rw [etk, nb_one_n (n := n) ha hbq hab, if_neg hj, ← hbq])
          rw [← e]
          simp only [etk]
          rw [nb_one_n (n := n) ha hbq hab, if_neg (Ne.symm hab), if_pos rfl]
          simp [ha]
        rw [ha] at eset2
        rw [eset2] at S8
        walk_at "go"
        exact ⟨⟨_, _, _, rfl⟩, S8⟩
      · rintro σ' H' ⟨⟨x1, x2, x3, rfl⟩, S⟩
        rw [(pr_len hl), List.take_length] at S
        walk_at "go"
        have new : ∀ a : Addr, G' a = none → nw G' H' a = H' a := fun a h => nw_new h
        refine k np H' hnp0 (e6.trans S.ex) ⟨nps, (new np hnp0).trans (S.ex _ _ hnp), hlen, fun i p hp => ?_⟩
        have m := List.mem_of_getElem? (nearL_get (g := fun j => nb ps (j : Int)) hp)
        exact (new p (fresh_back e6 (S.at_ _ m).1)).trans (S.at_ _ m).2
end
end NX

namespace NX
open PySem PySem.Spec PyProof.Rows L2
open Evl (Ex ex_l ex_t fresh_back)
abbrev s__law_switched : Stmt := top 33
theorem sc__law_switched : FnScope ["_law_near_here", "_law_state", "_law_station", "_law_channel", "_law_used", "_law_one"] ["_law_near_here", "_law_state", "_law_station"] (defScope s__law_switched) := ⟨rfl, rfl, rfl, by decide +kernel, rfl, by decide +kernel, by decide +kernel⟩
def spLsw : Sp := fun vs H Q _ => ∃ (a t : Addr) (n : Nat) (ks : List Pr) (st : List Int) (i : Nat), vs = [.ref a, .ref t, .int (i : Int)] ∧ NearAt H a n ks ∧ Okl n ks ∧ ks.length ≤ 10000 ∧ n ≤ 1000 ∧ StA H t st ∧ st.length = n ∧ i < n ∧ ∀ r H', Ex H H' → StA H' r (sw (nb ks) st i) → Q (.ref r) H'
theorem n_lsw {H : Hp} {a t : Addr} {n : Nat} {ks : List Pr} {st : List Int} {i : Nat} {Q : VK} {E : XK} (N : NearAt H a n ks) (ok : Okl n ks) (hz : ks.length ≤ 10000) (hn : n ≤ 1000) (ht : StA H t st) (hl : st.length = n) (hi : i < n)
    (k : ∀ r H', Ex H H' → StA H' r (sw (nb ks) st i) → Q (.ref r) H') : spLsw [.ref a, .ref t, .int (i : Int)] H Q E := ⟨a, t, n, ks, st, i, rfl, N, ok, hz, hn, ht, hl, hi, k⟩
section
variable {P : Program} {w : World} {K : PySem.W.Frag} {mg : Str → Option Value} {base : Heap}
theorem ok_lsw {f : Addr} {fd : FuncData} (F : Fun K "_law_switched" "_law_switched" s__law_switched f fd) (T : Txt mg)  : FnOk P w K mg base CX0 1 f fd ["_law_near_here", "_law_state", "_law_station"] (spLsw) := by
  refine F.ok sc__law_switched (fun vs H Q E h => ?_) (fun cdv A outer s H vs Q E hr h => ?_)
  · obtain ⟨a, t, n, ks, st, i, rfl, _⟩ := h
    rfl
  · obtain ⟨a, t, n, ks, st, i, rfl, ⟨nps, hnp, hnl, each⟩, ok, hz0, hs, ht, hl, hi, k⟩ := h
    obtain ⟨p, hp⟩ : ∃ p, nps[i]? = some p := ⟨_, List.getElem?_eq_getElem (by omega)⟩
    have hz := nb_len ks (i : Int)
    refine ⟨_, (pss_cons (ps_set (i := 3) sc__law_switched.nd rfl (Or.inl rfl) pe_int)
      (pss_cons (ps_if (pt_cmpR op_eq (pe_ix ix_tup (pv 1) (pv 2) (fun _ _ => rfl)) pe_int (nomark _)) (pss_cons (ps_setLc (i := 4) (own := [("_law_one", 5)]) (by rfl) sc__law_switched.nd rfl rfl (sw_true rfl rfl rfl (by decide +kernel)) (pi_list (pe_ix ix_list (pv 0) (pv 2) (fun _ _ => rfl))) (blkOk_by (own := [("_law_one", 5)]) (N := ["_law_near_here", "_law_state", "_law_station", "_law_channel", "_law_used", "_law_one"]) (sc := defScope s__law_switched) (by decide +kernel)) (fun _ _ _ _ _ => (pg_name (i := 5) sc__law_switched.nd rfl (Or.inl rfl))) (fun _ _ _ _ _ => pts_nil) (fun _ _ _ _ _ => (pe_ix (ix_tupK (K := K)) (pv 1) (pv 5) (fun _ _ => rfl))))
      (pss_cons (ps_set (i := 3) sc__law_switched.nd rfl (Or.inl rfl) pe_int)
      (pss_one (ps_while PassesOwn.never (pt_cmpR op_in_seq (pv 3) (pv 4) rfl) (pss_one (ps_set (i := 3) sc__law_switched.nd rfl (Or.inl rfl) (pe_op op_add (pv 3) pe_int))))))) pss_nil)
      (pss_one (ps_ret (pe_op op_catA (pe_op op_catA (pe_slice sl_tupA (pv 1) po_none (po_some (pv 2))) (pe_tup (pa_cons (pv 3) pa_nil))) (pe_slice sl_tupA (pv 1) (po_some (pe_op op_add (pv 2) pe_int)) po_none)))))), ?_⟩
    refine s_seq ?_
    refine s_asg ?_
    refine g_c ?_
    refine s_name ?_
    refine s_seq ?_
    refine s_join (fun σ2 H2 => ∃ (c : Int) (x4 x5 : Option V), σ2 = [some (.ref a), some (.ref t), some (.int (i : Int)), some (.int c), x4, x5] ∧ Ex H H2 ∧ c = chn (nb ks) st i) ?_ (fun n' hn' => ?_)
    · rintro σ2 H2 ⟨c, x4, x5, rfl, e2, rfl⟩
      have ht2 : SqT K H2 t (st.map V.int) := SqT.of (e2 _ _ ht)
      walk_at "go"
      refine n_slA (Own.start H2) ht2 fun r3 G3 H3 e3 _ hr3 S3 => ?_
      rw [cut_take] at hr3
      walk_at "go"
      refine n_tup S3 (by show 1 ≤ 10000000; decide) fun t4 G4 H4 _ e4 _ ht4 S4 => ?_
      walk_at "go"
      refine n_catT1 S4 (ex_t e4 hr3) ht4 (by simp) (by simp; omega) fun r5 G5 H5 e5 _ hr5 S5 => ?_
      walk_at "go"
      refine n_slA S5 (ex_t (e3.trans (e4.trans e5)) ht2) fun r6 G6 H6 e6 _ hr6 S6 => ?_
      rw [show (i : Int) + 1 = ((i + 1 : Nat) : Int) by omega, cut_drop _ _ (by omega)] at hr6
      walk_at "go"
      refine n_catT2 S6 (e6 _ _ hr5) hr6 (by simp) (by simp; omega) fun r7 G7 H7 e7 _ hr7 S7 => ?_
      walk_at "go"
      refine k r7 H7 (e2.trans ((((e3.trans e4).trans e5).trans (e6.trans e7)).trans S7.ex)) (S7.ex _ _ ?_)
      rw [hr7]
      unfold sw
      simp only [List.map_append, List.map_cons, List.map_nil]
    · walk_at "go"
      refine g_ixT (SqT.of ht) (at_tv (by omega) (by omega)) ?_
      walk_at "go"
      refine if_2 (fun c => ?_) (fun c => ?_)
      · have c := of_decide_eq_true c
        walk_at "go"
        refine g_ixL (SqL.of hnp) (atI_nat (j := i) (v := .ref p) (by rw [List.getElem?_map, hp] <;> rfl)) ?_
        refine v_list (xs := (nb ks (i : Int)).map V.int) (fun m acc G' L' => L' = [] ∧ acc = (((nb ks (i : Int)).take m).map (tv st)).map V.int) (Own.start H) (SqL.of (each i p hp)) (by rw [List.length_map]; omega) ⟨rfl, rfl⟩ ?_ ?_
        · rintro D m x acc G' L' H' hx hm e' hl' ⟨rfl, rfl⟩ S'
          obtain ⟨y, hy, rfl⟩ := get_map hx
          obtain ⟨y', rfl, hy'⟩ := nb_nat ok (List.mem_of_getElem? hy)
          walk_at "go"
          refine ⟨rfl, ?_⟩
          walk_at "go"
          refine g_ixT (ex_t (e'.trans S'.ex) (SqT.of ht)) (at_tv (by omega) (by omega)) ?_
          exact c_yes S' e' hl' hm ⟨rfl, by rw [take_snoc hy, List.map_append, List.map_append] <;> rfl⟩
        · rintro up acc G' L' H' e' _ ⟨rfl, rfl⟩ S'
          rw [List.length_map, List.take_length] at S'
          generalize hus : (nb ks (i : Int)).map (tv st) = us at S'
          walk_at "go"
          refine s_while (fun m σ' H'' => ∃ (c : Int) (x5 : Option V) (G2 : Hp), σ' = [some (.ref a), some (.ref t), some (.int (i : Int)), some (.int c), some (.ref up), x5] ∧ m = ((us.length : Int) + 1 - c).toNat ∧ 1 ≤ c ∧ (∀ d, 1 ≤ d → d < c → d ∈ us) ∧ Ex H G2 ∧ Own G2 [(up, .lst (us.map V.int))] H'') _
            ⟨1, _, G', rfl, rfl, Int.le_refl 1, fun d a b => by omega, e', S'⟩ ?_
          rintro m σ' H'' ⟨c', x5, G2, rfl, rfl, h1, hb, eG, S⟩
          walk_at "go"
          refine n_inIL (SqL.of S.get0) ?_
          walk_at "go"
          refine if_2 (fun cu => ?_) (fun cu => ?_)
          · have cu := of_decide_eq_true cu
            refine s_turn ?_
            walk_at "go"
            have hb' : ∀ d, 1 ≤ d → d < c' + 1 → d ∈ us := fun d a b => by
              by_cases e : d = c'
              · rw [e]; exact cu
              · exact hb d a (by omega)
            have hle := below_le hb'
            exact ⟨_, by omega, c' + 1, _, G2, rfl, rfl, by omega, hb', eG, S⟩
          · have cu := of_decide_eq_false cu
            refine hn' _ _ ⟨c', _, _, rfl, eG.trans S.ex, ?_⟩
            unfold chn
            rw [if_pos c, hus]
            exact (mexL_of ⟨h1, cu, hb⟩).symm
      · have c := of_decide_eq_false c
        walk_at "go"
        refine hn' _ _ ⟨0, _, _, rfl, Ex.refl H, ?_⟩
        unfold chn
        rw [if_neg c]
end
end NX

namespace NX
open PySem PySem.Spec PyProof.Rows L2
open Evl (Ex ex_l ex_t fresh_back)
abbrev s__law_well : Stmt := top 29
theorem sc__law_well : FnScope ["_law_cell", "_law_turn"] ["_law_cell", "_law_turn"] (defScope s__law_well) := ⟨rfl, rfl, rfl, by decide +kernel, rfl, by decide +kernel, by decide +kernel⟩
abbrev s__law_take : Stmt := top 30
theorem sc__law_take : FnScope ["_law_well_here", "_law_bound", "_law_drawn", "_law_value"] ["_law_well_here", "_law_bound"] (defScope s__law_take) := ⟨rfl, rfl, rfl, by decide +kernel, rfl, by decide +kernel, by decide +kernel⟩
abbrev s__law_mixed : Stmt := top 31
theorem sc__law_mixed : FnScope ["_law_well_here", "_law_some", "_law_left", "_law_found"] ["_law_well_here", "_law_some"] (defScope s__law_mixed) := ⟨rfl, rfl, rfl, by decide +kernel, rfl, by decide +kernel, by decide +kernel⟩
/-- a draw below n: some number, the well in some other state -/
def spTake : Sp := fun vs H Q _ => ∃ (W : Addr) (a b c n : Int), vs = [.ref W, .int n] ∧ H W = some (wl a b c) ∧ 0 < n ∧ n < 1073741824 ∧ ∀ r a' b' c', 0 ≤ r → r < n → Q (.int r) (upd H W (wl a' b' c'))
def spWell : Sp := fun vs H Q _ => ∃ (x t : Int), vs = [.int x, .int t] ∧ ∀ a b c, Ret (wl a b c) H Q
theorem n_take {H G : Hp} {L : List (Addr × HO)} {W : Addr} {a b c n : Int} {Q : VK} {E : XK} (S : Own G ((W, wl a b c) :: L) H) (h : 0 < n ∧ n < 1073741824) (k : ∀ r a' b' c' H1, 0 ≤ r → r < n → Own G ((W, wl a' b' c') :: L) H1 → Q (.int r) H1) : spTake [.ref W, .int n] H Q E :=
  ⟨W, a, b, c, n, rfl, S.get0, h.1, h.2, fun r a' b' c' h1 h2 => k r a' b' c' _ h1 h2 S.put0⟩
section
variable {P : Program} {w : World} {K : PySem.W.Frag} {mg : Str → Option Value} {base : Heap}
theorem ok_well {f : Addr} {fd : FuncData} (F : Fun K "_law_well" "_law_well" s__law_well f fd) (T : Txt mg) : FnOk P w K mg base CX0 1 f fd ["_law_cell", "_law_turn"] spWell := by
  refine F.ok sc__law_well (fun vs H Q E h => ?_) (fun cdv A outer s H vs Q E hr h => ?_)
  · obtain ⟨x, t, rfl, _⟩ := h
    rfl
  · obtain ⟨x, t, rfl, k⟩ := h
    refine ⟨_, (pss_one (ps_ret (pe_lst (pa_cons (pe_op op_mul (pv 0) (pe_callTy call_intN (by rfl) T.n_int (by decide +kernel) (pa_cons (pe_cmpR op_ge (pv 0) (pe_op op_pow pe_int pe_int) (nomark _)) pa_nil))) (pa_cons (pe_op op_add (pe_op op_mod (pv 0) pe_int) (pe_op op_mul pe_int (pv 1))) (pa_cons pe_int pa_nil)))))), ?_⟩
    walk_at "go"
    refine g_I ⟨by decide, by decide, by decide⟩ ?_
    walk_at "go"
    refine g_I (.inr (by split <;> decide)) ?_
    walk_at "go"
    refine g_I (by decide) ?_
    walk_at "go"
    refine g_I (.inl ⟨by decide, by decide⟩) ?_
    walk_at "go"
    refine n_lst (Own.start H) (by show 3 ≤ 10000000; decide) fun W H5 hW S5 => ?_
    exact k _ _ _ W H5 hW S5.ex S5.get0
theorem ok_take {f : Addr} {fd : FuncData} (F : Fun K "_law_take" "_law_take" s__law_take f fd) : FnOk P w K mg base CX0 1 f fd ["_law_well_here", "_law_bound"] spTake := by
  refine F.ok sc__law_take (fun vs H Q E h => ?_) (fun cdv A outer s H vs Q E hr h => ?_)
  · obtain ⟨W, a, b, c, n, rfl, _⟩ := h
    rfl
  · obtain ⟨W, a, b, c, n, rfl, hW, h1, h2, k⟩ := h
    refine ⟨_, (pss_cons (ps_if (pt_cmpR op_gt (pe_ix ix_list (pv 0) pe_int (fun _ _ => rfl)) pe_int (nomark _)) (pss_cons (ps_set (i := 2) sc__law_take.nd rfl (Or.inl rfl) (pe_op op_mod (pe_ix ix_list (pv 0) pe_int (fun _ _ => rfl)) (pv 1)))
      (pss_cons (ps_asg (pe_op op_fdiv (pe_ix ix_list (pv 0) pe_int (fun _ _ => rfl)) (pv 1)) (pg_sub (pv 0) pe_int set_list))
      (pss_one (ps_ret (pv 2))))) pss_nil)
      (pss_cons (ps_asg (pe_op op_add (pe_ix ix_list (pv 0) pe_int (fun _ _ => rfl)) pe_int) (pg_sub (pv 0) pe_int set_list))
      (pss_cons (ps_set (i := 3) sc__law_take.nd rfl (Or.inl rfl) (pe_op op_mod (pe_op op_mul (pe_op op_add (pe_op op_add (pe_ix ix_list (pv 0) pe_int (fun _ _ => rfl)) (pe_op op_mul pe_int (pe_ix ix_list (pv 0) pe_int (fun _ _ => rfl)))) pe_int) pe_int) pe_int))
      (pss_cons (ps_set (i := 3) sc__law_take.nd rfl (Or.inl rfl) (pe_op op_mod (pe_op op_mul (pv 3) (pe_op op_add (pe_op op_fdiv (pv 3) pe_int) pe_int)) pe_int))
      (pss_one (ps_ret (pe_op op_mod (pe_op op_fdiv (pe_op op_mod (pe_op op_mul (pv 3) (pe_op op_add (pe_op op_fdiv (pv 3) pe_int) pe_int)) pe_int) pe_int) (pv 1)))))))), ?_⟩
    have hS : SqL K H W [.int a, .int b, .int c] := SqL.of hW
    walk_at "go"
    refine g_ixL (i := 0) hS rfl ?_
    walk_at "go"
    refine if_2 (fun e => ?_) (fun e => ?_)
    · walk_at "go"
      refine g_ixL (i := 0) hS rfl ?_
      walk_at "go"
      refine g_I h1 ?_
      walk_at "go"
      refine g_ixL (i := 0) hS rfl ?_
      walk_at "go"
      refine g_I ⟨h1, h2⟩ ?_
      walk_at "go"
      refine n_setLi (i := 0) hW rfl ?_
      walk_at "go"
      exact k _ _ _ _ (mod_rng h1).1 (mod_rng h1).2
    · walk_at "go"
      refine g_ixL (i := 2) hS rfl ?_
      walk_at "go"
      refine n_setLi (i := 2) hW rfl ?_
      have hS2 : SqL K (upd H W (.lst [.int a, .int b, .int (c + 1)])) W [.int a, .int b, .int (c + 1)] := SqL.of upd_same
      walk_at "go"
      refine g_ixL (i := 1) hS2 rfl ?_
      walk_at "go"
      refine g_ixL (i := 2) hS2 rfl ?_
      walk_at "go"
      refine g_I (.inl ⟨by decide, by decide⟩) ?_
      walk_at "go"
      refine g_I (.inr ⟨by decide, by decide⟩) ?_
      walk_at "go"
      refine g_I (by decide) ?_
      walk_at "go"
      have z1 := mod_rng (a := (b + 67867967 * (c + 1) + 17) * 48271) (m := 2147483563) (by decide)
      generalize (b + 67867967 * (c + 1) + 17) * 48271 % 2147483563 = x at z1 ⊢
      refine g_I ⟨by decide, by decide⟩ ?_
      walk_at "go"
      refine g_I (.inl ⟨by omega, by omega⟩) ?_
      walk_at "go"
      refine g_I (by decide) ?_
      walk_at "go"
      have z2 := mod_rng (a := x * (x / 1033 + 69697)) (m := 2147483587) (by decide)
      generalize x * (x / 1033 + 69697) % 2147483587 = y at z2 ⊢
      refine g_I ⟨by decide, by decide⟩ ?_
      walk_at "go"
      refine g_I (.inl ⟨by omega, by omega⟩) ?_
      walk_at "go"
      refine g_I (by decide) ?_
      walk_at "go"
      refine g_I ⟨by decide, by decide⟩ ?_
      walk_at "go"
      refine g_I h1 ?_
      exact k _ _ _ _ (mod_rng h1).1 (mod_rng h1).2
theorem ok_mixed {f : Addr} {fd : FuncData} (F : Fun K "_law_mixed" "_law_mixed" s__law_mixed f fd) (T : Txt mg) (c__law_take : Cal P w K mg base 1 "_law_take" ["_law_well_here", "_law_bound"] [] spTake) : FnOk P w K mg base CX0 2 f fd ["_law_well_here", "_law_some"] (spMixed K) := by
  refine F.ok sc__law_mixed (fun vs H Q E h => ?_) (fun cdv A outer s H vs Q E hr h => ?_)
  · obtain ⟨W, p, a, b, c, xs, rfl, _⟩ := h
    rfl
  · obtain ⟨W, p, a, b, c, xs, rfl, hW, hp, hd, hz, k⟩ := h
    have hu65 : ∀ X : Cx, X.A = A.deeper (envOfC "_law_mixed" (defScope s__law_mixed) s.heap.objs.size f cdv) → X.A.units + 65 < cLine := fun X e => by rw [e]; have := hr.un; omega
    have S0 := Own.give (o := wl a b c) hW
    have hG : ∀ x u, x ≠ W → H x = some u → cut H [(W, wl a b c)] x = some u := fun x u ne e => by rw [cut_out (by simpa using ne)]; exact e
    generalize cut H [(W, wl a b c)] = G at hp hd S0 k hG
    refine ⟨_, (pss_cons (ps_set (i := 2) sc__law_mixed.nd rfl (Or.inl rfl) (pe_callTy call_listN (by rfl) T.n_list (by decide +kernel) (pa_cons (pv 1) pa_nil)))
      (pss_cons (ps_set (i := 3) sc__law_mixed.nd rfl (Or.inl rfl) (pe_lst pa_nil))
      (pss_cons (ps_while PassesOwn.never (pt_cmpR (op_neD (Nat.lt_of_succ_lt (hu65 _ rfl))) (pv 2) (pe_lst pa_nil) (nomark _)) (pss_one (ps_expr (pe_bm PySem.F.plainAttrs_list PySem.F.slot_list_append PySem.F.type_list_append mt_append (pv 3) (pa_cons (pe_bm PySem.F.plainAttrs_list PySem.F.slot_list_pop PySem.F.type_list_pop mt_popAt (pv 2) (pa_cons (pe_cal c__law_take (hr.mono (by first | decide | omega)) passN (pa_cons (pv 0) (pa_cons (pe_callB call_lenN (by rfl) T.n_len (by decide +kernel) (pa_cons (pv 2) pa_nil)) pa_nil))) pa_nil)) pa_nil)))))
      (pss_one (ps_ret (pv 3)))))), ?_⟩
    walk_at "go"
    refine n_list S0 (S0.sl hp) fun l H1 hl S1 => ?_
    walk_at "go"
    refine n_lst S1 (by decide) fun q H2 hq S2 => ?_
    walk_at "go"
    have hq0 : H q = none := by
      cases hh : H q with
      | none => rfl
      | some u =>
        by_cases e : q = W
        · rw [e, S1.get1] at hq; cases hq
        · have z := S1.ex _ _ (hG q u e hh)
          rw [hq] at z
          exact z.symm
    refine s_while (fun m σ' H' => ∃ (fs ls : List V) (a' b' c' : Int), σ' = [some (.ref W), some (.ref p), some (.ref l), some (.ref q)] ∧ m = ls.length ∧ (fs ++ ls).Perm xs ∧ Own G [(q, .lst fs), (l, .lst ls), (W, wl a' b' c')] H') _ ⟨[], xs, a, b, c, rfl, rfl, List.Perm.refl _, S2⟩ ?_
    rintro m σ' H' ⟨fs, ls, a', b', c', rfl, rfl, hperm, S⟩
    have hlen : fs.length + ls.length = xs.length := by rw [← List.length_append]; exact hperm.length_eq
    have hsub : ∀ y ∈ ls, y ∈ xs := fun y hy => hperm.mem_iff.mp (List.mem_append_right _ hy)
    walk_at "go"
    refine n_lst S (by decide) fun r H3 hr3 S3 => ?_
    walk_at "go"
    refine n_neNil hd S3.ex hsub (SqL.of S3.get2) S3.l0 ?_
    walk_at "go"
    have S4 := S3.forget
    refine if_2 (fun e => ?_) (fun e => ?_)
    · have hne : ls ≠ [] := fun z => by rw [dtrue z] at e; cases e
      have hpos : 0 < ls.length := List.length_pos_iff.mpr hne
      refine s_turn ?_
      walk_at "go"
      refine ⟨tyL S4.l0, ?_⟩
      walk_at "go"
      refine ⟨tyL S4.l1, ?_⟩
      walk_at "go"
      refine n_len S4.l1 ?_
      walk_at "go"
      refine n_take S4.rot ⟨by omega, by omega⟩ fun i a2 b2 c2 H5 h0 h1 S5 => ?_
      walk_at "go"
      refine n_popAt S5.unrot.swap h0 h1 (by omega) fun y H6 hy S6 => ?_
      walk_at "go"
      refine n_app S6.swap (by omega) fun H7 S7 => ?_
      refine ⟨(ls.eraseIdx i.toNat).length, ?_, fs ++ [y], ls.eraseIdx i.toNat, a2, b2, c2, rfl, rfl, ?_, S7⟩
      · rw [List.length_eraseIdx_of_lt (by omega)]
        omega
      · obtain ⟨hi, ey⟩ := List.getElem?_eq_some_iff.mp hy
        have pe := erase_perm (l := ls) hi
        rw [ey] at pe
        rw [List.append_assoc]
        exact (pe.append_left fs).trans hperm
    · have hnil : ls = [] := Classical.byContradiction fun z => by rw [dfalse z] at e; cases e
      subst hnil
      walk_at "go"
      rw [List.append_nil] at hperm
      exact k fs q _ a' b' c' hperm hq0 ((S4.swap.forget).swap)
end
end NX

namespace NX
open PySem PySem.Spec PyProof.Rows L2
open Evl (Ex ex_l ex_t fresh_back)
abbrev s_Network___len__ : Stmt := inClass (top 10) 2
theorem sc_Network___len__ : FnScope ["self"] ["self"] (defScope s_Network___len__) := ⟨rfl, rfl, rfl, by decide +kernel, rfl, by decide +kernel, by decide +kernel⟩
abbrev s_Network___eq__ : Stmt := inClass (top 10) 3
theorem sc_Network___eq__ : FnScope ["self", "other"] ["self", "other"] (defScope s_Network___eq__) := ⟨rfl, rfl, rfl, by decide +kernel, rfl, by decide +kernel, by decide +kernel⟩
section
variable {P : Program} {w : World} {K : PySem.W.Frag} {mg : Str → Option Value} {base : Heap}
theorem ok_len {f C : Addr} {fd : FuncData} (F : Fun K "__len__" "Network.__len__" s_Network___len__ f fd) (T : Txt mg) (NC : NetC K C) : FnOk P w K mg base CX0 1 f fd ["self"] (spLen C) := by
  refine F.ok sc_Network___len__ (fun vs H Q E h => ?_) (fun cdv A outer s H vs Q E hr h => ?_)
  · obtain ⟨a, n, ks, rfl, _⟩ := h
    rfl
  · obtain ⟨a, n, ks, rfl, N, k⟩ := h
    obtain ⟨dx, kp, np, xs, nps, o⟩ := N.at_
    refine ⟨_, (pss_one (ps_ret (pe_callB call_lenN (by rfl) T.n_len (by decide +kernel) (pa_cons (pe_fld (pv 0) rfl) pa_nil)))), ?_⟩
    walk_at "go"
    refine n_fld o.ins NC.cl NC.nN (nf_near kp np) ?_
    walk_at "go"
    refine n_len (SqL.of o.near) ?_
    rw [List.length_map, o.len]
    exact k
theorem ok_eq {f C : Addr} {fd : FuncData} (F : Fun K "__eq__" "Network.__eq__" s_Network___eq__ f fd) (T : Txt mg) (NC : NetC K C) (hC : mg "Network" = some (.ref C)) (M_len : Mth P w K mg base 1 C "__len__" ["self"] (spLen C)) :
    FnOk P w K mg base CX0 3 f fd ["self", "other"] (spEqN C) := by
  refine F.ok sc_Network___eq__ (fun vs H Q E h => ?_) (fun cdv A outer s H vs Q E hr h => ?_)
  · obtain ⟨a, b, n, m, ks, ls, rfl, _⟩ := h
    rfl
  · obtain ⟨a, b, n, m, ks, ls, rfl, N1, N2, k⟩ := h
    have hu65 : ∀ X : Cx, X.A = A.deeper (envOfC "Network.__eq__" (defScope s_Network___eq__) s.heap.objs.size f cdv) → X.A.units + 65 < cLine := fun X e => by rw [e]; have := hr.un; omega
    obtain ⟨dx, kp, np, xs, nps, o⟩ := N1.at_
    obtain ⟨dx', kp', np', xs', nps', o'⟩ := N2.at_
    refine ⟨_, (pss_one (ps_ret (pe_and (pe_callB call_isi (by rfl) T.n_isinstance (by decide +kernel) (pa_cons (pv 1) (pa_cons (pe_glob (v := .ref C) (by rfl) hC rfl) pa_nil))) (pe_and (pe_cmpR op_eq (pe_callB (call_lenNet NC M_len (hr.mono (by first | decide | omega))) (by rfl) T.n_len (by decide +kernel) (pa_cons (pv 0) pa_nil)) (pe_callB (call_lenNet NC M_len (hr.mono (by first | decide | omega))) (by rfl) T.n_len (by decide +kernel) (pa_cons (pv 1) pa_nil)) (nomark _)) (pe_one (pe_cmpR (op_eqD (Nat.lt_of_succ_lt (hu65 _ rfl))) (pe_fld (pv 0) rfl) (pe_fld (pv 1) rfl) (nomark _))))))), ?_⟩
    walk_at "go"
    refine ⟨_, _, _, _, _, rfl, .own C, .base (.ins o'.ins NC.cl NC.ha NC.hn NC.ht NC.hm), NC.kit, ?_⟩
    walk_at "go"
    refine n_lenNet N1 ?_
    walk_at "go"
    refine n_lenNet N2 ?_
    walk_at "go"
    refine if_2 (fun e => ?_) (fun e => ?_)
    · have e := of_decide_eq_true e
      walk_at "go"
      refine n_fld o.ins NC.cl NC.nK (nf_kept kp np) ?_
      walk_at "go"
      refine n_fld o'.ins NC.cl NC.nK (nf_kept kp' np') ?_
      refine ⟨_, _, .lst (SqL.of o.kept) (dp_lks o.lks), .lst (SqL.of o'.kept) (dp_lks o'.lks), shaped_lks ks, shaped_lks ls, ?_⟩
      rw [eqv_lks]
      have z := k H (Ex.refl H)
      have e2 : decide (n = m ∧ ks = ls) = decide (ks = ls) := by
        have hnm : n = m := by omega
        rw [Bool.eq_iff_iff]
        simp [hnm]
      rw [e2] at z
      exact z
    · have e := of_decide_eq_false e
      have z := k H (Ex.refl H)
      have e2 : decide (n = m ∧ ks = ls) = false := decide_eq_false fun c => e (by rw [c.1])
      rw [e2] at z
      exact z
end
end NX

namespace NX
open PySem PySem.Spec PyProof.Rows L2
open Evl (Ex ex_l ex_t fresh_back)
/-! ### for k in a new dict whose keys are tuples -/
theorem Own.frz {G H : Hp} {L : List (Addr × HO)} {d : Addr} {o : HO} (S : Own G ((d, o) :: L) H) (u : HO) : Own (upd G d u) L (upd H d u) ∧ Ex G (upd G d u) ∧ upd G d u d = some u := by
  have ne : ∀ x ∈ L, x.1 ≠ d := fun x hx z => S.nin (z ▸ List.mem_map_of_mem hx)
  refine ⟨⟨fun a v h => ?_, fun x hx => ?_, S.forget.nd, S.forget.nt⟩, fun a v h => ?_, upd_same⟩
  · by_cases e : a = d
    · subst e
      rw [upd_same] at h ⊢
      exact h
    · rw [upd_ne e] at h ⊢
      exact S.ex _ _ h
  · rw [upd_ne (ne x hx), upd_ne (ne x hx)]
    exact S.at_ x (List.mem_cons_of_mem _ hx)
  · have e : a ≠ d := ne_of_none h S.no0
    rw [upd_ne e]
    exact h
section
variable {σ : L2.St} {G H : Hp} {L : List (Addr × HO)} {te : TE} {tt : TT} {tb : TS} {g : TG} {vs : List Nat} {Q : VK} {n b c : L2.St → Hp → Prop} {rt : VK} {d : Addr} {o : Obj} {kvs : List (List L2.Key × V)}
theorem g_keysF {td : TE} {R : It → Hp → Prop} (k : td σ H fun x H1 => ∃ d kvs, x = .ref d ∧ H1 d = some (.dT kvs) ∧ ∀ o, R (Itkt d o kvs) (upd H1 d (.frz o (.dT kvs)))) : iKeysF td σ H R := k
theorem n_keysF {D : Ends} (S : Own G ((d, .dT kvs) :: L) H) (k : ∀ o G1 H1, Ex G G1 → G1 d = some (.frz o (.dT kvs)) → Own G1 L H1 → FORJ (Itkt d o kvs) g tb D σ H1) : ∃ d' kvs', V.ref d = .ref d' ∧ H d' = some (.dT kvs') ∧ ∀ o, FORJ (Itkt d' o kvs') g tb D σ (upd H d' (.frz o (.dT kvs'))) :=
  ⟨d, kvs, rfl, S.get0, fun o => k o _ _ (S.frz _).2.1 (S.frz _).2.2 (S.frz _).1⟩
theorem n_keysL (S : Own G ((d, .dT kvs) :: L) H) (k : ∀ o G1 H1, Ex G G1 → G1 d = some (.frz o (.dT kvs)) → Own G1 L H1 → LCJ (Itkt d o kvs) g tt te vs σ H1 Q) : ∃ d' kvs', V.ref d = .ref d' ∧ H d' = some (.dT kvs') ∧ ∀ o, LCJ (Itkt d' o kvs') g tt te vs σ (upd H d' (.frz o (.dT kvs'))) Q :=
  ⟨d, kvs, rfl, S.get0, fun o => k o _ _ (S.frz _).2.1 (S.frz _).2.2 (S.frz _).1⟩
theorem w_keysT (Pv : Nat → L2.St → Hp → Prop) (h0 : Pv 0 σ H) (hl : ∀ i σ H, Pv i σ H → H d = some (.frz o (.dT kvs)))
    (hs : ∀ i k v q σ H, kvs[i]? = some (k, v) → H q = some (.tup (k.map kV)) → Pv i σ H → g (.ref q) σ H fun σ2 H2 => tb ⟨Pv (i + 1), rt, n, Pv (i + 1)⟩ σ2 H2) (hd : ∀ σ H, Pv kvs.length σ H → n σ H) :
    FORJ (Itkt d o kvs) g tb ⟨n, rt, b, c⟩ σ H := by
  refine ⟨fun i m σ H => m = kvs.length - i ∧ i ≤ kvs.length ∧ Pv i σ H, ⟨kvs.length, by simp, Nat.zero_le _, h0⟩, ?_⟩
  rintro i m σ H ⟨rfl, hi, p⟩
  have q := hl i σ H p
  by_cases hlt : i < kvs.length
  · refine .inr ⟨⟨q, hlt⟩, Pv (i + 1), fun σ' H' p' => ⟨kvs.length - (i + 1), by omega, rfl, hlt, p'⟩, fun x H' y => ?_⟩
    obtain ⟨rfl, k, v, a, h1, rfl, h2⟩ := y
    exact hs i k v a σ _ h1 h2 p
  · have e : i = kvs.length := by omega
    subst e
    exact .inl ⟨⟨q, Nat.le_refl _⟩, hd _ _ p⟩
theorem v_keysT (F : Nat → List V → Hp → List (Addr × HO) → Prop) (S : Own G L H) (hx : G d = some (.frz o (.dT kvs))) (hz : kvs.length ≤ 1000000) (h0 : F 0 [] G L)
    (hs : ∀ D i k v q acc G1 L1 H1, kvs[i]? = some (k, v) → H1 q = some (.tup (k.map kV)) → i < 1000000 → Ex G G1 → acc.length ≤ i → F i acc G1 L1 → Own G1 ((D, .lst acc) :: L1) H1 → g (.ref q) (wipe σ vs) H1 fun σ2 H2 => wipe σ2 vs = wipe σ vs ∧ tt σ2 H2 fun b H3 =>
      if b = true then te σ2 H3 fun y H4 => CE G D F i y H4 else CP G D F (i + 1) H3)
    (hd : ∀ p acc G1 L1 H1, Ex G G1 → acc.length ≤ kvs.length → F kvs.length acc G1 L1 → Own G1 ((p, .lst acc) :: L1) H1 → Q (.ref p) H1) :
    LCJ (Itkt d o kvs) g tt te vs σ H Q := by
  intro D hD
  refine ⟨fun i m H => m = kvs.length - i ∧ i ≤ kvs.length ∧ CP G D F i H, ⟨kvs.length, by simp, Nat.zero_le _, [], G, L, Ex.refl G, Nat.le_refl _, h0, S.lay hD⟩, ?_⟩
  rintro i m H1 ⟨rfl, hi, p⟩
  obtain ⟨acc, G1, L1, e, hl, f, S1⟩ := p
  have q := S1.ex _ _ (e _ _ hx)
  by_cases hlt : i < kvs.length
  · refine .inr ⟨⟨q, hlt⟩, CP G D F (i + 1), fun H' p' => ⟨kvs.length - (i + 1), by omega, rfl, hlt, p'⟩, fun x H' y => ?_⟩
    obtain ⟨rfl, k, v, a, h1, rfl, h2⟩ := y
    exact hs D i k v a acc G1 L1 _ h1 h2 (by omega) e hl f S1
  · have ei : i = kvs.length := by omega
    subst ei
    exact .inl ⟨⟨q, Nat.le_refl _⟩, hd D acc G1 L1 H1 e hl f S1⟩
end
/-! ### lists of states compared -/
def pdN (ns : List Int) : PyData := .tuple (ns.map .int)
theorem dpN_ints {K : PySem.W.Frag} {H : Hp} : ∀ ns : List Int, DpAll K H (ns.map V.int) (ns.map .int)
  | [] => .nil
  | n :: ns => .cons (.int _) (dpN_ints ns)
theorem dp_sts {K : PySem.W.Frag} {H : Hp} : ∀ {xs : List V} {L : List (List Int)}, Sts H xs L → DpAll K H xs (L.map pdN)
  | _, _, .nil => .nil
  | _, _, .cons r t => by
    obtain ⟨u, rfl, hu⟩ := r
    exact .cons (.tup (SqT.of hu) (dpN_ints _)) (dp_sts t)
theorem layN_int : ∀ ns : List Int, PyData.canLayAll0 (ns.map .int) = true
  | [] => by rw [List.map_nil]; unfold PyData.canLayAll0; rfl
  | n :: ns => by
    rw [List.map_cons]
    unfold PyData.canLayAll0
    rw [layN_int ns]
    show (PyData.canLay0 (.int n) && true) = true
    simp [PyData.canLay0]
theorem depthN_int : ∀ ns : List Int, PyData.depthAll (ns.map .int) ≤ 1
  | [] => by rw [List.map_nil]; unfold PyData.depthAll; omega
  | n :: ns => by
    rw [List.map_cons]
    unfold PyData.depthAll
    have := depthN_int ns
    have h : PyData.depth (.int n) ≤ 1 := by simp [PyData.depth]
    omega
theorem lay_sts : ∀ L : List (List Int), PyData.canLayAll0 (L.map pdN) = true
  | [] => by rw [List.map_nil]; unfold PyData.canLayAll0; rfl
  | n :: L => by
    rw [List.map_cons]
    unfold PyData.canLayAll0
    rw [lay_sts L]
    show (PyData.canLay0 (.tuple (n.map .int)) && true) = true
    simp only [PyData.canLay0, layN_int, Bool.and_self]
theorem depth_sts : ∀ L : List (List Int), PyData.depthAll (L.map pdN) ≤ 2
  | [] => by rw [List.map_nil]; unfold PyData.depthAll; omega
  | n :: L => by
    rw [List.map_cons]
    unfold PyData.depthAll
    have := depth_sts L
    have h : PyData.depth (pdN n) ≤ 2 := by
      unfold pdN
      simp only [PyData.depth]
      have := depthN_int n
      omega
    omega
theorem shaped_sts (L : List (List Int)) : SeqAt.shaped (.list (L.map pdN)) = true := by
  unfold SeqAt.shaped
  have h := depth_sts L
  rw [Bool.and_eq_true]
  refine ⟨?_, decide_eq_true ?_⟩
  · simp only [PyData.canLay0]
    exact lay_sts L
  · simp only [PyData.depth]
    omega
theorem eqvN_ints : ∀ a b : List Int, PyData.eqvAll (a.map .int) (b.map .int) = decide (a = b)
  | [], [] => by simp [PyData.eqvAll]
  | [], _ :: _ => by simp [PyData.eqvAll]
  | _ :: _, [] => by simp [PyData.eqvAll]
  | x :: a, y :: b => by
    rw [List.map_cons, List.map_cons, PyData.eqvAll, eqvN_ints a b]
    simp only [PyData.eqv, List.cons.injEq]
    rw [Bool.eq_iff_iff]
    simp
theorem eqv_sts : ∀ a b : List (List Int), PyData.eqvAll (a.map pdN) (b.map pdN) = decide (a = b)
  | [], [] => by simp [PyData.eqvAll]
  | [], _ :: _ => by simp [PyData.eqvAll]
  | _ :: _, [] => by simp [PyData.eqvAll]
  | x :: a, y :: b => by
    rw [List.map_cons, List.map_cons, PyData.eqvAll, eqv_sts a b]
    unfold pdN
    rw [PyData.eqv, eqvN_ints]
    rw [Bool.eq_iff_iff]
    simp
theorem n_eqS {K : PySem.W.Frag} {H : Hp} {c d : Addr} {A B : List (List Int)} {x y : List V} {Q : VK} (h1 : SqL K H c x) (h2 : SqL K H d y) (l1 : Sts H x A) (l2 : Sts H y B) (k : Q (.bl (decide (A = B))) H) : rEqD K (.ref c) (.ref d) H Q :=
  ⟨_, _, .lst h1 (dp_sts l1), .lst h2 (dp_sts l2), shaped_sts A, shaped_sts B, by rw [PyData.eqv, eqv_sts]; exact k⟩
theorem n_neS {K : PySem.W.Frag} {H : Hp} {c d : Addr} {A B : List (List Int)} {x y : List V} {Q : VK} (h1 : SqL K H c x) (h2 : SqL K H d y) (l1 : Sts H x A) (l2 : Sts H y B) (k : Q (.bl (!decide (A = B))) H) : rNeD K (.ref c) (.ref d) H Q :=
  ⟨_, _, .lst h1 (dp_sts l1), .lst h2 (dp_sts l2), shaped_sts A, shaped_sts B, by rw [PyData.eqv, eqv_sts]; exact k⟩
/-- l.extend(b) -/
theorem n_extS {G H : Hp} {L : List (Addr × HO)} {l b : Addr} {xs zs : List V} {Q : VK} (S : Own G ((b, .lst zs) :: (l, .lst xs) :: L) H) (hz : xs.length + zs.length ≤ 1000000) (k : ∀ H1, Own G ((b, .lst zs) :: (l, .lst (xs ++ zs)) :: L) H1 → Q .non H1) : rExtend (.ref l) [.ref b] H Q :=
  ⟨l, b, xs, zs, rfl, rfl, S.get1, S.get0, small (by omega), k _ S.put1⟩
theorem s_glst {K : PySem.W.Frag} {m : Nat} {t : TGs} {a : Addr} {xs : List V} {σ : L2.St} {H : Hp} {Q : L2.St → Hp → Prop} (h : SqL K H a xs) (e : xs.length = m) (k : t xs σ H Q) : gLst K m t (.ref a) σ H Q := ⟨a, xs, rfl, h, e, k⟩
end NX

namespace NX
open PySem PySem.Spec PyProof.Rows L2
open Evl (Ex ex_l ex_t fresh_back)
abbrev s__law_plays_right : Stmt := top 35
theorem sc__law_plays_right : FnScope ["_law_well_here", "_law_near_here", "_law_middle", "_law_state", "_law_turn", "_law_station"] ["_law_well_here", "_law_near_here", "_law_middle"] (defScope s__law_plays_right) := ⟨rfl, rfl, rfl, by decide +kernel, rfl, by decide +kernel, by decide +kernel⟩
abbrev s__law_complete_right : Stmt := top 37
theorem sc__law_complete_right : FnScope ["_law_pairs", "_law_two", "_law_one"] [] (defScope s__law_complete_right) := ⟨rfl, rfl, rfl, by decide +kernel, rfl, by decide +kernel, by decide +kernel⟩
theorem Rch.congr {nbr nbr' : Nbr} {n : Nat} (h : ∀ i : Nat, i < n → ∀ o, o ∈ nbr (i : Int) ↔ o ∈ nbr' (i : Int)) {s : List Int} (r : Rch nbr n s) : Rch nbr' n s := by
  induction r with
  | zero => exact .zero
  | step _ hi ih => rw [sw_congr (h _ hi)]; exact ih.step hi
def spPlays : Sp := fun vs H Q _ => ∃ (W np : Addr) (a b c : Int) (n : Nat) (ls : List Pr) (z : Nat), vs = [.ref W, .ref np, .int (z : Int)] ∧ H W = some (wl a b c) ∧ NearAt (cut H [(W, wl a b c)]) np n ls ∧ Okl n ls ∧ ls.length ≤ 10000 ∧ (1 ≤ n ∧ n ≤ 1000) ∧ z < n ∧ (∀ s, Rch (nb ls) n s → tv s (z : Int) ≤ 5) ∧
  ∀ H', Ex (cut H [(W, wl a b c)]) H' → Q (.bl true) H'
theorem n_plays {G H : Hp} {L : List (Addr × HO)} {W np : Addr} {a b c : Int} {n z : Nat} {ls : List Pr} {Q : VK} {E : XK} (S : Own G ((W, wl a b c) :: L) H) (N : NearAt G np n ls) (ok : Okl n ls) (hl : ls.length ≤ 10000) (hn : 1 ≤ n ∧ n ≤ 1000) (hz : z < n) (h5 : ∀ s, Rch (nb ls) n s → tv s (z : Int) ≤ 5)
    (k : ∀ H1, Own G [] H1 → Q (.bl true) H1) : spPlays [.ref W, .ref np, .int (z : Int)] H Q E :=
  ⟨W, np, a, b, c, n, ls, z, rfl, S.get0, N.mono S.keep, ok, hl, hn, hz, h5, fun H' e => k H' ((Own.start G).grow (S.keep.trans e))⟩
section
variable {P : Program} {w : World} {K : PySem.W.Frag} {mg : Str → Option Value} {base : Heap} {C CS CC CT : Addr}
theorem ok_plays {f : Addr} {fd : FuncData} (F : Fun K "_law_plays_right" "_law_plays_right" s__law_plays_right f fd) (T : Txt mg) (c__law_take : Cal P w K mg base 1 "_law_take" ["_law_well_here", "_law_bound"] [] spTake) (c__law_switched : Cal P w K mg base 2 "_law_switched" ["_law_near_here", "_law_state", "_law_station"] [] spLsw) : FnOk P w K mg base CX0 4 f fd ["_law_well_here", "_law_near_here", "_law_middle"] spPlays := by
  refine F.ok sc__law_plays_right (fun vs H Q E h => ?_) (fun cdv A outer s H vs Q E hr h => ?_)
  · obtain ⟨W, np, a, b, c, n, ls, z, rfl, _⟩ := h
    rfl
  · obtain ⟨W, np, a, b, c, n, ls, z, rfl, hW, N, ok, hkz, hs, hz, h5, k⟩ := h
    have S := Own.give (o := wl a b c) hW
    generalize cut H [(W, wl a b c)] = G at S k N
    refine ⟨_, (pss_cons (ps_set (i := 3) sc__law_plays_right.nd rfl (Or.inl rfl) (pe_op op_rep1 (pe_tup (pa_cons pe_int pa_nil)) (pe_callB call_lenN (by rfl) T.n_len (by decide +kernel) (pa_cons (pv 1) pa_nil))))
      (pss_cons (ps_for PassesOwn.never rfl (pi_range1 (by rfl) T.n_range (pa_cons pe_int pa_nil)) (pg_name (i := 4) sc__law_plays_right.nd rfl (Or.inl rfl)) (pss_cons (ps_set (i := 5) sc__law_plays_right.nd rfl (Or.inl rfl) (pe_cal c__law_take (hr.mono (by first | decide | omega)) passN (pa_cons (pv 0) (pa_cons (pe_callB call_lenN (by rfl) T.n_len (by decide +kernel) (pa_cons (pv 1) pa_nil)) pa_nil))))
      (pss_cons (ps_set (i := 3) sc__law_plays_right.nd rfl (Or.inl rfl) (pe_cal c__law_switched (hr.mono (by first | decide | omega)) passN (pa_cons (pv 1) (pa_cons (pv 3) (pa_cons (pv 5) pa_nil)))))
      (pss_one (ps_if (pt_cmpR op_gt (pe_ix ix_tup (pv 3) (pv 2) (fun _ _ => rfl)) pe_int (nomark _)) (pss_one (ps_ret pe_bl)) pss_nil)))))
      (pss_one (ps_ret pe_bl)))), ?_⟩
    walk_at "go"
    refine n_tup S (by show 1 ≤ 10000000; decide) fun t0 G0 H0 _ e0 _ ht0 S0 => ?_
    obtain ⟨nps, hnp, hnl, _⟩ := id N
    walk_at "go"
    refine n_len (SqL.of (S0.ex _ _ (e0 _ _ hnp))) ?_
    walk_at "go"
    rw [List.length_map, hnl]
    refine n_rep1 (n := n) S0 ht0 hs.1 hs.2 fun t G1 H1 e1 _ ht1 S1 => ?_
    have eG1 : Ex G G1 := e0.trans e1
    have ht1 : StA G1 t (List.replicate n 0) := ht1
    walk_at "go"
    refine w_rng1 (j := 400) (fun j σ' H' => ∃ (t : Addr) (st : List Int) (G' : Hp) (a' b' c' : Int) (x4 x5 : Option V), σ' = [some (.ref W), some (.ref np), some (.int (z : Int)), some (.ref t), x4, x5] ∧ Ex G G' ∧ StA G' t st ∧ Rch (nb ls) n st ∧ Own G' [(W, wl a' b' c')] H') (by omega)
      ⟨t, _, G1, a, b, c, _, _, rfl, eG1, ht1, .zero, S1⟩ ?_ ?_
    · rintro j σ' H' hj ⟨t, st, G', a', b', c', x4, x5, rfl, e', ht, hr', S⟩
      walk_at "go"
      refine n_len (SqL.of (S.ex _ _ (e' _ _ hnp))) ?_
      walk_at "go"
      rw [List.length_map, hnl]
      refine n_take S ⟨by omega, by omega⟩ fun r a2 b2 c2 H2 hr0 hrn S2 => ?_
      obtain ⟨i, rfl⟩ : ∃ i : Nat, r = (i : Int) := ⟨r.toNat, by omega⟩
      walk_at "go"
      refine n_lsw ((N.mono e').mono S2.ex) ok hkz hs.2 (S2.ex _ _ ht) hr'.len (by omega) fun q H5 e5 hq5 => ?_
      obtain ⟨S5, ez5, ey5⟩ := S2.absorb e5
      have hq5 := ey5 _ _ (nw_tup' e5 hq5)
      have hr2 := hr'.step (i := i) (by omega)
      walk_at "go"
      refine g_ixT (SqT.of (S5.ex _ _ hq5)) (at_tv (by omega) (by rw [hr2.len]; omega)) ?_
      walk_at "go"
      refine if_ff (dfalse (by have := h5 _ hr2; omega)) ?_
      walk_at "go"
      exact ⟨q, _, _, _, _, _, _, _, rfl, e'.trans ez5, hq5, hr2, S5⟩
    · rintro σ' H' ⟨t, st, G', a', b', c', x4, x5, rfl, e', ht, hr', S⟩
      walk_at "go"
      exact k H' (e'.trans S.ex)
def spDone : Sp := fun vs H Q _ => vs = [] ∧ ∀ H', Ex H H' → Q (.bl true) H'
theorem ok_complete {f : Addr} {fd : FuncData} (F : Fun K "_law_complete_right" "_law_complete_right" s__law_complete_right f fd) (T : Txt mg) (c_Network : Cnw P w K mg base 3 "Network" C ["self", "stations", "links"] (spInit C))
    (k_greatest_reached_1_most : CalK P w K mg base 6 "greatest_reached" ["network", "most"] 1 ["most"] (fun vs zs => vs ++ zs) (spGR C CT)) : FnOk P w K mg base CX0 7 f fd [] spDone := by
  refine F.ok sc__law_complete_right (fun vs H Q E h => ?_) (fun cdv A outer s H vs Q E hr h => ?_)
  · obtain ⟨rfl, _⟩ := h
    rfl
  · obtain ⟨rfl, k⟩ := h
    have hu65 : ∀ X : Cx, X.A.units = (A.deeper (envOfC "_law_complete_right" (defScope s__law_complete_right) s.heap.objs.size f cdv)).units → X.A.units + 65 < cLine := fun X e => by rw [e]; have := hr.un; omega
    refine ⟨_, (pss_cons (ps_set (i := 0) sc__law_complete_right.nd rfl (Or.inl rfl) (pe_lst pa_nil))
      (pss_cons (ps_for PassesOwn.never rfl (pi_range1 (by rfl) T.n_range (pa_cons pe_int pa_nil)) (pg_name (i := 1) sc__law_complete_right.nd rfl (Or.inr rfl)) (pss_one (ps_expr (pe_bm PySem.F.plainAttrs_list PySem.F.slot_list_extend PySem.F.type_list_extend mt_extend (pv 0) (pa_cons (pe_lc (own := [("_law_one", 2)]) (by rfl) sc__law_complete_right.nd (pi_range1 (by rfl) T.n_range (pa_cons (pv 1) pa_nil)) (blkOk_by (own := [("_law_one", 2)]) (N := ["_law_pairs", "_law_two", "_law_one"]) (sc := defScope s__law_complete_right) (by decide +kernel)) (fun _ _ _ _ _ => (pg_name (i := 2) sc__law_complete_right.nd rfl (Or.inl rfl))) (fun _ _ _ _ _ => pts_nil) (fun _ _ _ _ _ => (pe_tup (pa_cons (pv 2) (pa_cons (pv 1) pa_nil))))) pa_nil)))))
      (pss_one (ps_ret (pe_cmpR (op_eqD (Nat.lt_of_succ_lt (hu65 _ rfl))) (pe_calK k_greatest_reached_1_most (hr.mono (by first | decide | omega)) passN (pa_cons (pe_new c_Network (hr.mono (by first | decide | omega)) passN (pa_cons pe_int (pa_cons (pv 0) pa_nil))) pa_nil) (pk_cons (pe_op op_pow pe_int pe_int) pk_nil)) (pe_op op_repT (pe_tup (pa_cons pe_int pa_nil)) pe_int) (nomark _)))))), ?_⟩
    walk_at "go"
    refine n_lst (Own.start H) (by decide) fun p1 H1 hp1 S1 => ?_
    walk_at "go"
    refine w_rng1 (j := 6) (fun j σ' H' => ∃ (xs : List V) (G' : Hp) (x1 x2 : Option V), σ' = [some (.ref p1), x1, x2] ∧ Ex H G' ∧ Lks G' xs (K6R j) ∧ Own G' [(p1, .lst xs)] H') (by omega) ⟨[], H, _, _, rfl, Ex.refl H, .nil, S1⟩ ?_ ?_
    · rintro j σ' H' hj ⟨xs, G', x1, x2, rfl, e', hx, S⟩
      walk_at "go"
      refine ⟨tyL (SqL.of S.get0), ?_⟩
      walk_at "go"
      refine v_rng1 (j := (j : Int)) (fun i acc G2 L2 => L2 = [(p1, .lst xs)] ∧ Lks G2 acc ((List.range i).map fun (a : Nat) => ((a : Int), (j : Int)))) S (by omega) ⟨rfl, .nil⟩ ?_ ?_
      · rintro D i acc G2 L2 H2 hi hi' e2 hl2 ⟨rfl, ha⟩ S2
        walk_at "go"
        refine ⟨rfl, ?_⟩
        walk_at "go"
        refine n_tup S2 (by show 2 ≤ 10000000; decide) fun t G3 H3 _ e3 _ ht S3 => ?_
        refine c_yes S3 (e2.trans e3) hl2 hi' ⟨rfl, ?_⟩
        rw [List.range_succ, List.map_append]
        exact pr_snoc (ha.mono e3) ⟨t, rfl, ht⟩
      · rintro p5 acc5 G5 L5 H5 e5 _ ⟨rfl, ha⟩ S5
        rw [Int.toNat_natCast] at ha
        have hxl := pr_len hx
        have hal := pr_len ha
        rw [List.length_map, List.length_range] at hal
        walk_at "go"
        refine n_extS S5 (by
          have : (K6R j).length ≤ 1000 := by
            have : j = 0 ∨ j = 1 ∨ j = 2 ∨ j = 3 ∨ j = 4 ∨ j = 5 := by omega
            rcases this with rfl | rfl | rfl | rfl | rfl | rfl <;> decide
          omega) fun H6 S6 => ?_
        walk_at "go"
        refine ⟨xs ++ acc5, G5, _, _, rfl, e'.trans e5, ?_, S6.forget⟩
        unfold K6R
        rw [List.range_succ, List.flatMap_append]
        exact pr_app (hx.mono e5) (by simpa using ha)
    · rintro σ' H' ⟨xs, G', x1, x2, rfl, e', hx, S⟩
      have hx : Lks G' xs (K6R 6) := hx
      obtain ⟨B, hB, hl⟩ := k6_bfs
      walk_at "go"
      refine n_net (n := 6) S S.get0 (hx.mono S.ex) k6_ok k6_nd ⟨by decide, by decide⟩ (by decide) fun y8 G8 H8 _ e8 _ S8 N8 => ?_
      walk_at "go"
      refine g_I ⟨by decide, by decide, by decide⟩ ?_
      walk_at "go"
      refine ⟨rfl, rfl, y8, 6, _, _, B, rfl, N8.mono S8.ex, hB, by omega, fun _ g hg => n_retG S8 fun p9 G9 H9 _ e9 _ hp9 S9 => ?_, fun z => absurd z (by show ¬ ((10 : Int) ^ 5 < _); omega)⟩
      cases hg.uniq (k6_max hB)
      walk_at "go"
      refine n_tup S9 (by show 1 ≤ 10000000; decide) fun t10 G10 H10 _ e10 _ ht10 S10 => ?_
      walk_at "go"
      refine ⟨t10, 6, [.int 6], rfl, rfl, SqT.of (S10.ex _ _ ht10), by simp, by decide, by decide, by decide, fun p hp => ?_⟩
      obtain ⟨S11, e11, hp11⟩ := S10.still (o := .tup (List.replicate (6 : Int).toNat [V.int 6]).flatten) hp
      refine n_eqIT (ns := [6, 6, 6, 6, 6, 6]) (ms := [6, 6, 6, 6, 6, 6]) (SqT.of (S11.ex _ _ (e11 _ _ (e10 _ _ hp9)))) (SqT.of (S11.ex _ _ hp11)) ?_
      exact k _ (e'.trans ((e8.trans (e9.trans (e10.trans e11))).trans S11.ex))
end
end NX

namespace NX
/-! ### boxes: their size does not hang on the order; eight stations -/
theorem prodL_perm {l m : List Nat} (h : l.Perm m) : prodL l = prodL m := by
  induction h with
  | nil => rfl
  | cons x _ ih => show (x + 1) * _ = (x + 1) * _; rw [ih]
  | swap x y l =>
    show (y + 1) * ((x + 1) * prodL l) = (x + 1) * ((y + 1) * prodL l)
    rw [← Nat.mul_assoc, ← Nat.mul_assoc, Nat.mul_comm (y + 1)]
  | trans _ _ ih1 ih2 => exact ih1.trans ih2
theorem box45 : prodL ((rgI 0 ((8 : Nat) : Int)).map fun v => (nb (P45 0) v).length + 1) ≤ 100000 := by decide +kernel
theorem bfs45 {ns : List Int} (hp : ns.Perm (rgI 0 ((8 : Nat) : Int))) {P' : List Pr} (hP : P'.Perm (P45 0)) : ∃ B, Bfs (nb (sortP (renL ns P'))) 8 B ∧ B.length ≤ 100000 := by
  obtain ⟨bs, B⟩ := back_ex hp
  have ok : Okl 8 P' := fun q hq => p45_ok 0 (by decide) q (hP.mem_iff.mp hq)
  have hl : (bs.map fun v => (nb (P45 0) v).length + 1).length = 8 := by rw [List.length_map, B.b.1]
  have bp : bs.Perm (rgI 0 ((8 : Nat) : Int)) := by
    refine (List.perm_ext_iff_of_nodup B.b.2.1 ?_).mpr fun x => ?_
    · unfold rgI; decide +kernel
    · constructor
      · intro hx
        have := B.b.2.2 x hx
        unfold rgI
        exact List.mem_map.mpr ⟨x.toNat, List.mem_range.mpr (by omega), by omega⟩
      · intro hx
        have := mem_rgI hx
        have e := B.ab x ⟨by omega, by omega⟩
        have r := B.a.rng (j := x) (by omega) (by omega)
        rw [← e]
        exact tv_mem r.1 (by rw [B.b.1]; exact r.2)
  have key : ∀ L : List (List Int), L.Nodup → (∀ s ∈ L, Rch (nb (sortP (renL ns P'))) 8 s) → L.length ≤ 100000 := fun L nd hL => by
    refine Nat.le_trans (rch_count hl (fun j hj => ?_) L nd hL) ?_
    · have r := B.b.rng (j := (j : Int)) (by omega) (by omega)
      have e := B.ba (j : Int) ⟨by omega, by omega⟩
      rw [(nb_perm (sortP_perm (renL ns P')) (j : Int)).length_eq]
      have q : nb (renL ns P') (j : Int) = (nb P' (tv bs (j : Int))).map (tv ns) := by
        have := nb_ren (v := tv bs (j : Int)) B.a r ok
        rw [e] at this
        exact this
      rw [q, List.length_map, (nb_perm hP _).length_eq, List.getD_eq_getElem?_getD, List.getElem?_map]
      have gb : bs[j]? = some (tv bs (j : Int)) := get_tv (by rw [B.b.1]; exact hj)
      rw [gb]
      exact Nat.le_refl _
    · rw [prodL_perm (bp.map _)]
      exact box45
  exact bfs_ex key
end NX

namespace NX
open PySem PySem.Spec PyProof.Rows L2
open Evl (Ex ex_l ex_t fresh_back)
abbrev s__law_ends : Stmt := top 34
theorem sc__law_ends : FnScope ["_law_near_here", "_law_steps", "_law_state", "_law_station"] ["_law_near_here", "_law_steps"] (defScope s__law_ends) := ⟨rfl, rfl, rfl, by decide +kernel, rfl, by decide +kernel, by decide +kernel⟩
def spEnds (K : PySem.W.Frag) : Sp := fun vs H Q _ => ∃ (a p : Addr) (n : Nat) (ks : List Pr) (is : List Int), vs = [.ref a, .ref p] ∧ NearAt H a n ks ∧ Okl n ks ∧ ks.length ≤ 10000 ∧ (1 ≤ n ∧ n ≤ 1000) ∧ SqL K H p (is.map V.int) ∧ (∀ i ∈ is, 0 ≤ i ∧ i < (n : Int)) ∧ ∀ r H', Ex H H' → StA H' r (runS (nb ks) (List.replicate n 0) is) → Q (.ref r) H'
theorem n_ends {K : PySem.W.Frag} {G H : Hp} {L : List (Addr × HO)} {a p : Addr} {n : Nat} {ks : List Pr} {is : List Int} {Q : VK} {E : XK} (S : Own G L H) (N : NearAt G a n ks) (ok : Okl n ks) (hz : ks.length ≤ 10000) (hn : 1 ≤ n ∧ n ≤ 1000) (hp : SqL K H p (is.map V.int)) (hi : ∀ i ∈ is, 0 ≤ i ∧ i < (n : Int))
    (k : ∀ r G1 H1, Ex G G1 → Ex H H1 → StA G1 r (runS (nb ks) (List.replicate n 0) is) → Own G1 L H1 → Q (.ref r) H1) : spEnds K [.ref a, .ref p] H Q E :=
  ⟨a, p, n, ks, is, rfl, N.mono S.ex, ok, hz, hn, hp, hi, fun r H' e hr => by
    obtain ⟨S1, e1, e2⟩ := S.absorb e
    exact k r _ H' e1 e (e2 _ _ (nw_tup' e hr)) S1⟩
theorem run_len {nbr : Nbr} {n : Nat} : ∀ {is : List Int} {s : List Int}, s.length = n → (∀ i ∈ is, 0 ≤ i ∧ i < (n : Int)) → (runS nbr s is).length = n
  | [], _, h, _ => h
  | i :: is, s, h, hi => by
    have := hi i List.mem_cons_self
    rw [run_cons]
    exact run_len (by rw [sw_len (by omega), h]) fun j hj => hi j (List.mem_cons_of_mem _ hj)
section
variable {P : Program} {w : World} {K : PySem.W.Frag} {mg : Str → Option Value} {base : Heap}
theorem ok_ends {f : Addr} {fd : FuncData} (F : Fun K "_law_ends" "_law_ends" s__law_ends f fd) (T : Txt mg) (c__law_switched : Cal P w K mg base 2 "_law_switched" ["_law_near_here", "_law_state", "_law_station"] [] spLsw) : FnOk P w K mg base CX0 4 f fd ["_law_near_here", "_law_steps"] (spEnds K) := by
  refine F.ok sc__law_ends (fun vs H Q E h => ?_) (fun cdv A outer s H vs Q E hr h => ?_)
  · obtain ⟨a, p, n, ks, is, rfl, _⟩ := h
    rfl
  · obtain ⟨a, p, n, ks, is, rfl, N, ok, hkz, hs, hp, hi, k⟩ := h
    refine ⟨_, (pss_cons (ps_set (i := 2) sc__law_ends.nd rfl (Or.inl rfl) (pe_op op_rep1 (pe_tup (pa_cons pe_int pa_nil)) (pe_callB call_lenN (by rfl) T.n_len (by decide +kernel) (pa_cons (pv 0) pa_nil))))
      (pss_cons (ps_for PassesOwn.never rfl (pi_list (pv 1)) (pg_name (i := 3) sc__law_ends.nd rfl (Or.inl rfl)) (pss_one (ps_set (i := 2) sc__law_ends.nd rfl (Or.inl rfl) (pe_cal c__law_switched (hr.mono (by first | decide | omega)) passN (pa_cons (pv 0) (pa_cons (pv 2) (pa_cons (pv 3) pa_nil)))))))
      (pss_one (ps_ret (pv 2))))), ?_⟩
    walk_at "go"
    refine n_tup (Own.start H) (by show 1 ≤ 10000000; decide) fun t0 G0 H0 _ e0 _ ht0 S0 => ?_
    obtain ⟨nps, hnp, hnl, _⟩ := N.mono (e0.trans S0.ex)
    walk_at "go"
    refine n_len (SqL.of hnp) ?_
    walk_at "go"
    rw [List.length_map, hnl]
    refine n_rep1 (n := n) S0 ht0 hs.1 hs.2 fun t G1 H1 e1 _ ht1 S1 => ?_
    have eG1 : Ex H G1 := e0.trans e1
    have ht1 : StA G1 t (List.replicate n 0) := ht1
    walk_at "go"
    refine w_list (xs := is.map V.int) (fun j σ' H' => ∃ (t : Addr) (G' : Hp) (x3 : Option V), σ' = [some (.ref a), some (.ref p), some (.ref t), x3] ∧ Ex H G' ∧ StA G' t (runS (nb ks) (List.replicate n 0) (is.take j)) ∧ Own G' [] H') (ex_l (eG1.trans S1.ex) hp)
      ⟨t, G1, _, rfl, eG1, ht1, S1⟩ (fun j σ' H' h => by
        obtain ⟨_, G', _, _, e, _, S⟩ := h
        exact ex_l (e.trans S.ex) hp) ?_ ?_
    · rintro j x σ' H' hx ⟨t, G', x3, rfl, e', ht, S⟩
      obtain ⟨y, hy, rfl⟩ := get_map hx
      have hyr := hi y (List.mem_of_getElem? hy)
      obtain ⟨m, rfl⟩ : ∃ m : Nat, y = (m : Int) := ⟨y.toNat, by omega⟩
      walk_at "go"
      refine n_lsw (N.mono (e'.trans S.ex)) ok hkz hs.2 (S.ex _ _ ht) (run_len List.length_replicate fun i hm => hi i (List.mem_of_mem_take hm)) (by omega) fun r H5 e5 hr5 => ?_
      obtain ⟨S5, ez5, ey5⟩ := S.absorb e5
      have hr5 := ey5 _ _ (nw_tup' e5 hr5)
      walk_at "go"
      refine ⟨r, _, _, rfl, e'.trans ez5, ?_, S5⟩
      rw [take_snoc hy, run_snoc, Int.toNat_natCast]
      exact hr5
    · rintro σ' H' ⟨t, G', x3, rfl, e', ht, S⟩
      rw [List.length_map, List.take_length] at ht
      walk_at "go"
      exact k t H' (e'.trans S.ex) (S.ex _ _ ht)
end
end NX

namespace NX
open PySem PySem.Spec PyProof.Rows L2
open Evl (Ex ex_l ex_t fresh_back)
abbrev s_Network_neighbours : Stmt := inClass (top 10) 4
theorem sc_Network_neighbours : FnScope ["self", "station"] ["self", "station"] (defScope s_Network_neighbours) := ⟨rfl, rfl, rfl, by decide +kernel, rfl, by decide +kernel, by decide +kernel⟩
def spNbrs (C : Addr) : Sp := fun vs H Q _ => ∃ (a : Addr) (n : Nat) (ks : List Pr) (i : Int), vs = [.ref a, .int i] ∧ NetAt C H a n ks ∧ (0 ≤ i ∧ i < (n : Int)) ∧ Ret (.lst ((nb ks i).map V.int)) H Q
theorem asc_uniq : ∀ {l m : List Int}, l.Perm m → l.Pairwise (· ≤ ·) → m.Pairwise (· < ·) → l = m
  | [], m, p, _, _ => (List.nil_perm.mp p).symm
  | x :: l, m, p, hl, hm => by
    cases m with
    | nil => exact absurd (List.perm_nil.mp p) (by simp)
    | cons y m =>
      obtain ⟨h1, h2⟩ := List.pairwise_cons.mp hl
      obtain ⟨h3, h4⟩ := List.pairwise_cons.mp hm
      have hx : x ∈ y :: m := p.mem_iff.mp List.mem_cons_self
      have hy : y ∈ x :: l := p.mem_iff.mpr List.mem_cons_self
      have e : x = y := by
        rcases List.mem_cons.mp hx with e | hx
        · exact e
        · rcases List.mem_cons.mp hy with e | hy
          · exact e.symm
          · have := h3 x hx
            have := h1 y hy
            omega
      subst e
      rw [asc_uniq ((List.perm_cons x).mp p) h2 h4]
section
variable {C : Addr} {G H : Hp} {L : List (Addr × HO)} {a : Addr} {n : Nat} {ks : List Pr} {Q : VK} {E : XK}
theorem n_nbrs {i : Int} (S : Own G L H) (N : NetAt C G a n ks) (h : 0 ≤ i ∧ i < (n : Int)) (k : ∀ p G1 H1, H p = none → Ex G G1 → Ex H H1 → G1 p = some (.lst ((nb ks i).map V.int)) → Own G1 L H1 → Q (.ref p) H1) : spNbrs C [.ref a, .int i] H Q E :=
  ⟨a, n, ks, i, rfl, N.mono S.ex, h, n_retG S k⟩
end
section
variable {P : Program} {w : World} {K : PySem.W.Frag} {mg : Str → Option Value} {base : Heap} {C : Addr}
theorem ok_nbrs {f : Addr} {fd : FuncData} (F : Fun K "neighbours" "Network.neighbours" s_Network_neighbours f fd) (T : Txt mg) (NC : NetC K C) (M_check_station : Mth P w K mg base 2 C "check_station" ["self", "station"] (spChk C)) : FnOk P w K mg base CX0 3 f fd ["self", "station"] (spNbrs C) := by
  refine F.ok sc_Network_neighbours (fun vs H Q E h => ?_) (fun cdv A outer s H vs Q E hr h => ?_)
  · obtain ⟨a, n, ks, i, rfl, _⟩ := h
    rfl
  · obtain ⟨a, n, ks, i, rfl, N, hi, k⟩ := h
    refine ⟨_, (pss_cons (ps_expr (pe_mth (pv 0) M_check_station NC.cl (hr.mono (by first | decide | omega)) passN (pa_cons (pv 1) pa_nil)))
      (pss_one (ps_ret (pe_callB cr_sortedI (by rfl) T.n_sorted (by decide +kernel) (pa_cons (pe_ix ix_list (pe_fld (pv 0) rfl) (pv 1) (fun _ _ => rfl)) pa_nil))))), ?_⟩
    walk_at "go"
    refine ⟨N.ins (by decide) (by decide), ?_⟩
    walk_at "go"
    refine n_chk (Own.start H) N hi fun H1 e1 S1 => ?_
    obtain ⟨dx, kp, np, xs, nps, o⟩ := N.at_
    have o1 := o.mono e1
    obtain ⟨j, rfl⟩ : ∃ j : Nat, i = (j : Int) := ⟨i.toNat, by omega⟩
    obtain ⟨p, hp⟩ : ∃ p, nps[j]? = some p := ⟨_, List.getElem?_eq_getElem (by have := o.len; omega)⟩
    walk_at "go"
    refine n_fld o1.ins NC.cl NC.nN (nf_near kp np) ?_
    walk_at "go"
    refine g_ixL (SqL.of o1.near) (atI_nat (j := j) (v := .ref p) (by rw [List.getElem?_map, hp] <;> rfl)) ?_
    refine n_sortI (Own.start H1) (SqL.of (o1.each j p hp)) fun ms q G2 H2 hpm hup hq e2 e2' hq2 S2 => ?_
    have e : ms = nb ks (j : Int) := asc_uniq hpm hup (nb_up N.ok N.up N.nd (j : Int))
    rw [e] at hq2
    exact k q H2 (fresh_back e1 hq) (e1.trans e2') (S2.ex _ _ hq2)
end
end NX

namespace NX
open PySem PySem.Spec PyProof.Rows L2
open Evl (Ex ex_l ex_t fresh_back)
/-- a value of an odd kind -/
inductive OddV (G : Hp) : V → String → Prop where
  | non : OddV G .non "NoneType"
  | bl (b : Bool) : OddV G (.bl b) "bool"
  | str (s : Str) : OddV G (.str s) "str"
  | int (i : Int) : OddV G (.int i) "int"
  | lst {a : Addr} {xs : List V} (h : G a = some (.lst xs)) : OddV G (.ref a) "list"
  | tup {a : Addr} {xs : List V} (h : G a = some (.tup xs)) : OddV G (.ref a) "tuple"
  | dct {a : Addr} {kvs : List (List L2.Key × V)} (h : G a = some (.dT kvs)) : OddV G (.ref a) "dict"
theorem OddV.mono {G H : Hp} {v : V} {t : String} (h : OddV G v t) (e : Ex G H) : OddV H v t := by
  cases h with
  | non => exact .non
  | bl b => exact .bl b
  | str s => exact .str s
  | int i => exact .int i
  | lst h => exact .lst (e _ _ h)
  | tup h => exact .tup (e _ _ h)
  | dct h => exact .dct (e _ _ h)
theorem OddV.isT {K : PySem.W.Frag} {G : Hp} {v : V} {t : String} (h : OddV G v t) : IsT K G v t := by
  cases h with
  | non => exact ⟨.base .non, by decide +kernel⟩
  | bl b => exact ⟨.base (.bl b), by decide +kernel⟩
  | str s => exact ⟨.base (.str s), by decide +kernel⟩
  | int i => exact ⟨.base (.int i), by decide +kernel⟩
  | lst h => exact ⟨.base (.lst h), by decide +kernel⟩
  | tup h => exact ⟨.base (.tup h), by decide +kernel⟩
  | dct h => exact ⟨.base (.dT h), by decide +kernel⟩
theorem IsT.mono {K : PySem.W.Frag} {H : Hp} {v : V} {t : String} (h : IsT K H v t) : okTy t = true := h.2
/-- no int from lo to hi -/
def NoIn (lo hi : Int) (v : V) (t : String) : Prop := t = "int" → ∃ i, v = .int i ∧ ¬ (lo ≤ i ∧ i ≤ hi)
end NX

namespace NX
open PySem PySem.Spec PyProof.Rows L2
open Evl (Ex ex_l ex_t fresh_back)
abbrev s_NoStation___init__ : Stmt := inClass (top 3) 0
theorem sc_NoStation___init__ : FnScope ["self", "station"] ["self", "station"] (defScope s_NoStation___init__) := ⟨rfl, rfl, rfl, by decide +kernel, rfl, by decide +kernel, by decide +kernel⟩
theorem ok_ini_NoStation {P : Program} {w : World} {K : PySem.W.Frag} {mg : Str → Option Value} {base : Heap} {CL C0 : Addr} {f : Addr} {fd : FuncData} (F : Fun K "__init__" "NoStation.__init__" s_NoStation___init__ f fd) (m_ChannelError : mg "ChannelError" = some (.ref C0)) (BC : BaseC K C0) (hno : PySem.W.findIn K (.ref CL) "station" = some none) : FnOk P w K mg base CX0 1 f fd ["self", "station"] (spExInit K CL "station") := by
  refine F.ok sc_NoStation___init__ (fun vs H Q E h => ?_) (fun cdv A outer s H vs Q E hr h => ?_)
  · obtain ⟨a, v, rfl, _⟩ := h
    rfl
  · obtain ⟨a, v, rfl, ha, T, k⟩ := h
    refine ⟨_, (pss_cons (ps_expr (pe_oeinit (K := K) m_ChannelError BC (pa_cons (pv 0) (pa_cons pe_str pa_nil))))
      (pss_one (ps_ost (pv 0) (pv 1) rfl))), ?_⟩
    walk_at "go"
    refine n_vei ?_
    walk_at "go"
    refine ⟨a, CL, _, rfl, by simp, T, ha, ?_⟩
    refine s_ost ?_
    walk_at "go"
    exact ⟨a, CL, rfl, T, hno, .inl ⟨ha, fun dx h1 h2 => k dx h1 h2⟩⟩
/-- no station of n -/
def OddSt (H : Hp) (n : Nat) (v : V) : Prop := ∃ t, OddV H v t ∧ NoIn 0 ((n : Int) - 1) v t
/-- no channel -/
def OddCh (H : Hp) (v : V) : Prop := ∃ t, OddV H v t ∧ (t = "int" → ∃ i, v = .int i ∧ i < 1)
def OkSt (n : Nat) (v : V) : Prop := ∃ i : Int, v = .int i ∧ 0 ≤ i ∧ i < (n : Int)
def spChkX (C CS : Addr) : Sp := fun vs H Q E => ∃ (a : Addr) (n : Nat) (ks : List Pr) (v : V), vs = [.ref a, v] ∧ NetAt C H a n ks ∧ ((OkSt n v ∧ ∀ H', Ex H H' → Q .non H') ∨ (OddSt H n v ∧ Thr E CS "station" v H))
section
variable {P : Program} {w : World} {K : PySem.W.Frag} {mg : Str → Option Value} {base : Heap} {C CS : Addr}
theorem ok_chkX {f : Addr} {fd : FuncData} (F : Fun K "check_station" "Network.check_station" s_Network_check_station f fd) (T : Txt mg) (NC : NetC K C) (c_is_int : Cal P w K mg base 1 "is_int" ["value"] [] (spIsInt K)) (X_NoStation : Exn P w K mg base "NoStation" CS "station") : FnOk P w K mg base (L2.CX P w) 3 f fd ["self", "station"] (spChkX C CS) := by
  refine F.okX sc_Network_check_station (fun vs H Q E h => ?_) (fun cdv A outer s H vs Q E hr h => ?_)
  · obtain ⟨a, n, ks, v, rfl, _⟩ := h
    rfl
  · obtain ⟨a, n, ks, v, rfl, N, h⟩ := h
    obtain ⟨dx, kp, np, xs, nps, o⟩ := N.at_
    refine ⟨_, (pss_one (ps_if (PW.pt (pw_or (pt_not (pt_val (pe_cal c_is_int (hr.mono (by first | decide | omega)) passN (pa_cons (pv 1) pa_nil)))) (pw_or1 (pt_not (pt_chain op_le op_lt pe_int (pv 1) (pe_callB call_lenN (by rfl) T.n_len (by decide +kernel) (pa_cons (pe_fld (pv 0) rfl) pa_nil))))))) (pss_one (ps_raiseE (K := K) rfl (takes_of rfl rfl rfl rfl) X_NoStation (hr.mono (by first | decide | omega)) (pa_cons (pv 1) pa_nil))) pss_nil)), ?_⟩
    rcases h with ⟨⟨i, rfl, h0, h1⟩, k⟩ | ⟨⟨t, ho, hno⟩, kE⟩
    · walk_at "go"
      refine g_isint ?_
      walk_at "go"
      refine if_tt (dtrue (by omega)) ?_
      walk_at "go"
      refine n_fld o.ins NC.cl NC.nN (nf_near kp np) ?_
      walk_at "go"
      refine n_len (SqL.of o.near) ?_
      rw [List.length_map, o.len]
      walk_at "go"
      refine if_ff (ntrue (by omega)) ?_
      walk_at "go"
      exact k H (Ex.refl H)
    · walk_at "go"
      refine ⟨v, t, rfl, ho.isT, ?_⟩
      walk_at "go"
      have fin : ∀ H1, Ex H H1 → RAISE K CS "station" (fun cls d _ H => E cls d H) (L2.start ["self", "station"] [.ref a, v]) [v] H1 := fun H1 e1 => n_raise X_NoStation.oex fun d H4 _ e4 hd => kE d H4 (e1.trans e4) hd
      by_cases c : t = "int"
      · subst c
        obtain ⟨i, rfl, hi⟩ := hno rfl
        refine if_ff (by decide +kernel) ?_
        walk_at "go"
        refine if_2 (fun e1 => ?_) (fun e1 => ?_)
        · have e1 := of_decide_eq_true e1
          walk_at "go"
          refine n_fld o.ins NC.cl NC.nN (nf_near kp np) ?_
          walk_at "go"
          refine n_len (SqL.of o.near) ?_
          rw [List.length_map, o.len]
          walk_at "go"
          refine if_tt (nfalse (by omega)) ?_
          refine s_raiseE ?_
          walk_at "go"
          exact n_raise X_NoStation.oex fun d H4 _ e4 hd => kE d H4 e4 hd
        · walk_at "go"
          refine s_raiseE ?_
          walk_at "go"
          exact n_raise X_NoStation.oex fun d H4 _ e4 hd => kE d H4 e4 hd
      · have e : (t == "int") = false := by simp [c]
        rw [e]
        walk_at "go"
        refine s_raiseE ?_
        walk_at "go"
        exact n_raise X_NoStation.oex fun d H4 _ e4 hd => kE d H4 e4 hd
end
end NX

namespace NX
open PySem PySem.Spec PyProof.Rows L2
open Evl (Ex ex_l ex_t fresh_back)
abbrev s_NoChannel___init__ : Stmt := inClass (top 4) 0
theorem sc_NoChannel___init__ : FnScope ["self", "channel"] ["self", "channel"] (defScope s_NoChannel___init__) := ⟨rfl, rfl, rfl, by decide +kernel, rfl, by decide +kernel, by decide +kernel⟩
theorem ok_ini_NoChannel {P : Program} {w : World} {K : PySem.W.Frag} {mg : Str → Option Value} {base : Heap} {CL C0 : Addr} {f : Addr} {fd : FuncData} (F : Fun K "__init__" "NoChannel.__init__" s_NoChannel___init__ f fd) (m_ChannelError : mg "ChannelError" = some (.ref C0)) (BC : BaseC K C0) (hno : PySem.W.findIn K (.ref CL) "channel" = some none) : FnOk P w K mg base CX0 1 f fd ["self", "channel"] (spExInit K CL "channel") := by
  refine F.ok sc_NoChannel___init__ (fun vs H Q E h => ?_) (fun cdv A outer s H vs Q E hr h => ?_)
  · obtain ⟨a, v, rfl, _⟩ := h
    rfl
  · obtain ⟨a, v, rfl, ha, T, k⟩ := h
    refine ⟨_, (pss_cons (ps_expr (pe_oeinit (K := K) m_ChannelError BC (pa_cons (pv 0) (pa_cons pe_str pa_nil))))
      (pss_one (ps_ost (pv 0) (pv 1) rfl))), ?_⟩
    walk_at "go"
    refine n_vei ?_
    walk_at "go"
    refine ⟨a, CL, _, rfl, by simp, T, ha, ?_⟩
    refine s_ost ?_
    walk_at "go"
    exact ⟨a, CL, rfl, T, hno, .inl ⟨ha, fun dx h1 h2 => k dx h1 h2⟩⟩
end NX

namespace NX
open PySem PySem.Spec PyProof.Rows L2
open Evl (Ex ex_l ex_t fresh_back)
abbrev s_chain : Stmt := top 12
theorem sc_chain : FnScope ["numbers", "found", "number"] ["numbers"] (defScope s_chain) := ⟨rfl, rfl, rfl, by decide +kernel, rfl, by decide +kernel, by decide +kernel⟩
def spChain (K : PySem.W.Frag) : Sp := fun vs H Q _ => ∃ (p : Addr) (ns : List Int), vs = [.ref p] ∧ SqL K H p (ns.map V.int) ∧ ∀ g H', Ex H H' → IsCh ns g → Q (.int g) H'
theorem n_chain {K : PySem.W.Frag} {G H : Hp} {L : List (Addr × HO)} {p : Addr} {ns : List Int} {Q : VK} {E : XK} (S : Own G L H) (h : SqL K H p (ns.map V.int)) (k : ∀ g H1, Ex H H1 → IsCh ns g → Own G L H1 → Q (.int g) H1) : spChain K [.ref p] H Q E :=
  ⟨p, ns, rfl, h, fun g H' e c => k g H' e c (S.grow e)⟩
section
variable {P : Program} {w : World} {K : PySem.W.Frag} {mg : Str → Option Value} {base : Heap}
theorem ok_chain {f : Addr} {fd : FuncData} (F : Fun K "chain" "chain" s_chain f fd) (T : Txt mg) : FnOk P w K mg base CX0 1 f fd ["numbers"] (spChain K) := by
  refine F.ok sc_chain (fun vs H Q E h => ?_) (fun cdv A outer s H vs Q E hr h => ?_)
  · obtain ⟨p, ns, rfl, _⟩ := h
    rfl
  · obtain ⟨p, ns, rfl, hp, k⟩ := h
    refine ⟨_, (pss_cons (ps_set (i := 1) sc_chain.nd rfl (Or.inl rfl) pe_int)
      (pss_cons (ps_for PassesOwn.never rfl (pi_list (pe_callB cr_sortedI (by rfl) T.n_sorted (by decide +kernel) (pa_cons (pv 0) pa_nil))) (pg_name (i := 2) sc_chain.nd rfl (Or.inl rfl)) (pss_one (ps_if (pt_cmpR op_gt (pv 2) (pv 1) (nomark _)) (pss_one (ps_aug (i := 1) sc_chain.nd rfl (Or.inl rfl) pe_int ip_add)) pss_nil)))
      (pss_one (ps_ret (pv 1))))), ?_⟩
    walk_at "go"
    refine n_sortI (Own.start H) hp fun ms q G1 H1 hpm hs _ e1 _ hq S1 => ?_
    walk_at "go"
    refine w_list (xs := ms.map V.int) (fun i σ' H' => (∃ g x, σ' = [some (.ref p), some (.int g), x] ∧ IsCh (ms.take i) g) ∧ Own G1 [] H') (SqL.of (S1.ex _ _ hq)) ⟨⟨0, _, rfl, IsCh.nil⟩, S1⟩ (fun i σ' H' h => SqL.of (h.2.ex _ _ hq)) ?_ ?_
    · rintro i y σ' H' hy ⟨⟨g, x, rfl, hc⟩, S⟩
      obtain ⟨z, hz, rfl⟩ := get_map hy
      have hc' := IsCh.snoc (x := z) hc fun y hy => by
        obtain ⟨j, hj, e⟩ := List.mem_iff_getElem.mp hy
        have hj' : j < i ∧ j < ms.length := by rw [List.length_take] at hj; omega
        rw [List.getElem_take] at e
        obtain ⟨hi, ez⟩ := List.getElem?_eq_some_iff.mp hz
        have := List.pairwise_iff_getElem.mp hs j i hj'.2 hi hj'.1
        omega
      rw [← take_snoc hz] at hc'
      walk_at "go"
      refine if_2 (fun e => ?_) (fun e => ?_)
      · have e := of_decide_eq_true e
        walk_at "go"
        rw [if_pos e] at hc'
        exact ⟨⟨_, _, rfl, hc'⟩, S⟩
      · have e := of_decide_eq_false e
        walk_at "go"
        rw [if_neg e] at hc'
        exact ⟨⟨_, _, rfl, hc'⟩, S⟩
    · rintro σ' H' ⟨⟨g, x, rfl, hc⟩, S⟩
      rw [List.length_map, List.take_length] at hc
      walk_at "go"
      exact k g _ (e1.trans S.ex) (hc.perm hpm)
end
end NX

namespace NX
open PySem PySem.Spec PyProof.Rows L2
open Evl (Ex ex_l ex_t fresh_back)
abbrev s_greatest_channels : Stmt := top 13
theorem sc_greatest_channels : FnScope ["network", "table", "lowered", "later", "station", "one"] ["network"] (defScope s_greatest_channels) := ⟨rfl, rfl, rfl, by decide +kernel, rfl, by decide +kernel, by decide +kernel⟩
def spGC (C : Addr) : Sp := fun vs H Q _ => ∃ (a : Addr) (n : Nat) (ks : List Pr), vs = [.ref a] ∧ NetAt C H a n ks ∧ ∀ t, TabF n ks t → Ret (.tup (t.map V.int)) H Q
theorem n_gc {C : Addr} {G H : Hp} {L : List (Addr × HO)} {a : Addr} {n : Nat} {ks : List Pr} {Q : VK} {E : XK} (S : Own G L H) (N : NetAt C G a n ks)
    (k : ∀ t p G1 H1, TabF n ks t → H p = none → Ex G G1 → Ex H H1 → G1 p = some (.tup (t.map V.int)) → Own G1 L H1 → Q (.ref p) H1) : spGC C [.ref a] H Q E :=
  ⟨a, n, ks, rfl, N.mono S.ex, fun t ht => n_retG S fun p G1 H1 => k t p G1 H1 ht⟩
section
variable {P : Program} {w : World} {K : PySem.W.Frag} {mg : Str → Option Value} {base : Heap}
theorem ok_gc {f C : Addr} {fd : FuncData} (F : Fun K "greatest_channels" "greatest_channels" s_greatest_channels f fd) (T : Txt mg) (NC : NetC K C) (c_chain : Cal P w K mg base 1 "chain" ["numbers"] [] (spChain K))
    (M_len : Mth P w K mg base 1 C "__len__" ["self"] (spLen C)) : FnOk P w K mg base CX0 3 f fd ["network"] (spGC C) := by
  refine F.ok sc_greatest_channels (fun vs H Q E h => ?_) (fun cdv A outer s H vs Q E hr h => ?_)
  · obtain ⟨a, n, ks, rfl, _⟩ := h
    rfl
  · obtain ⟨a, n, ks, rfl, N, k⟩ := h
    have hu65 : ∀ X : Cx, X.A = A.deeper (envOfC "greatest_channels" (defScope s_greatest_channels) s.heap.objs.size f cdv) → X.A.units + 65 < cLine := fun X e => by rw [e]; have := hr.un; omega
    obtain ⟨dx, kp, np, xs, nps, o⟩ := N.at_
    have ok := N.ok
    have hn := N.sz
    refine ⟨_, (pss_cons (ps_set (i := 1) sc_greatest_channels.nd rfl (Or.inr rfl) (pe_lc (own := [("station", 4)]) (by rfl) sc_greatest_channels.nd (pi_range1 (by rfl) T.n_range (pa_cons (pe_callB (call_lenNet NC M_len (hr.mono (by first | decide | omega))) (by rfl) T.n_len (by decide +kernel) (pa_cons (pv 0) pa_nil)) pa_nil)) (blkOk_by (own := [("station", 4)]) (N := ["network", "table", "lowered", "later", "station", "one"]) (sc := defScope s_greatest_channels) (by decide +kernel)) (fun _ _ _ _ _ => (pg_name (i := 4) sc_greatest_channels.nd rfl (Or.inl rfl))) (fun _ _ _ _ _ => pts_nil) (fun _ _ _ _ _ => (pe_op op_add (pe_callB (call_lenK (K := K)) (by rfl) T.n_len (by decide +kernel) (pa_cons (pe_ix (ix_listK (K := K)) (pe_fldK (K := K) (pv 0) rfl) (pv 4) (fun _ _ => rfl)) pa_nil)) pe_int))))
      (pss_cons (ps_set (i := 2) sc_greatest_channels.nd rfl (Or.inl rfl) pe_bl)
      (pss_cons (ps_while PassesOwn.never (pt_val (pv 2)) (pss_cons (ps_setLc (i := 3) (own := [("station", 4)]) (by rfl) sc_greatest_channels.nd rfl rfl (sw_true rfl rfl rfl (by decide +kernel)) (pi_range1 (by rfl) T.n_range (pa_cons (pe_callB (call_lenNet NC M_len (hr.mono (by first | decide | omega))) (by rfl) T.n_len (by decide +kernel) (pa_cons (pv 0) pa_nil)) pa_nil)) (blkOk_by (own := [("station", 4)]) (N := ["network", "table", "lowered", "later", "station", "one"]) (sc := defScope s_greatest_channels) (by decide +kernel)) (fun _ _ _ _ _ => (pg_name (i := 4) sc_greatest_channels.nd rfl (Or.inl rfl))) (fun _ _ _ _ _ => pts_nil) (fun _ _ _ _ _ => (pe_op op_add pe_int (pe_cal c_chain (hr.mono (by first | decide | omega)) passN (pa_cons (pe_lc (own := [("one", 5)]) (by rfl) sc_greatest_channels.nd (pi_listK (K := K) (pe_ix (ix_listK (K := K)) (pe_fldK (K := K) (pv 0) rfl) (pv 4) (fun _ _ => rfl))) (blkOk_by (own := [("one", 5)]) (by first | decide +kernel | kernel_rfl)) (fun _ _ _ _ _ => (pg_name (i := 5) sc_greatest_channels.nd rfl (Or.inl rfl))) (fun _ _ _ _ _ => pts_nil) (fun _ _ _ _ _ => (pe_ix (ix_listK (K := K)) (pv 1) (pv 5) (fun _ _ => rfl)))) pa_nil)))))
      (pss_cons (ps_set (i := 2) sc_greatest_channels.nd rfl (Or.inl rfl) (pe_cmpR (op_neD (Nat.lt_of_succ_lt (hu65 _ rfl))) (pv 3) (pv 1) (nomark _)))
      (pss_one (ps_set (i := 1) sc_greatest_channels.nd rfl (Or.inr rfl) (pv 3))))))
      (pss_one (ps_ret (pe_callTy call_tupN (by rfl) T.n_tuple (by decide +kernel) (pa_cons (pv 1) pa_nil))))))), ?_⟩
    walk_at "go"
    refine n_lenNet N ?_
    walk_at "go"
    refine v_rng1 (j := (n : Int)) (fun i acc G' L' => L' = [] ∧ ∃ c : List Int, c.length = i ∧ acc = c.map V.int ∧ ∀ j : Nat, j < i → tv c (j : Int) = ((nb ks (j : Int)).length : Int) + 1) (Own.start H) (by omega) ⟨rfl, [], rfl, rfl, fun j hj => absurd hj (Nat.not_lt_zero j)⟩ ?_ ?_
    · rintro D i acc G' L' H1 hi hi' e1 hl1 ⟨rfl, c, hc, rfl, hv⟩ S1
      obtain ⟨p, hp⟩ : ∃ p, nps[i]? = some p := ⟨_, List.getElem?_eq_getElem (by have := o.len; omega)⟩
      walk_at "go"
      refine ⟨rfl, ?_⟩
      walk_at "go"
      refine n_fld (S1.ex _ _ (e1 _ _ o.ins)) NC.cl NC.nN (nf_near kp np) ?_
      walk_at "go"
      refine g_ixL (SqL.of (S1.ex _ _ (e1 _ _ o.near))) (atI_nat (j := i) (v := .ref p) (by rw [List.getElem?_map, hp] <;> rfl)) ?_
      walk_at "go"
      refine n_len (SqL.of (S1.ex _ _ (e1 _ _ (o.each i p hp)))) ?_
      walk_at "go"
      refine c_yes S1 e1 hl1 hi' ⟨rfl, c ++ [((nb ks (i : Int)).length : Int) + 1], by rw [List.length_append, hc] <;> rfl, by rw [List.map_append, List.length_map] <;> rfl, fun j hj => ?_⟩
      by_cases e : j = i
      · subst e
        rw [← hc, tv_app2]
      · rw [tv_app1 (by omega) (by omega)]
        exact hv j (by omega)
    · rintro p acc G1 L1 H1 e1 _ ⟨rfl, t0, hlen, rfl, hv⟩ S1
      have hlen : t0.length = n := by omega
      have low0 : LowT n ks t0 := low_start hlen fun i hi => hv i (by omega)
      obtain ⟨S2, e2, hp2⟩ := S1.freeze
      generalize upd G1 p (.lst (t0.map V.int)) = G2 at S2 e2 hp2
      walk_at "go"
      refine s_while (fun m σ' H' => ∃ (q : Addr) (t : List Int) (low : Bool) (G' : Hp), (∃ x1 x2 x3, σ' = [some (.ref a), some (.ref q), some (.bl low), x1, x2, x3]) ∧ m = (if low then t.sum.toNat + 1 else 0) ∧ LowT n ks t ∧ (low = false → TabF n ks t) ∧
        Ex H G' ∧ Own G' [] H' ∧ G' q = some (.lst (t.map V.int))) _ ⟨p, t0, true, G2, ⟨_, _, _, rfl⟩, rfl, low0, (fun h => by cases h), e1.trans e2, S2, hp2⟩ ?_
      rintro m σ' H' ⟨q, t, low, G', ⟨x1, x2, x3, rfl⟩, rfl, hlow, hfin, eG, S, hq⟩
      have o' := (o.mono eG).mono S.ex
      walk_at "go"
      refine if_2 (fun e => ?_) (fun e => ?_)
      · subst e
        refine s_turn ?_
        walk_at "go"
        refine n_lenNet (N.mono (eG.trans S.ex)) ?_
        walk_at "go"
        refine v_rng1 (j := (n : Int)) (fun i acc G5 L' => L' = [] ∧ ∃ c : List Int, c.length = i ∧ acc = c.map V.int ∧ ∀ j : Nat, j < i → IsCh ((nb ks (j : Int)).map (tv t)) (tv c (j : Int) - 1)) S (by omega) ⟨rfl, [], rfl, rfl, fun j hj => absurd hj (Nat.not_lt_zero j)⟩ ?_ ?_
        · rintro D i acc G5 L' H5 hi hi' e5 hl5 ⟨rfl, c, hc, rfl, hv5⟩ S5
          obtain ⟨pi, hpi⟩ : ∃ p, nps[i]? = some p := ⟨_, List.getElem?_eq_getElem (by have := o.len; omega)⟩
          have o5 := (o.mono eG).mono e5
          have o5H := o5.mono S5.ex
          walk_at "go"
          refine ⟨rfl, ?_⟩
          walk_at "go"
          refine n_fld o5H.ins NC.cl NC.nN (nf_near kp np) ?_
          walk_at "go"
          refine g_ixL (SqL.of o5H.near) (atI_nat (j := i) (v := .ref pi) (by rw [List.getElem?_map, hpi] <;> rfl)) ?_
          have hz : (nb ks (i : Int)).length ≤ 1000000 := by
            have z := I_len ok N.up N.nd (i : Int)
            omega
          refine v_list (xs := (nb ks (i : Int)).map V.int) (fun j acc6 G6 L6 => L6 = [(D, .lst (c.map V.int))] ∧ acc6 = (((nb ks (i : Int)).take j).map (tv t)).map V.int) S5 (SqL.of (o5.each i pi hpi)) (by rw [List.length_map]; exact hz) ⟨rfl, rfl⟩ ?_ ?_
          · rintro D6 j x acc6 G6 L6 H6 hx hj e6 hl6 ⟨rfl, rfl⟩ S6
            obtain ⟨y, hy, rfl⟩ := get_map hx
            obtain ⟨y', rfl, hy'⟩ := nb_nat ok (List.mem_of_getElem? hy)
            walk_at "go"
            refine ⟨rfl, ?_⟩
            walk_at "go"
            refine g_ixL (SqL.of (S6.ex _ _ (e6 _ _ (e5 _ _ hq)))) (at_tv (by omega) (by have := hlow.1; omega)) ?_
            exact c_yes S6 e6 hl6 hj ⟨rfl, by rw [take_snoc hy, List.map_append, List.map_append] <;> rfl⟩
          · rintro p6 acc6 G6 L6 H6 e6 _ ⟨rfl, rfl⟩ S6
            rw [List.length_map, List.take_length] at S6
            walk_at "go"
            refine n_chain S6.forget S6.l0 fun g H7 e7 hch S7 => ?_
            walk_at "go"
            refine c_yes S7 (e5.trans e6) hl5 hi' ⟨rfl, c ++ [1 + g], by rw [List.length_append, hc] <;> rfl, by rw [List.map_append] <;> rfl, fun j hj => ?_⟩
            by_cases e : j = i
            · subst e
              rw [← hc, tv_app2, hc]
              have z : 1 + g - 1 = g := by omega
              rw [z]
              exact hch
            · rw [tv_app1 (by omega) (by omega)]
              exact hv5 j (by omega)
        · rintro p5 acc G5 L5 H5 e5 _ ⟨rfl, c, hc, rfl, hv5⟩ S5
          have hst : StepT n ks t c := ⟨by omega, fun i hi => hv5 i (by omega)⟩
          obtain ⟨S6, e6, hp6⟩ := S5.freeze
          generalize upd G5 p5 (.lst (c.map V.int)) = G6 at S6 e6 hp6
          walk_at "go"
          refine n_neIL (SqL.of (S6.ex _ _ hp6)) (SqL.of (S6.ex _ _ (e6 _ _ (e5 _ _ hq)))) ?_
          walk_at "go"
          have hs := low_sum hlow hst
          have hlow' := low_step ok hlow hst
          have eG6 := (eG.trans e5).trans e6
          by_cases ec : c = t
          · refine ⟨_, ?_, p5, c, !decide (c = t), G6, ⟨_, _, _, rfl⟩, rfl, hlow', fun _ => by rw [← ec] at hst; exact hst, eG6, S6, hp6⟩
            rw [decide_eq_true ec]
            show 0 < t.sum.toNat + 1
            omega
          · refine ⟨_, ?_, p5, c, !decide (c = t), G6, ⟨_, _, _, rfl⟩, rfl, hlow', (fun h => by rw [decide_eq_false ec] at h; cases h), eG6, S6, hp6⟩
            rw [decide_eq_false ec]
            show c.sum.toNat + 1 < t.sum.toNat + 1
            have := hs.2.2 ec
            omega
      · walk_at "go"
        refine n_tupL S (SqL.of (S.ex _ _ hq)) fun r G7 H7 hr7 e7 e7' h7 S7 => ?_
        exact k t (hfin e) r H7 (fresh_back (eG.trans S.ex) hr7) (eG.trans (S.ex.trans e7')) (S7.ex _ _ h7)
end
end NX

namespace NX
open PySem PySem.Spec PyProof.Rows L2
open Evl (Ex ex_l ex_t fresh_back)
abbrev s_others : Stmt := top 16
theorem sc_others : FnScope ["network", "station", "without", "one"] ["network", "station", "without"] (defScope s_others) := ⟨rfl, rfl, rfl, by decide +kernel, rfl, by decide +kernel, by decide +kernel⟩
abbrev s_to_three : Stmt := top 17
theorem sc_to_three : FnScope ["station", "high", "low"] ["station", "high", "low"] (defScope s_to_three) := ⟨rfl, rfl, rfl, by decide +kernel, rfl, by decide +kernel, by decide +kernel⟩
abbrev s_to_four : Stmt := top 18
theorem sc_to_four : FnScope ["network", "station", "third", "high", "low", "second", "first", "steps", "one"] ["network", "station"] (defScope s_to_four) := ⟨rfl, rfl, rfl, by decide +kernel, rfl, by decide +kernel, by decide +kernel⟩
abbrev s_beside_two : Stmt := top 19
theorem sc_beside_two : FnScope ["station", "spare", "goal", "low"] ["station", "spare", "goal", "low"] (defScope s_beside_two) := ⟨rfl, rfl, rfl, by decide +kernel, rfl, by decide +kernel, by decide +kernel⟩
abbrev s_to_five : Stmt := top 20
theorem sc_to_five : FnScope ["network", "station", "table", "fourth", "third", "second", "first", "free", "spare", "steps", "low", "one"] ["network", "station", "table"] (defScope s_to_five) := ⟨rfl, rfl, rfl, by decide +kernel, rfl, by decide +kernel, by decide +kernel⟩
abbrev s_schedule_low : Stmt := top 21
theorem sc_schedule_low : FnScope ["network", "station", "channel", "table", "near"] ["network", "station", "channel"] (defScope s_schedule_low) := ⟨rfl, rfl, rfl, by decide +kernel, rfl, by decide +kernel, by decide +kernel⟩
theorem NetAt.netF {C : Addr} {H : Hp} {a : Addr} {n : Nat} {ks : List Pr} (N : NetAt C H a n ks) {t : List Int} (h : TabF n ks t) : NetF n ks t := ⟨N.ok, fun i => nb_nodup N.ok N.up N.nd i, h⟩
def spOthers (K : PySem.W.Frag) (C : Addr) : Sp := fun vs H Q _ => ∃ (a p : Addr) (n : Nat) (ks : List Pr) (i : Int) (wo : List Int), vs = [.ref a, .int i, .ref p] ∧ NetAt C H a n ks ∧ (0 ≤ i ∧ i < (n : Int)) ∧ SqL K H p (wo.map V.int) ∧ Ret (.lst ((othS ks i wo).map V.int)) H Q
def spTo3 : Sp := fun vs H Q _ => ∃ (s h l : Int), vs = [.int s, .int h, .int l] ∧ Ret (.lst ((to3 s h l).map V.int)) H Q
def spTo4 (C : Addr) : Sp := fun vs H Q _ => ∃ (a : Addr) (n : Nat) (ks : List Pr) (i : Nat) (t : List Int), vs = [.ref a, .int (i : Int)] ∧ NetAt C H a n ks ∧ i < n ∧ TabF n ks t ∧ 4 ≤ tv t (i : Int) ∧ Ret (.lst ((to4 ks (i : Int)).map V.int)) H Q
def spBes : Sp := fun vs H Q _ => ∃ (s p g l : Int), vs = [.int s, .int p, .int g, .int l] ∧ Ret (.lst ((bes2 s p g l).map V.int)) H Q
def spTo5 (C : Addr) : Sp := fun vs H Q _ => ∃ (a tp : Addr) (n : Nat) (ks : List Pr) (i : Nat) (t : List Int), vs = [.ref a, .int (i : Int), .ref tp] ∧ NetAt C H a n ks ∧ i < n ∧ TabF n ks t ∧ H tp = some (.tup (t.map V.int)) ∧ 5 ≤ tv t (i : Int) ∧ Ret (.lst ((to5 ks t (i : Int)).map V.int)) H Q
section
variable {C : Addr} {G H : Hp} {L : List (Addr × HO)} {a : Addr} {n : Nat} {ks : List Pr} {Q : VK} {E : XK} {K : PySem.W.Frag}
theorem n_others {i : Int} {p : Addr} {wo : List Int} (S : Own G L H) (N : NetAt C G a n ks) (h : 0 ≤ i ∧ i < (n : Int)) (hp : SqL K H p (wo.map V.int)) (k : ∀ p G1 H1, H p = none → Ex G G1 → Ex H H1 → G1 p = some (.lst ((othS ks i wo).map V.int)) → Own G1 L H1 → Q (.ref p) H1) : spOthers K C [.ref a, .int i, .ref p] H Q E :=
  ⟨a, p, n, ks, i, wo, rfl, N.mono S.ex, h, hp, n_retG S k⟩
theorem n_to3 {s h l : Int} (S : Own G L H) (k : ∀ p G1 H1, H p = none → Ex G G1 → Ex H H1 → G1 p = some (.lst ((to3 s h l).map V.int)) → Own G1 L H1 → Q (.ref p) H1) : spTo3 [.int s, .int h, .int l] H Q E := ⟨s, h, l, rfl, n_retG S k⟩
theorem n_bes {s p g l : Int} (S : Own G L H) (k : ∀ q G1 H1, H q = none → Ex G G1 → Ex H H1 → G1 q = some (.lst ((bes2 s p g l).map V.int)) → Own G1 L H1 → Q (.ref q) H1) : spBes [.int s, .int p, .int g, .int l] H Q E := ⟨s, p, g, l, rfl, n_retG S k⟩
theorem n_to4 {i : Nat} {t : List Int} (S : Own G L H) (N : NetAt C G a n ks) (h : i < n) (ht : TabF n ks t) (h4 : 4 ≤ tv t (i : Int)) (k : ∀ p G1 H1, H p = none → Ex G G1 → Ex H H1 → G1 p = some (.lst ((to4 ks (i : Int)).map V.int)) → Own G1 L H1 → Q (.ref p) H1) : spTo4 C [.ref a, .int (i : Int)] H Q E :=
  ⟨a, n, ks, i, t, rfl, N.mono S.ex, h, ht, h4, n_retG S k⟩
theorem n_to5 {i : Nat} {t : List Int} {tp : Addr} (S : Own G L H) (N : NetAt C G a n ks) (h : i < n) (ht : TabF n ks t) (htp : G tp = some (.tup (t.map V.int))) (h4 : 5 ≤ tv t (i : Int)) (k : ∀ p G1 H1, H p = none → Ex G G1 → Ex H H1 → G1 p = some (.lst ((to5 ks t (i : Int)).map V.int)) → Own G1 L H1 → Q (.ref p) H1) : spTo5 C [.ref a, .int (i : Int), .ref tp] H Q E :=
  ⟨a, tp, n, ks, i, t, rfl, N.mono S.ex, h, ht, S.ex _ _ htp, h4, n_retG S k⟩
end
theorem getD_at {l : List Int} {j : Nat} (h : j < l.length) : (l.map V.int)[j]? = some (.int (l.getD j 0)) := by
  rw [List.getElem?_map, List.getD_eq_getElem?_getD, List.getElem?_eq_getElem h] <;> rfl
theorem take2 {l : List Int} (h : 2 ≤ l.length) : l.take 2 = [l.getD 0 0, l.getD 1 0] := by
  match l, h with
  | x :: y :: l, _ => rfl
/-- l[:2] of a list with two items or more -/
theorem n_sl2 {K : PySem.W.Frag} {G H : Hp} {L : List (Addr × HO)} {p : Addr} {l : List Int} {Q : VK} (S : Own G L H) (h : SqL K H p (l.map V.int)) (h2 : 2 ≤ l.length) (k : ∀ p G1 H1, H p = none → Ex G G1 → Ex H H1 → G1 p = some (.lst [.int (l.getD 0 0), .int (l.getD 1 0)]) → Own G1 L H1 → Q (.ref p) H1) : rSlL K (.ref p) none (some 2) H Q :=
  n_sl S h fun p G1 H1 h1 e1 e2 hp S1 => by
    have z : cutV (l.map V.int) none (some 2) = [.int (l.getD 0 0), .int (l.getD 1 0)] := by
      have := cutV_to (l.map V.int) 2
      rw [← List.map_take, take2 h2] at this
      exact this
    rw [z] at hp
    exact k p G1 H1 h1 e1 e2 hp S1
theorem filter_snoc {l : List Int} {p : Int → Bool} {m : Nat} {y : Int} (h : l[m]? = some y) : (l.take (m + 1)).filter p = (l.take m).filter p ++ (if p y = true then [y] else []) := by
  rw [take_snoc h, List.filter_append]
  cases q : p y
  · rw [List.filter_cons_of_neg (by rw [q]; exact Bool.false_ne_true), List.filter_nil, if_neg Bool.false_ne_true]
  · rw [List.filter_cons_of_pos q, List.filter_nil, if_pos rfl]
/-- the parts of to_five are there -/
theorem NetF.parts {n : Nat} {ks : List Pr} {t : List Int} (N : NetF n ks t) {i : Nat} (hi : i < n) (h : 5 ≤ tv t (i : Int)) : (0 < ((nb ks (i : Int)).filter fun x => decide (4 ≤ tv t x)).length ∧ (fourS ks t (i : Int) ∈ nb ks (i : Int) ∧ 4 ≤ tv t (fourS ks t (i : Int)))) ∧
    (0 < ((othS ks (i : Int) [fourS ks t (i : Int)]).filter fun x => decide (3 ≤ tv t x)).length ∧ threeS ks t (i : Int) (fourS ks t (i : Int)) ∈ othS ks (i : Int) [fourS ks t (i : Int)] ∧ 3 ≤ tv t (threeS ks t (i : Int) (fourS ks t (i : Int)))) ∧
    2 ≤ (othS ks (i : Int) [fourS ks t (i : Int), threeS ks t (i : Int) (fourS ks t (i : Int))]).length := by
  have hd := N.deg hi
  have c4 := N.many hi (j := 4) (by omega) (by omega)
  have c3 := N.many hi (j := 3) (by omega) (by omega)
  have q0 : fourS ks t (i : Int) ∈ (nb ks (i : Int)).filter fun x => decide (4 ≤ tv t x) := getD_mem (by omega)
  generalize fourS ks t (i : Int) = q at q0 ⊢
  obtain ⟨q1, q2⟩ := List.mem_filter.mp q0
  have pr : 0 < ((othS ks (i : Int) [q]).filter fun x => decide (3 ≤ tv t x)).length := by
    have e : (othS ks (i : Int) [q]).filter (fun x => decide (3 ≤ tv t x)) = ((nb ks (i : Int)).filter fun x => decide (3 ≤ tv t x)).filter fun x => !decide (x ∈ [q]) := by
      unfold othS
      rw [List.filter_filter, List.filter_filter]
      congr 1
      funext x
      exact Bool.and_comm _ _
    rw [e]
    have h1 := filter_two (fun x => decide (x ∈ [q])) ((nb ks (i : Int)).filter fun x => decide (3 ≤ tv t x))
    have h2 : (((nb ks (i : Int)).filter fun x => decide (3 ≤ tv t x)).filter fun x => decide (x ∈ [q])).length ≤ [q].length := len_le_of_sub (((N.nd (i : Int)).filter _).filter _) fun x hx => by
      have := (List.mem_filter.mp hx).2
      exact of_decide_eq_true this
    simp only [List.length_singleton] at h2
    omega
  have r0 : threeS ks t (i : Int) q ∈ (othS ks (i : Int) [q]).filter fun x => decide (3 ≤ tv t x) := getD_mem pr
  generalize threeS ks t (i : Int) q = r at r0 ⊢
  obtain ⟨r1, r2⟩ := List.mem_filter.mp r0
  have o1 := oth_len (wo := [q, r]) (N.nd (i : Int))
  simp only [List.length_cons, List.length_nil] at o1
  exact ⟨⟨by omega, q1, of_decide_eq_true q2⟩, ⟨pr, r1, of_decide_eq_true r2⟩, by omega⟩
section
variable {P : Program} {w : World} {K : PySem.W.Frag} {mg : Str → Option Value} {base : Heap} {C CS CC : Addr}
theorem ok_others {f : Addr} {fd : FuncData} (F : Fun K "others" "others" s_others f fd) (T : Txt mg) (NC : NetC K C) (M_neighbours : Mth P w K mg base 3 C "neighbours" ["self", "station"] (spNbrs C)) : FnOk P w K mg base CX0 4 f fd ["network", "station", "without"] (spOthers K C) := by
  refine F.ok sc_others (fun vs H Q E h => ?_) (fun cdv A outer s H vs Q E hr h => ?_)
  · obtain ⟨a, p, n, ks, i, wo, rfl, _⟩ := h
    rfl
  · obtain ⟨a, p, n, ks, i, wo, rfl, N, hi, hp, k⟩ := h
    refine ⟨_, (pss_one (ps_ret (pe_lc (own := [("one", 3)]) (by rfl) sc_others.nd (pi_list (pe_mth (pv 0) M_neighbours NC.cl (hr.mono (by first | decide | omega)) passN (pa_cons (pv 1) pa_nil))) (blkOk_by (own := [("one", 3)]) (N := ["network", "station", "without", "one"]) (sc := defScope s_others) (by decide +kernel)) (fun _ _ _ _ _ => (pg_name (i := 3) sc_others.nd rfl (Or.inl rfl))) (fun _ _ _ _ _ => (pts_one (pt_cmpR (op_notIn_seqK (K := K)) (pv 3) (pv 2) rfl))) (fun _ _ _ _ _ => (pv 3))))), ?_⟩
    have hlen := I_len (n := n) N.ok N.up N.nd i
    have hn := N.sz
    walk_at "go"
    refine ⟨N.ins (by decide) (by decide), ?_⟩
    walk_at "go"
    refine n_nbrs (Own.start H) N hi fun q G1 H1 hq e1 e1' hq1 S1 => ?_
    refine v_list (xs := (nb ks i).map V.int) (fun m acc G' L' => L' = [] ∧ acc = (((nb ks i).take m).filter fun x => !decide (x ∈ wo)).map V.int) S1 (SqL.of hq1) (by rw [List.length_map]; omega) ⟨rfl, rfl⟩ ?_ ?_
    · rintro D m x acc G' L' H' hx hm e' hl' ⟨rfl, rfl⟩ S'
      obtain ⟨y, hy, rfl⟩ := get_map hx
      walk_at "go"
      refine ⟨rfl, ?_⟩
      walk_at "go"
      refine n_ninIL (ex_l ((e1.trans e').trans S'.ex) hp) ?_
      walk_at "go"
      refine if_2 (fun cc => ?_) (fun cc => ?_)
      · walk_at "go"
        refine c_yes S' e' hl' hm ⟨rfl, ?_⟩
        rw [filter_snoc hy, if_pos cc, List.map_append] <;> rfl
      · refine c_no S' e' hl' ⟨rfl, ?_⟩
        rw [filter_snoc hy, if_neg (by rw [cc]; exact Bool.false_ne_true), List.append_nil]
    · rintro p5 acc5 G5 L5 H5 e5 _ ⟨rfl, rfl⟩ S5
      rw [List.length_map, List.take_length] at S5
      exact k p5 H5 (fresh_back e1 (fresh_back e5 S5.no0)) (e1.trans (e5.trans S5.ex)) S5.get0
theorem ok_to3 {f : Addr} {fd : FuncData} (F : Fun K "to_three" "to_three" s_to_three f fd) : FnOk P w K mg base CX0 1 f fd ["station", "high", "low"] spTo3 := by
  refine F.ok sc_to_three (fun vs H Q E h => ?_) (fun cdv A outer s H vs Q E hr h => ?_)
  · obtain ⟨a, b, c, rfl, _⟩ := h
    rfl
  · obtain ⟨a, b, c, rfl, k⟩ := h
    refine ⟨_, (pss_one (ps_ret (pe_lst (pa_cons (pv 0) (pa_cons (pv 1) (pa_cons (pv 0) (pa_cons (pv 2) (pa_cons (pv 0) (pa_cons (pv 1) (pa_cons (pv 2) pa_nil)))))))))), ?_⟩
    walk_at "go"
    refine n_lst (Own.start H) (by show 7 ≤ 10000000; decide) fun p H1 hp S1 => ?_
    exact k p H1 hp S1.ex S1.get0
theorem ok_bes {f : Addr} {fd : FuncData} (F : Fun K "beside_two" "beside_two" s_beside_two f fd) : FnOk P w K mg base CX0 1 f fd ["station", "spare", "goal", "low"] spBes := by
  refine F.ok sc_beside_two (fun vs H Q E h => ?_) (fun cdv A outer s H vs Q E hr h => ?_)
  · obtain ⟨a, b, c, d, rfl, _⟩ := h
    rfl
  · obtain ⟨a, b, c, d, rfl, k⟩ := h
    refine ⟨_, (pss_one (ps_ret (pe_lst (pa_cons (pv 1) (pa_cons (pv 0) (pa_cons (pv 1) (pa_cons (pv 3) (pa_cons (pv 2) (pa_cons (pv 0) (pa_cons (pv 3) pa_nil)))))))))), ?_⟩
    walk_at "go"
    refine n_lst (Own.start H) (by show 7 ≤ 10000000; decide) fun p H1 hp S1 => ?_
    exact k p H1 hp S1.ex S1.get0
theorem ok_to4 {f : Addr} {fd : FuncData} (F : Fun K "to_four" "to_four" s_to_four f fd) (T : Txt mg) (NC : NetC K C) (M_neighbours : Mth P w K mg base 3 C "neighbours" ["self", "station"] (spNbrs C)) (c_others : Cal P w K mg base 4 "others" ["network", "station", "without"] [] (spOthers K C))
    (c_to_three : Cal P w K mg base 1 "to_three" ["station", "high", "low"] [] spTo3) : FnOk P w K mg base CX0 5 f fd ["network", "station"] (spTo4 C) := by
  refine F.ok sc_to_four (fun vs H Q E h => ?_) (fun cdv A outer s H vs Q E hr h => ?_)
  · obtain ⟨a, n, ks, i, t, rfl, _⟩ := h
    rfl
  · obtain ⟨a, n, ks, i, t, rfl, N, hi, ht, h4, k⟩ := h
    refine ⟨_, (pss_cons (ps_set (i := 2) sc_to_four.nd rfl (Or.inl rfl) (pe_ix ix_list (pe_lc (own := [("one", 8)]) (by rfl) sc_to_four.nd (pi_list (pe_mth (pv 0) M_neighbours NC.cl (hr.mono (by first | decide | omega)) passN (pa_cons (pv 1) pa_nil))) (blkOk_by (own := [("one", 8)]) (N := ["network", "station", "third", "high", "low", "second", "first", "steps", "one"]) (sc := defScope s_to_four) (by decide +kernel)) (fun _ _ _ _ _ => (pg_name (i := 8) sc_to_four.nd rfl (Or.inl rfl))) (fun _ _ _ _ _ => (pts_one (pt_cmpR op_ge (pe_callB (call_lenK (K := K)) (by rfl) T.n_len (by decide +kernel) (pa_cons (pe_ix (ix_listK (K := K)) (pe_fldK (K := K) (pv 0) rfl) (pv 8) (fun _ _ => rfl)) pa_nil)) pe_int (nomark _)))) (fun _ _ _ _ _ => (pv 8))) pe_int (fun _ _ => rfl)))
      (pss_cons (ps_asg (pe_slice sl_list (pe_mth (pv 0) M_neighbours NC.cl (hr.mono (by first | decide | omega)) passN (pa_cons (pv 2) pa_nil)) po_none (po_some pe_int)) (pg_lst (n := 2) rfl (pgs_cons (pg_name (i := 3) sc_to_four.nd rfl (Or.inl rfl)) (pgs_cons (pg_name (i := 4) sc_to_four.nd rfl (Or.inl rfl)) pgs_nil))))
      (pss_cons (ps_asg (pe_slice sl_list (pe_cal c_others (hr.mono (by first | decide | omega)) passN (pa_cons (pv 0) (pa_cons (pv 1) (pa_cons (pe_lst (pa_cons (pv 2) pa_nil)) pa_nil)))) po_none (po_some pe_int)) (pg_lst (n := 2) rfl (pgs_cons (pg_name (i := 5) sc_to_four.nd rfl (Or.inl rfl)) (pgs_cons (pg_name (i := 6) sc_to_four.nd rfl (Or.inl rfl)) pgs_nil))))
      (pss_cons (ps_set (i := 7) sc_to_four.nd rfl (Or.inl rfl) (pe_op op_catL (pe_cal c_to_three (hr.mono (by first | decide | omega)) passN (pa_cons (pv 2) (pa_cons (pv 3) (pa_cons (pv 4) pa_nil)))) (pe_lst (pa_cons (pv 1) (pa_cons (pv 5) (pa_cons (pv 1) (pa_cons (pv 6) (pa_cons (pv 1) pa_nil))))))))
      (pss_one (ps_ret (pe_op op_catL (pv 7) (pe_lst (pa_cons (pv 2) (pa_cons (pv 5) (pa_cons (pv 6) pa_nil))))))))))), ?_⟩
    have F4 := N.netF ht
    obtain ⟨th1, th2⟩ := F4.third hi h4
    obtain ⟨z, hz, hzn⟩ := F4.nat th1
    have hn := N.sz
    have hlen := fun i => I_len (n := n) N.ok N.up N.nd i
    obtain ⟨dx, kp, np, xs, nps, o⟩ := N.at_
    walk_at "go"
    refine ⟨N.ins (by decide) (by decide), ?_⟩
    walk_at "go"
    refine n_nbrs (Own.start H) N (by omega) fun q G1 H1 hq e1 e1' hq1 S1 => ?_
    refine v_list (xs := (nb ks (i : Int)).map V.int) (fun m acc G' L' => L' = [] ∧ acc = (((nb ks (i : Int)).take m).filter fun x => decide (2 ≤ (nb ks x).length)).map V.int) S1 (SqL.of hq1) (by rw [List.length_map]; have := hlen (i : Int); omega) ⟨rfl, rfl⟩ ?_ ?_
    · rintro D m x acc G' L' H' hx hm e' hl' ⟨rfl, rfl⟩ S'
      obtain ⟨y, hy, rfl⟩ := get_map hx
      obtain ⟨j, rfl, hj⟩ := F4.nat (List.mem_of_getElem? hy)
      have o1 := o.mono ((e1.trans e').trans S'.ex)
      obtain ⟨p, hp⟩ : ∃ p, nps[j]? = some p := ⟨_, List.getElem?_eq_getElem (by have := o.len; omega)⟩
      walk_at "go"
      refine ⟨rfl, ?_⟩
      walk_at "go"
      refine n_fld o1.ins NC.cl NC.nN (nf_near kp np) ?_
      walk_at "go"
      refine g_ixL (SqL.of o1.near) (atI_nat (j := j) (v := .ref p) (by rw [List.getElem?_map, hp] <;> rfl)) ?_
      walk_at "go"
      refine n_len (SqL.of (o1.each j p hp)) ?_
      walk_at "go"
      rw [List.length_map]
      refine if_2 (fun cc => ?_) (fun cc => ?_)
      · have cc := of_decide_eq_true cc
        walk_at "go"
        refine c_yes S' e' hl' hm ⟨rfl, ?_⟩
        rw [filter_snoc hy, if_pos (by exact decide_eq_true (by omega)), List.map_append] <;> rfl
      · have cc := of_decide_eq_false cc
        refine c_no S' e' hl' ⟨rfl, ?_⟩
        rw [filter_snoc hy, if_neg (by simp; omega), List.append_nil]
    · rintro p5 acc5 G5 L5 H5 e5 _ ⟨rfl, rfl⟩ S5
      rw [List.length_map, List.take_length] at S5
      have pos : 0 < ((nb ks (i : Int)).filter fun x => decide (2 ≤ (nb ks x).length)).length := List.length_pos_of_mem (List.mem_filter.mpr ⟨th1, decide_eq_true th2⟩)
      walk_at "go"
      refine g_ixL (SqL.of S5.get0) (atI_nat (j := 0) (getD_at pos)) ?_
      have S5 := S5.forget
      have eG5 : Ex H G5 := e1.trans e5
      rw [show ((nb ks (i : Int)).filter fun x => decide (2 ≤ (nb ks x).length)).getD 0 0 = thirdS ks (i : Int) from rfl]
      walk_at "go"
      refine ⟨(N.mono (eG5.trans S5.ex)).ins (by decide) (by decide), ?_⟩
      walk_at "go"
      refine n_nbrs S5 (N.mono eG5) (by rw [hz]; omega) fun q6 G6 H6 hq6 e6 e6' hq6' S6 => ?_
      walk_at "go"
      refine n_sl2 S6 (SqL.of (S6.ex _ _ hq6')) (by have := th2; exact this) fun q7 G7 H7 _ e7 _ hq7 S7 => ?_
      refine s_glst (SqL.of (S7.ex _ _ hq7)) rfl ?_
      walk_at "go"
      refine n_lst S7 (by show 1 ≤ 10000000; decide) fun q8 H8 _ S8 => ?_
      have N7 := N.mono (eG5.trans (e6.trans e7))
      walk_at "go"
      refine n_others (wo := [thirdS ks (i : Int)]) S8 N7 (by omega) (SqL.of S8.get0) fun q9 G9 H9 _ e9 _ hq9 S9 => ?_
      have o1 := oth_len (wo := [thirdS ks (i : Int)]) (F4.nd (i : Int))
      have hd := F4.deg hi
      simp only [List.length_singleton] at o1
      have S9 := S9.forget
      walk_at "go"
      refine n_sl2 S9 (SqL.of (S9.ex _ _ hq9)) (by omega) fun q10 G10 H10 _ e10 _ hq10 S10 => ?_
      refine s_glst (SqL.of (S10.ex _ _ hq10)) rfl ?_
      walk_at "go"
      refine n_to3 S10 fun q11 G11 H11 _ e11 _ hq11 S11 => ?_
      walk_at "go"
      refine n_lstG S11 (by show 5 ≤ 10000000; decide) fun q12 G12 H12 _ e12 _ hq12 S12 => ?_
      refine n_catG S12 (SqL.of (S12.ex _ _ (e12 _ _ hq11))) (SqL.of (S12.ex _ _ hq12)) (by unfold to3; simp) fun q13 G13 H13 _ e13 _ hq13 S13 => ?_
      walk_at "go"
      refine n_lstG S13 (by show 3 ≤ 10000000; decide) fun q14 G14 H14 _ e14 _ hq14 S14 => ?_
      refine n_cat S14 (SqL.of (S14.ex _ _ (e14 _ _ hq13))) (SqL.of (S14.ex _ _ hq14)) (by unfold to3; simp) fun q15 H15 hq15 S15 => ?_
      have eall : Ex H G14 := eG5.trans (e6.trans (e7.trans (e9.trans (e10.trans (e11.trans (e12.trans (e13.trans e14)))))))
      refine k q15 H15 (fresh_back (eall.trans S14.ex) hq15) (eall.trans S15.ex) ?_
      rw [S15.get0]
      unfold to4
      rw [List.map_append, List.map_append] <;> rfl
theorem ok_to5 {f : Addr} {fd : FuncData} (F : Fun K "to_five" "to_five" s_to_five f fd) (T : Txt mg) (NC : NetC K C) (M_neighbours : Mth P w K mg base 3 C "neighbours" ["self", "station"] (spNbrs C)) (c_others : Cal P w K mg base 4 "others" ["network", "station", "without"] [] (spOthers K C))
    (c_to_three : Cal P w K mg base 1 "to_three" ["station", "high", "low"] [] spTo3) (c_to_four : Cal P w K mg base 5 "to_four" ["network", "station"] [] (spTo4 C)) (c_beside_two : Cal P w K mg base 1 "beside_two" ["station", "spare", "goal", "low"] [] spBes) : FnOk P w K mg base CX0 6 f fd ["network", "station", "table"] (spTo5 C) := by
  refine F.ok sc_to_five (fun vs H Q E h => ?_) (fun cdv A outer s H vs Q E hr h => ?_)
  · obtain ⟨a, tp, n, ks, i, t, rfl, _⟩ := h
    rfl
  · obtain ⟨a, tp, n, ks, i, t, rfl, N, hi, ht, htp, h5, k⟩ := h
    have hu65 : ∀ X : Cx, X.A = A.deeper (envOfC "to_five" (defScope s_to_five) s.heap.objs.size f cdv) → X.A.units + 65 < cLine := fun X e => by rw [e]; have := hr.un; omega
    refine ⟨_, (pss_cons (ps_set (i := 3) sc_to_five.nd rfl (Or.inl rfl) (pe_ix ix_list (pe_lc (own := [("one", 11)]) (by rfl) sc_to_five.nd (pi_list (pe_mth (pv 0) M_neighbours NC.cl (hr.mono (by first | decide | omega)) passN (pa_cons (pv 1) pa_nil))) (blkOk_by (own := [("one", 11)]) (N := ["network", "station", "table", "fourth", "third", "second", "first", "free", "spare", "steps", "low", "one"]) (sc := defScope s_to_five) (by decide +kernel)) (fun _ _ _ _ _ => (pg_name (i := 11) sc_to_five.nd rfl (Or.inl rfl))) (fun _ _ _ _ _ => (pts_one (pt_cmpR op_ge (pe_ix (ix_tupK (K := K)) (pv 2) (pv 11) (fun _ _ => rfl)) pe_int (nomark _)))) (fun _ _ _ _ _ => (pv 11))) pe_int (fun _ _ => rfl)))
      (pss_cons (ps_set (i := 4) sc_to_five.nd rfl (Or.inl rfl) (pe_ix ix_list (pe_lc (own := [("one", 11)]) (by rfl) sc_to_five.nd (pi_list (pe_cal c_others (hr.mono (by first | decide | omega)) passN (pa_cons (pv 0) (pa_cons (pv 1) (pa_cons (pe_lst (pa_cons (pv 3) pa_nil)) pa_nil))))) (blkOk_by (own := [("one", 11)]) (N := ["network", "station", "table", "fourth", "third", "second", "first", "free", "spare", "steps", "low", "one"]) (sc := defScope s_to_five) (by decide +kernel)) (fun _ _ _ _ _ => (pg_name (i := 11) sc_to_five.nd rfl (Or.inl rfl))) (fun _ _ _ _ _ => (pts_one (pt_cmpR op_ge (pe_ix (ix_tupK (K := K)) (pv 2) (pv 11) (fun _ _ => rfl)) pe_int (nomark _)))) (fun _ _ _ _ _ => (pv 11))) pe_int (fun _ _ => rfl)))
      (pss_cons (ps_asg (pe_slice sl_list (pe_cal c_others (hr.mono (by first | decide | omega)) passN (pa_cons (pv 0) (pa_cons (pv 1) (pa_cons (pe_lst (pa_cons (pv 3) (pa_cons (pv 4) pa_nil))) pa_nil)))) po_none (po_some pe_int)) (pg_lst (n := 2) rfl (pgs_cons (pg_name (i := 5) sc_to_five.nd rfl (Or.inl rfl)) (pgs_cons (pg_name (i := 6) sc_to_five.nd rfl (Or.inl rfl)) pgs_nil))))
      (pss_cons (ps_set (i := 7) sc_to_five.nd rfl (Or.inr rfl) (pe_cal c_others (hr.mono (by first | decide | omega)) passN (pa_cons (pv 0) (pa_cons (pv 4) (pa_cons (pe_lst (pa_cons (pv 1) (pa_cons (pv 3) pa_nil))) pa_nil)))))
      (pss_cons (ps_if (pt_cmpR (op_neD (Nat.lt_of_succ_lt (hu65 _ rfl))) (pv 7) (pe_lst pa_nil) (nomark _)) (pss_cons (ps_set (i := 8) sc_to_five.nd rfl (Or.inl rfl) (pe_ix ix_list (pe_lc (own := [("one", 11)]) (by rfl) sc_to_five.nd (pi_tup (pe_tup (pa_cons (pv 6) (pa_cons (pv 5) pa_nil)))) (blkOk_by (own := [("one", 11)]) (N := ["network", "station", "table", "fourth", "third", "second", "first", "free", "spare", "steps", "low", "one"]) (sc := defScope s_to_five) (by decide +kernel)) (fun _ _ _ _ _ => (pg_name (i := 11) sc_to_five.nd rfl (Or.inl rfl))) (fun _ _ _ _ _ => (pts_one (pt_cmpR op_ne (pv 11) (pe_ix (ix_listK (K := K)) (pv 7) pe_int (fun _ _ => rfl)) (nomark _)))) (fun _ _ _ _ _ => (pv 11))) pe_int (fun _ _ => rfl)))
      (pss_one (ps_set (i := 9) sc_to_five.nd rfl (Or.inl rfl) (pe_op op_catL (pe_cal c_to_four (hr.mono (by first | decide | omega)) passN (pa_cons (pv 0) (pa_cons (pv 3) pa_nil))) (pe_cal c_beside_two (hr.mono (by first | decide | omega)) passN (pa_cons (pv 1) (pa_cons (pv 8) (pa_cons (pv 4) (pa_cons (pe_ix ix_list (pv 7) pe_int (fun _ _ => rfl)) pa_nil))))))))) (pss_cons (ps_set (i := 10) sc_to_five.nd rfl (Or.inr rfl) (pe_ix ix_list (pe_cal c_others (hr.mono (by first | decide | omega)) passN (pa_cons (pv 0) (pa_cons (pv 3) (pa_cons (pe_lst (pa_cons (pv 1) (pa_cons (pv 4) pa_nil))) pa_nil)))) pe_int (fun _ _ => rfl)))
      (pss_cons (ps_set (i := 8) sc_to_five.nd rfl (Or.inl rfl) (pe_ix ix_list (pe_lc (own := [("one", 11)]) (by rfl) sc_to_five.nd (pi_tup (pe_tup (pa_cons (pv 6) (pa_cons (pv 5) pa_nil)))) (blkOk_by (own := [("one", 11)]) (N := ["network", "station", "table", "fourth", "third", "second", "first", "free", "spare", "steps", "low", "one"]) (sc := defScope s_to_five) (by decide +kernel)) (fun _ _ _ _ _ => (pg_name (i := 11) sc_to_five.nd rfl (Or.inl rfl))) (fun _ _ _ _ _ => (pts_one (pt_cmpR op_ne (pv 11) (pv 10) (nomark _)))) (fun _ _ _ _ _ => (pv 11))) pe_int (fun _ _ => rfl)))
      (pss_one (ps_set (i := 9) sc_to_five.nd rfl (Or.inl rfl) (pe_op op_catL (pe_cal c_to_three (hr.mono (by first | decide | omega)) passN (pa_cons (pv 4) (pa_cons (pv 1) (pa_cons (pv 3) pa_nil)))) (pe_cal c_beside_two (hr.mono (by first | decide | omega)) passN (pa_cons (pv 1) (pa_cons (pv 8) (pa_cons (pv 3) (pa_cons (pv 10) pa_nil)))))))))))
      (pss_one (ps_ret (pe_op op_catL (pv 9) (pe_lst (pa_cons (pv 1) (pa_cons (pv 5) (pa_cons (pv 1) (pa_cons (pv 6) (pa_cons (pv 1) (pa_cons (pv 3) (pa_cons (pv 4) (pa_cons (pv 5) (pa_cons (pv 6) pa_nil)))))))))))))))))), ?_⟩
    have F5 := N.netF ht
    obtain ⟨⟨fo1, fo2⟩, ⟨tr1, tr2, tr3⟩, oth⟩ := F5.parts hi h5
    have hn := N.sz
    have hlen := fun i => I_len (n := n) N.ok N.up N.nd i
    have o2 := oth_nd (wo := [fourS ks t (i : Int), threeS ks t (i : Int) (fourS ks t (i : Int))]) (F5.nd (i : Int))
    have oth0 := getD_mem (l := othS ks (i : Int) [fourS ks t (i : Int), threeS ks t (i : Int) (fourS ks t (i : Int))]) (j := 0) (by omega)
    have oth1 := getD_mem (l := othS ks (i : Int) [fourS ks t (i : Int), threeS ks t (i : Int) (fourS ks t (i : Int))]) (j := 1) (by omega)
    have otn := getD_ne o2 (i := 0) (j := 1) (by omega) (by omega) (by decide)
    walk_at "go"
    refine ⟨N.ins (by decide) (by decide), ?_⟩
    walk_at "go"
    refine n_nbrs (Own.start H) N (by omega) fun q G1 H1 hq e1 e1' hq1 S1 => ?_
    refine v_list (xs := (nb ks (i : Int)).map V.int) (fun m acc G' L' => L' = [] ∧ acc = (((nb ks (i : Int)).take m).filter fun x => decide (4 ≤ tv t x)).map V.int) S1 (SqL.of hq1) (by rw [List.length_map]; have := hlen (i : Int); omega) ⟨rfl, rfl⟩ ?_ ?_
    · rintro D m x acc G' L' H' hx hm e' hl' ⟨rfl, rfl⟩ S'
      obtain ⟨y, hy, rfl⟩ := get_map hx
      obtain ⟨j, rfl, hj⟩ := F5.nat (List.mem_of_getElem? hy)
      walk_at "go"
      refine ⟨rfl, ?_⟩
      walk_at "go"
      refine g_ixT (SqT.of (((e1.trans e').trans S'.ex) _ _ htp)) (at_tv (by omega) (by have := ht.1; omega)) ?_
      walk_at "go"
      refine if_2 (fun cc => ?_) (fun cc => ?_)
      · walk_at "go"
        refine c_yes S' e' hl' hm ⟨rfl, ?_⟩
        rw [filter_snoc hy, if_pos (by exact cc), List.map_append] <;> rfl
      · refine c_no S' e' hl' ⟨rfl, ?_⟩
        rw [filter_snoc hy, if_neg (by exact fun z => by rw [cc] at z; cases z), List.append_nil]
    rintro p5 acc5 G5 L5 H5 e5 _ ⟨rfl, rfl⟩ S5
    rw [List.length_map, List.take_length] at S5
    walk_at "go"
    refine g_ixL (SqL.of S5.get0) (atI_nat (j := 0) (getD_at fo1)) ?_
    have S5 := S5.forget
    have eG5 : Ex H G5 := e1.trans e5
    rw [show ((nb ks (i : Int)).filter fun x => decide (4 ≤ tv t x)).getD 0 0 = fourS ks t (i : Int) from rfl]
    clear fo1
    have F4 : ∃ z : Nat, fourS ks t (i : Int) = (z : Int) ∧ z < n := F5.nat fo2.1
    have T3 : threeS ks t (i : Int) (fourS ks t (i : Int)) = ((othS ks (i : Int) [fourS ks t (i : Int)]).filter fun x => decide (3 ≤ tv t x)).getD 0 0 := rfl
    have hfin : to5 ks t (i : Int) = qr5 ks (i : Int) (fourS ks t (i : Int)) (threeS ks t (i : Int) (fourS ks t (i : Int))) := rfl
    rw [hfin] at k
    clear hfin
    generalize hqq : fourS ks t (i : Int) = qq at *
    clear hqq
    walk_at "go"
    refine n_lst S5 (by show 1 ≤ 10000000; decide) fun p6 H6 _ S6 => ?_
    walk_at "go"
    refine n_others (wo := [qq]) S6 (N.mono eG5) (by omega) (SqL.of S6.get0) fun p7 G7 H7 _ e7 _ hp7 S7 => ?_
    have S7 := S7.forget
    refine v_list (xs := (othS ks (i : Int) [qq]).map V.int) (fun m acc G' L' => L' = [] ∧ acc = (((othS ks (i : Int) [qq]).take m).filter fun x => decide (3 ≤ tv t x)).map V.int) S7 (SqL.of hp7) (by
      rw [List.length_map]
      have h1 := hlen (i : Int)
      have h2 : (othS ks (i : Int) [qq]).length ≤ (nb ks (i : Int)).length := List.length_filter_le _ _
      omega) ⟨rfl, rfl⟩ ?_ ?_
    · rintro D m x acc G' L' H' hx hm e' hl' ⟨rfl, rfl⟩ S'
      obtain ⟨y, hy, rfl⟩ := get_map hx
      obtain ⟨j, rfl, hj⟩ := F5.nat (mem_oth.mp (List.mem_of_getElem? hy)).1
      walk_at "go"
      refine ⟨rfl, ?_⟩
      walk_at "go"
      refine g_ixT (SqT.of (((eG5.trans (e7.trans e')).trans S'.ex) _ _ htp)) (at_tv (by omega) (by have := ht.1; omega)) ?_
      walk_at "go"
      refine if_2 (fun cc => ?_) (fun cc => ?_)
      · walk_at "go"
        refine c_yes S' e' hl' hm ⟨rfl, ?_⟩
        rw [filter_snoc hy, if_pos (by exact cc), List.map_append] <;> rfl
      · refine c_no S' e' hl' ⟨rfl, ?_⟩
        rw [filter_snoc hy, if_neg (by exact fun z => by rw [cc] at z; cases z), List.append_nil]
    rintro p8 acc8 G8 L8 H8 e8 _ ⟨rfl, rfl⟩ S8
    rw [List.length_map, List.take_length] at S8
    walk_at "go"
    refine g_ixL (SqL.of S8.get0) (atI_nat (j := 0) (getD_at tr1)) ?_
    have S8 := S8.forget
    have eG8 : Ex H G8 := eG5.trans (e7.trans e8)
    rw [← T3]
    clear T3 tr1
    generalize hrr : threeS ks t (i : Int) qq = rr at *
    clear hrr
    walk_at "go"
    refine n_lst S8 (by show 2 ≤ 10000000; decide) fun p9 H9 _ S9 => ?_
    walk_at "go"
    refine n_others (wo := [qq, rr]) S9 (N.mono eG8) (by omega) (SqL.of S9.get0) fun p10 G10 H10 _ e10 _ hp10 S10 => ?_
    have S10 := S10.forget
    walk_at "go"
    refine n_sl2 S10 (SqL.of (S10.ex _ _ hp10)) oth fun p11 G11 H11 _ e11 _ hp11 S11 => ?_
    refine s_glst (SqL.of (S11.ex _ _ hp11)) rfl ?_
    have eG11 : Ex H G11 := eG8.trans (e10.trans e11)
    have hqr : qr5 ks (i : Int) qq rr = fin5 ks (i : Int) qq rr ((othS ks (i : Int) [qq, rr]).getD 0 0) ((othS ks (i : Int) [qq, rr]).getD 1 0) := rfl
    rw [hqr] at k
    clear hqr
    generalize (othS ks (i : Int) [qq, rr]).getD 0 0 = ee at *
    generalize (othS ks (i : Int) [qq, rr]).getD 1 0 = ff at *
    obtain ⟨q, rfl, hq⟩ := F4
    obtain ⟨tr4, tr5⟩ := mem_oth.mp tr2
    obtain ⟨r, rfl, hr⟩ := F5.nat tr4
    walk_at "go"
    refine n_lst S11 (by show 2 ≤ 10000000; decide) fun p12 H12 _ S12 => ?_
    walk_at "go"
    refine n_others (wo := [(i : Int), (q : Int)]) S12 (N.mono eG11) (by omega) (SqL.of S12.get0) fun p13 G13 H13 _ e13 _ hp13 S13 => ?_
    have S13 := S13.forget
    have eG13 : Ex H G13 := eG11.trans e13
    refine s_name ?_
    refine s_seq ?_
    have N13 := N.mono eG13
    -- the spare one
    have spare : ∀ (x : Int), 0 < ([ff, ee].filter fun y => !decide (y = x)).length ∧ ([ff, ee].filter fun y => !decide (y = x)).getD 0 0 = spareS ff ee x := fun x => by
      unfold spareS
      by_cases c : ff = x
      · have c2 : ee ≠ x := fun z => otn (z.trans c.symm)
        simp [c, c2]
      · simp [c]
    refine s_join (fun σ2 H2 => ∃ (G2 : Hp) (p15 : Addr) (x8 x10 x11 : Option V), σ2 = [some (.ref a), some (.int (i : Int)), some (.ref tp), some (.int (q : Int)), some (.int (r : Int)), some (.int ee), some (.int ff), some (.ref p13), x8, some (.ref p15), x10, x11] ∧
      Ex H G2 ∧ G2 p15 = some (.lst ((pre5 ks (i : Int) q r ee ff).map V.int)) ∧ Own G2 [] H2) ?_ (fun n' hn' => ?_)
    · rintro σ2 H2 ⟨G2, p15, x8, x10, x11, rfl, e2, hp15, S2⟩
      walk_at "go"
      refine n_lstG S2 (by show 9 ≤ 10000000; decide) fun p16 G16 H16 _ e16 _ hp16 S16 => ?_
      refine n_cat S16 (SqL.of (S16.ex _ _ (e16 _ _ hp15))) (SqL.of (S16.ex _ _ hp16)) (by
        have : (pre5 ks (i : Int) q r ee ff).length ≤ 22 := by
          unfold pre5
          split
          · unfold to4 to3 bes2; simp
          · unfold to3 bes2; simp
        rw [List.length_map]
        show _ + 9 ≤ _
        omega) fun p17 H17 hp17 S17 => ?_
      refine k p17 H17 (fresh_back ((e2.trans e16).trans S16.ex) hp17) ((e2.trans e16).trans S17.ex) ?_
      rw [S17.get0]
      unfold fin5
      rw [List.map_append] <;> rfl
    · walk_at "go"
      refine n_lst S13 (by decide) fun p14 H14 _ S14 => ?_
      refine n_neIL (SqL.of (S14.ex _ _ hp13)) (ms := []) (SqL.of S14.get0) ?_
      have S14 := S14.forget
      walk_at "go"
      refine if_2 (fun c => ?_) (fun c => ?_)
      · have c : othS ks (r : Int) [(i : Int), (q : Int)] ≠ [] := by simpa using c
        cases ho : othS ks (r : Int) [(i : Int), (q : Int)] with
        | nil => exact absurd ho c
        | cons x l =>
          have e5 : pre5 ks (i : Int) q r ee ff = to4 ks q ++ bes2 i (spareS ff ee x) r x := by unfold pre5; rw [ho]
          rw [e5] at hn'
          rw [ho] at hp13
          clear e5
          obtain ⟨s1, s2⟩ := spare x
          walk_at "go"
          refine n_tup S14 (by show 2 ≤ 10000000; decide) fun t15 G15 H15 _ e15 _ ht15 S15 => ?_
          have ht15 : G15 t15 = some (.tup ([ff, ee].map V.int)) := ht15
          refine v_tup (xs := [ff, ee].map V.int) (fun m acc G' L' => L' = [] ∧ acc = (([ff, ee].take m).filter fun y => !decide (y = x)).map V.int) S15 (SqT.of ht15) (by rw [List.length_map]; show 2 ≤ 1000000; decide) ⟨rfl, rfl⟩ ?_ ?_
          · rintro D m y acc G' L' H' hx hm e' hl' ⟨rfl, rfl⟩ S'
            obtain ⟨y, hy, rfl⟩ := get_map hx
            walk_at "go"
            refine ⟨rfl, ?_⟩
            walk_at "go"
            refine g_ixL (SqL.of (S'.ex _ _ (e' _ _ (e15 _ _ hp13)))) (atI_nat (xs := (x :: l).map V.int) (j := 0) (v := .int x) rfl) ?_
            walk_at "go"
            refine if_2 (fun cc => ?_) (fun cc => ?_)
            · walk_at "go"
              refine c_yes S' e' hl' hm ⟨rfl, ?_⟩
              rw [filter_snoc hy, if_pos (by exact cc), List.map_append] <;> rfl
            · refine c_no S' e' hl' ⟨rfl, ?_⟩
              rw [filter_snoc hy, if_neg (by exact fun z => by rw [cc] at z; cases z), List.append_nil]
          rintro p16 acc16 G16 L16 H16 e16 _ ⟨rfl, rfl⟩ S16
          rw [List.length_map, List.take_length] at S16
          walk_at "go"
          refine g_ixL (SqL.of S16.get0) (atI_nat (j := 0) (getD_at s1)) ?_
          have S16 := S16.forget
          rw [s2]
          have e1316 : Ex G13 G16 := e15.trans e16
          walk_at "go"
          refine n_to4 S16 (N13.mono e1316) hq ht fo2.2 fun p17 G17 H17 _ e17 _ hp17 S17 => ?_
          walk_at "go"
          refine g_ixL (SqL.of (S17.ex _ _ (e17 _ _ (e1316 _ _ hp13)))) (atI_nat (xs := (x :: l).map V.int) (j := 0) (v := .int x) rfl) ?_
          walk_at "go"
          refine n_bes S17 fun p18 G18 H18 _ e18 _ hp18 S18 => ?_
          walk_at "go"
          refine n_catG S18 (SqL.of (S18.ex _ _ (e18 _ _ hp17))) (SqL.of (S18.ex _ _ hp18)) (by unfold to4 to3 bes2; simp) fun p19 G19 H19 _ e19 _ hp19 S19 => ?_
          walk_at "go"
          refine hn' _ _ ⟨G19, p19, _, _, _, rfl, eG13.trans (e1316.trans (e17.trans (e18.trans e19))), ?_, S19⟩
          rw [hp19, List.map_append]
      · have c : othS ks (r : Int) [(i : Int), (q : Int)] = [] := by simpa using c
        have e5 : pre5 ks (i : Int) q r ee ff = to3 r i q ++ bes2 i (spareS ff ee ((othS ks (q : Int) [(i : Int), (r : Int)]).getD 0 0)) q ((othS ks (q : Int) [(i : Int), (r : Int)]).getD 0 0) := by unfold pre5; rw [c]
        rw [e5] at hn'
        clear e5
        have hdq := F5.deg hq
        have o3 := oth_len (wo := [(i : Int), (r : Int)]) (F5.nd (q : Int))
        simp only [List.length_cons, List.length_nil] at o3
        have po : 0 < (othS ks (q : Int) [(i : Int), (r : Int)]).length := by have := fo2.2; omega
        walk_at "go"
        refine n_lst S14 (by show 2 ≤ 10000000; decide) fun p15 H15 _ S15 => ?_
        walk_at "go"
        refine n_others (wo := [(i : Int), (r : Int)]) S15 N13 (by omega) (SqL.of S15.get0) fun p16 G16 H16 _ e16 _ hp16 S16 => ?_
        have S16 := S16.forget
        walk_at "go"
        refine g_ixL (SqL.of (S16.ex _ _ hp16)) (atI_nat (j := 0) (getD_at po)) ?_
        generalize (othS ks (q : Int) [(i : Int), (r : Int)]).getD 0 0 = x at *
        obtain ⟨s1, s2⟩ := spare x
        walk_at "go"
        refine n_tup S16 (by show 2 ≤ 10000000; decide) fun t17 G17 H17 _ e17 _ ht17 S17 => ?_
        have ht17 : G17 t17 = some (.tup ([ff, ee].map V.int)) := ht17
        refine v_tup (xs := [ff, ee].map V.int) (fun m acc G' L' => L' = [] ∧ acc = (([ff, ee].take m).filter fun y => !decide (y = x)).map V.int) S17 (SqT.of ht17) (by rw [List.length_map]; show 2 ≤ 1000000; decide) ⟨rfl, rfl⟩ ?_ ?_
        · rintro D m y acc G' L' H' hx hm e' hl' ⟨rfl, rfl⟩ S'
          obtain ⟨y, hy, rfl⟩ := get_map hx
          walk_at "go"
          refine ⟨rfl, ?_⟩
          walk_at "go"
          refine if_2 (fun cc => ?_) (fun cc => ?_)
          · walk_at "go"
            refine c_yes S' e' hl' hm ⟨rfl, ?_⟩
            rw [filter_snoc hy, if_pos (by exact cc), List.map_append] <;> rfl
          · refine c_no S' e' hl' ⟨rfl, ?_⟩
            rw [filter_snoc hy, if_neg (by exact fun z => by rw [cc] at z; cases z), List.append_nil]
        rintro p18 acc18 G18 L18 H18 e18 _ ⟨rfl, rfl⟩ S18
        rw [List.length_map, List.take_length] at S18
        walk_at "go"
        refine g_ixL (SqL.of S18.get0) (atI_nat (j := 0) (getD_at s1)) ?_
        have S18 := S18.forget
        rw [s2]
        walk_at "go"
        refine n_to3 S18 fun p19 G19 H19 _ e19 _ hp19 S19 => ?_
        walk_at "go"
        refine n_bes S19 fun p20 G20 H20 _ e20 _ hp20 S20 => ?_
        walk_at "go"
        refine n_catG S20 (SqL.of (S20.ex _ _ (e20 _ _ hp19))) (SqL.of (S20.ex _ _ hp20)) (by unfold to3 bes2; simp) fun p21 G21 H21 _ e21 _ hp21 S21 => ?_
        walk_at "go"
        refine hn' _ _ ⟨G21, p21, _, _, _, rfl, eG13.trans (e16.trans (e17.trans (e18.trans (e19.trans (e20.trans e21))))), ?_, S21⟩
        rw [hp21, List.map_append]
/-- no channel that schedule_low takes -/
def BadLow (H : Hp) (t : List Int) (i : Nat) (u : V) : Prop := ∃ ty, OddV H u ty ∧ (ty = "int" → ∃ c, u = .int c ∧ ¬ (1 ≤ c ∧ c ≤ min 5 (tv t (i : Int))))
def spLow (C CS CC : Addr) : Sp := fun vs H Q E => ∃ (a : Addr) (n : Nat) (ks : List Pr) (v u : V), vs = [.ref a, v, u] ∧ NetAt C H a n ks ∧ ((OddSt H n v ∧ Thr E CS "station" v H) ∨
  ∃ i : Nat, v = .int (i : Int) ∧ i < n ∧ ∀ t, TabF n ks t → ((BadLow H t i u ∧ Thr E CC "channel" u H) ∨ ∃ c, u = .int c ∧ (1 ≤ c ∧ c ≤ min 5 (tv t (i : Int))) ∧ Ret (.lst ((lowS ks t (i : Int) c).map V.int)) H Q))
theorem ok_low {f : Addr} {fd : FuncData} (F : Fun K "schedule_low" "schedule_low" s_schedule_low f fd) (T : Txt mg) (NC : NetC K C) (c_is_int : Cal P w K mg base 1 "is_int" ["value"] [] (spIsInt K)) (M_check_station : Mth P w K mg base 3 C "check_station" ["self", "station"] (spChkX C CS))
    (M_neighbours : Mth P w K mg base 3 C "neighbours" ["self", "station"] (spNbrs C)) (c_greatest_channels : Cal P w K mg base 3 "greatest_channels" ["network"] [] (spGC C)) (c_to_three : Cal P w K mg base 1 "to_three" ["station", "high", "low"] [] spTo3)
    (c_to_four : Cal P w K mg base 5 "to_four" ["network", "station"] [] (spTo4 C)) (c_to_five : Cal P w K mg base 6 "to_five" ["network", "station", "table"] [] (spTo5 C)) (X_NoChannel : Exn P w K mg base "NoChannel" CC "channel") : FnOk P w K mg base (L2.CX P w) 7 f fd ["network", "station", "channel"] (spLow C CS CC) := by
  refine F.okX sc_schedule_low (fun vs H Q E h => ?_) (fun cdv A outer s H vs Q E hr h => ?_)
  · obtain ⟨a, n, ks, v, u, rfl, _⟩ := h
    rfl
  · obtain ⟨a, n, ks, v, u, rfl, N, h⟩ := h
    have hu65 : ∀ X : Cx, X.A = A.deeper (envOfC "schedule_low" (defScope s_schedule_low) s.heap.objs.size f cdv) → X.A.units + 65 < cLine := fun X e => by rw [e]; have := hr.un; omega
    refine ⟨_, (pss_cons (ps_expr (pe_mth (pv 0) M_check_station NC.cl (hr.mono (by first | decide | omega)) (passE (takes_of rfl rfl rfl rfl) fun _ _ _ _ z => z) (pa_cons (pv 1) pa_nil)))
      (pss_cons (ps_set (i := 3) sc_schedule_low.nd rfl (Or.inl rfl) (pe_cal c_greatest_channels (hr.mono (by first | decide | omega)) passN (pa_cons (pv 0) pa_nil)))
      (pss_cons (ps_if (PW.pt (pw_or (pt_not (pt_val (pe_cal c_is_int (hr.mono (by first | decide | omega)) passN (pa_cons (pv 2) pa_nil)))) (pw_or1 (pt_not (pt_chain op_le op_le pe_int (pv 2) (pe_callB (call_minN rfl) (by rfl) T.n_min (by decide +kernel) (pa_cons (pe_cst (by rfl) T.m_MOST_LOW) (pa_cons (pe_ix ix_tup (pv 3) (pv 1) (fun _ _ => rfl)) pa_nil)))))))) (pss_one (ps_raiseE (K := K) rfl (takes_of rfl rfl rfl rfl) X_NoChannel (hr.mono (by first | decide | omega)) (pa_cons (pv 2) pa_nil))) pss_nil)
      (pss_cons (ps_set (i := 4) sc_schedule_low.nd rfl (Or.inl rfl) (pe_mth (pv 0) M_neighbours NC.cl (hr.mono (by first | decide | omega)) passN (pa_cons (pv 1) pa_nil)))
      (pss_cons (ps_if (pt_cmpR op_eq (pv 2) pe_int (nomark _)) (pss_one (ps_ret (pe_lst (pa_cons (pv 1) pa_nil)))) pss_nil)
      (pss_cons (ps_if (pt_cmpR op_eq (pv 2) pe_int (nomark _)) (pss_one (ps_ret (pe_lst (pa_cons (pe_ix ix_list (pv 4) pe_int (fun _ _ => rfl)) (pa_cons (pv 1) (pa_cons (pe_ix ix_list (pv 4) pe_int (fun _ _ => rfl)) pa_nil)))))) pss_nil)
      (pss_cons (ps_if (pt_cmpR op_eq (pv 2) pe_int (nomark _)) (pss_one (ps_ret (pe_cal c_to_three (hr.mono (by first | decide | omega)) passN (pa_cons (pv 1) (pa_cons (pe_ix ix_list (pv 4) pe_int (fun _ _ => rfl)) (pa_cons (pe_ix ix_list (pv 4) pe_int (fun _ _ => rfl)) pa_nil)))))) pss_nil)
      (pss_cons (ps_if (pt_cmpR op_eq (pv 2) pe_int (nomark _)) (pss_one (ps_ret (pe_cal c_to_four (hr.mono (by first | decide | omega)) passN (pa_cons (pv 0) (pa_cons (pv 1) pa_nil))))) pss_nil)
      (pss_one (ps_ret (pe_cal c_to_five (hr.mono (by first | decide | omega)) passN (pa_cons (pv 0) (pa_cons (pv 1) (pa_cons (pv 3) pa_nil)))))))))))))), ?_⟩
    walk_at "go"
    refine ⟨N.ins (by decide) (by decide), ?_⟩
    walk_at "go"
    rcases h with ⟨ho, kE⟩ | ⟨i, rfl, hi, k⟩
    · exact ⟨a, n, ks, v, rfl, N, .inr ⟨ho, fun d H' e hd => kE d H' e hd⟩⟩
    refine ⟨a, n, ks, _, rfl, N, .inl ⟨⟨(i : Int), rfl, by omega, by omega⟩, fun H1 e1 => ?_⟩⟩
    walk_at "go"
    refine n_gc (Own.start H1) (N.mono e1) fun t p2 G2 H2 ht hp2 e2 e2' hp2' S2 => ?_
    have F2 := N.netF ht
    have e12 : Ex H G2 := e1.trans e2
    have htl := ht.1
    walk_at "go"
    rcases k t ht with ⟨⟨ty, ho, hno⟩, kE⟩ | ⟨c, rfl, hc, k⟩
    · refine ⟨u, ty, rfl, (ho.mono (e12.trans S2.ex)).isT, ?_⟩
      walk_at "go"
      have eE := e12.trans S2.ex
      by_cases c : ty = "int"
      · subst c
        obtain ⟨c, rfl, hc⟩ := hno rfl
        refine if_ff (by decide +kernel) ?_
        walk_at "go"
        refine if_2 (fun cc => ?_) (fun cc => ?_)
        · have cc := of_decide_eq_true cc
          walk_at "go"
          refine g_ixT (SqT.of (S2.ex _ _ hp2')) (at_tv (by omega) (by omega)) ?_
          walk_at "go"
          refine if_tt (nfalse (by omega)) ?_
          refine s_raiseE ?_
          walk_at "go"
          exact n_raise X_NoChannel.oex fun d H4 _ e4 hd => kE d H4 (eE.trans e4) hd
        · walk_at "go"
          refine s_raiseE ?_
          walk_at "go"
          exact n_raise X_NoChannel.oex fun d H4 _ e4 hd => kE d H4 (eE.trans e4) hd
      · have e : (ty == "int") = false := by simp [c]
        rw [e]
        walk_at "go"
        refine s_raiseE ?_
        walk_at "go"
        exact n_raise X_NoChannel.oex fun d H4 _ e4 hd => kE d H4 (eE.trans e4) hd
    · refine g_isint ?_
      walk_at "go"
      refine if_tt (dtrue (by omega)) ?_
      walk_at "go"
      refine g_ixT (SqT.of (S2.ex _ _ hp2')) (at_tv (by omega) (by omega)) ?_
      walk_at "go"
      refine if_ff (ntrue (by omega)) ?_
      walk_at "go"
      refine ⟨(N.mono (e12.trans S2.ex)).ins (by decide) (by decide), ?_⟩
      walk_at "go"
      have hd := F2.deg hi
      refine n_nbrs S2 (N.mono e12) (by omega) fun p3 G3 H3 _ e3 _ hp3 S3 => ?_
      have e13 : Ex H G3 := e12.trans e3
      have ix : ∀ {j : Nat}, j < (nb ks (i : Int)).length → atI ((nb ks (i : Int)).map V.int) (j : Int) = some (.int ((nb ks (i : Int)).getD j 0)) := fun h => atI_nat (getD_at h)
      have q3 := SqL.of (K := K) (S3.ex _ _ hp3)
      walk_at "go"
      unfold lowS at k
      refine if_2 (fun cc => ?_) (fun cc => ?_)
      · have cc := of_decide_eq_true cc
        rw [if_pos cc] at k
        walk_at "go"
        refine n_lst S3 (by show 1 ≤ 10000000; decide) fun p H4 hp S4 => ?_
        exact k p H4 (fresh_back (e13.trans S3.ex) hp) (e13.trans S4.ex) S4.get0
      have cc := of_decide_eq_false cc
      rw [if_neg cc] at k
      walk_at "go"
      refine if_2 (fun c2 => ?_) (fun c2 => ?_)
      · have c2 := of_decide_eq_true c2
        rw [if_pos c2] at k
        walk_at "go"
        refine g_ixL q3 (ix (j := 0) (by omega)) ?_
        walk_at "go"
        refine g_ixL q3 (ix (j := 0) (by omega)) ?_
        walk_at "go"
        refine n_lst S3 (by show 3 ≤ 10000000; decide) fun p H4 hp S4 => ?_
        exact k p H4 (fresh_back (e13.trans S3.ex) hp) (e13.trans S4.ex) S4.get0
      have c2 := of_decide_eq_false c2
      rw [if_neg c2] at k
      walk_at "go"
      refine if_2 (fun c3 => ?_) (fun c3 => ?_)
      · have c3 := of_decide_eq_true c3
        rw [if_pos c3] at k
        walk_at "go"
        refine g_ixL q3 (ix (j := 0) (by omega)) ?_
        walk_at "go"
        refine g_ixL q3 (ix (j := 1) (by omega)) ?_
        walk_at "go"
        refine n_to3 S3 fun p G4 H4 hp e4 e4' hp4 S4 => ?_
        exact k p H4 (fresh_back (e13.trans S3.ex) hp) (e13.trans (e4.trans S4.ex)) (S4.ex _ _ hp4)
      have c3 := of_decide_eq_false c3
      rw [if_neg c3] at k
      walk_at "go"
      refine if_2 (fun c4 => ?_) (fun c4 => ?_)
      · have c4 := of_decide_eq_true c4
        rw [if_pos c4] at k
        walk_at "go"
        refine n_to4 S3 (N.mono e13) hi ht (by omega) fun p G4 H4 hp e4 e4' hp4 S4 => ?_
        exact k p H4 (fresh_back (e13.trans S3.ex) hp) (e13.trans (e4.trans S4.ex)) (S4.ex _ _ hp4)
      have c4 := of_decide_eq_false c4
      rw [if_neg c4] at k
      walk_at "go"
      refine n_to5 S3 (N.mono e13) hi ht (e3 _ _ hp2') (by omega) fun p G4 H4 hp e4 e4' hp4 S4 => ?_
      exact k p H4 (fresh_back (e13.trans S3.ex) hp) (e13.trans (e4.trans S4.ex)) (S4.ex _ _ hp4)
end
end NX

namespace NX
open PySem PySem.Spec PyProof.Rows L2
open Evl (Ex ex_l ex_t fresh_back)
abbrev s__law_right : Stmt := top 36
theorem sc__law_right : FnScope ["_law_well_here", "_law_is_whole", "_law_more", "_law_names", "_law_pairs", "_law_links", "_law_network", "_law_near_here", "_law_middle", "_law_table", "e", "_law_k", "_law_one", "_law_two"] ["_law_well_here", "_law_is_whole"] (defScope s__law_right) := ⟨rfl, rfl, rfl, by decide +kernel, rfl, by decide +kernel, by decide +kernel⟩
theorem run_congr {nbr nbr' : Nbr} {n : Nat} (h : ∀ i : Nat, i < n → ∀ o, o ∈ nbr (i : Int) ↔ o ∈ nbr' (i : Int)) : ∀ {is : List Int} {s : List Int}, (∀ i ∈ is, 0 ≤ i ∧ i < (n : Int)) → runS nbr s is = runS nbr' s is
  | [], _, _ => rfl
  | i :: is, s, hi => by
    have := hi i List.mem_cons_self
    rw [run_cons, run_cons, sw_congr (h i.toNat (by omega)), run_congr h fun j hj => hi j (List.mem_cons_of_mem _ hj)]
theorem srt_nb {n : Nat} {ls : List Pr} : ∀ i : Nat, i < n → ∀ o, o ∈ nb ls (i : Int) ↔ o ∈ nb (sortP ls) (i : Int) := fun i _ o => (nb_perm (sortP_perm ls) (i : Int)).mem_iff.symm
theorem Eight.srt {n : Nat} {ls : List Pr} {t : List Int} {z a b c d e f g : Nat} (A : Eight n ls t z a b c d e f g) : Eight n (sortP ls) t z a b c d e f g :=
  have m : ∀ (i : Nat) (o : Int), o ∈ nb (sortP ls) (i : Int) ↔ o ∈ nb ls (i : Int) := fun i o => (nb_perm (sortP_perm ls) (i : Int)).mem_iff
  { A with nz := fun o h => A.nz o ((m z o).mp h), nc := fun o h => A.nc o ((m c o).mp h), ndd := fun o h => A.ndd o ((m d o).mp h), ne := fun o h => A.ne o ((m e o).mp h), zc := (m z _).mpr A.zc }
def spRight45 : Sp := fun vs H Q _ => ∃ (W : Addr) (a b c : Int) (wh : Bool), vs = [.ref W, .bl wh] ∧ H W = some (wl a b c) ∧ ∀ H', Ex (cut H [(W, wl a b c)]) H' → Q (.bl true) H'
section
variable {P : Program} {w : World} {K : PySem.W.Frag} {mg : Str → Option Value} {base : Heap} {C CS CC CT : Addr}
theorem ok_right {f : Addr} {fd : FuncData} (F : Fun K "_law_right" "_law_right" s__law_right f fd) (T : Txt mg) (NC : NetC K C) (c__law_take : Cal P w K mg base 1 "_law_take" ["_law_well_here", "_law_bound"] [] spTake) (c__law_mixed : Cal P w K mg base 2 "_law_mixed" ["_law_well_here", "_law_some"] [] (spMixed K))
    (c__law_near : Cal P w K mg base 1 "_law_near" ["_law_size", "_law_links"] [] spNear) (c_Network : Cnw P w K mg base 3 "Network" C ["self", "stations", "links"] (spInit C)) (c_greatest_channels : Cal P w K mg base 3 "greatest_channels" ["network"] [] (spGC C))
    (c__law_plays_right : Cal P w K mg base 4 "_law_plays_right" ["_law_well_here", "_law_near_here", "_law_middle"] [] spPlays) (c__law_ends : Cal P w K mg base 5 "_law_ends" ["_law_near_here", "_law_steps"] [] (spEnds K)) (c_schedule_low : Cal P w K mg base 7 "schedule_low" ["network", "station", "channel"] [] (spLow C CS CC))
    (k_greatest_reached_1_most : CalK P w K mg base 6 "greatest_reached" ["network", "most"] 1 ["most"] (fun vs zs => vs ++ zs) (spGR C CT))
    (m_NoChannel : mg "NoChannel" = some (.ref CC)) (XF_NoChannel : XfC K CC) (XN_NoChannel : PySem.W.findIn K (.ref CC) "channel" = some none) (te : PySem.W.exmOne K (.ref CC) (.ref CC) = some true) : FnOk P w K mg base CX0 8 f fd ["_law_well_here", "_law_is_whole"] spRight45 := by
  refine F.ok sc__law_right (fun vs H Q E h => ?_) (fun cdv A outer s H vs Q E hr h => ?_)
  · obtain ⟨W, a, b, c, wh, rfl, _⟩ := h
    rfl
  · obtain ⟨W, a, b, c, wh, rfl, hW, k⟩ := h
    have hu65 : ∀ X : Cx, X.A.units = (A.deeper (envOfC "_law_right" (defScope s__law_right) s.heap.objs.size f cdv)).units → X.A.units + 65 < cLine := fun X e => by rw [e]; have := hr.un; omega
    have S0 := Own.give (o := wl a b c) hW
    generalize cut H [(W, wl a b c)] = G at S0 k
    refine ⟨_, (pss_cons (ps_set (i := 2) sc__law_right.nd rfl (Or.inl rfl) (pe_op op_mul (pe_cal c__law_take (hr.mono (by first | decide | omega)) passN (pa_cons (pv 0) (pa_cons pe_int pa_nil))) (pe_callTy call_intN (by rfl) T.n_int (by decide +kernel) (pa_cons (pe_not (pv 1)) pa_nil))))
      (pss_cons (ps_set (i := 3) sc__law_right.nd rfl (Or.inr rfl) (pe_cal c__law_mixed (hr.mono (by first | decide | omega)) passN (pa_cons (pv 0) (pa_cons (pe_listRg rfl (by rfl) T.n_list (prg_1 (by rfl) T.n_range (pe_op op_add pe_int (pv 2)))) pa_nil))))
      (pss_cons (ps_set (i := 4) sc__law_right.nd rfl (Or.inl rfl) (pe_lst (pa_cons (pe_tup (pa_cons pe_int (pa_cons pe_int pa_nil))) (pa_cons (pe_tup (pa_cons pe_int (pa_cons pe_int pa_nil))) (pa_cons (pe_tup (pa_cons pe_int (pa_cons pe_int pa_nil))) (pa_cons (pe_tup (pa_cons pe_int (pa_cons pe_int pa_nil))) (pa_cons (pe_tup (pa_cons pe_int (pa_cons pe_int pa_nil))) (pa_cons (pe_tup (pa_cons pe_int (pa_cons pe_int pa_nil))) (pa_cons (pe_tup (pa_cons pe_int (pa_cons pe_int pa_nil))) (pa_cons (pe_tup (pa_cons pe_int (pa_cons pe_int pa_nil))) (pa_cons (pe_tup (pa_cons pe_int (pa_cons pe_int pa_nil))) pa_nil)))))))))))
      (pss_cons (ps_set (i := 4) sc__law_right.nd rfl (Or.inl rfl) (pe_op op_catL (pv 4) (pe_lc (own := [("_law_k", 11)]) (by rfl) sc__law_right.nd (pi_range2 (by rfl) T.n_range (pa_cons pe_int (pa_cons (pv 2) pa_nil))) (blkOk_by (own := [("_law_k", 11)]) (N := ["_law_well_here", "_law_is_whole", "_law_more", "_law_names", "_law_pairs", "_law_links", "_law_network", "_law_near_here", "_law_middle", "_law_table", "e", "_law_k", "_law_one", "_law_two"]) (sc := defScope s__law_right) (by decide +kernel)) (fun _ _ _ _ _ => (pg_name (i := 11) sc__law_right.nd rfl (Or.inl rfl))) (fun _ _ _ _ _ => pts_nil) (fun _ _ _ _ _ => (pe_tup (pa_cons (pe_op op_add pe_int (pv 11)) (pa_cons (pe_op op_add pe_int (pv 11)) pa_nil)))))))
      (pss_cons (ps_setLc (i := 5) (own := [("_law_one", 12), ("_law_two", 13)]) (by rfl) sc__law_right.nd rfl rfl (sw_true rfl rfl rfl (by decide +kernel)) (pi_list (pe_cal c__law_mixed (hr.mono (by first | decide | omega)) passN (pa_cons (pv 0) (pa_cons (pv 4) pa_nil)))) (blkOk_by (own := [("_law_one", 12), ("_law_two", 13)]) (N := ["_law_well_here", "_law_is_whole", "_law_more", "_law_names", "_law_pairs", "_law_links", "_law_network", "_law_near_here", "_law_middle", "_law_table", "e", "_law_k", "_law_one", "_law_two"]) (sc := defScope s__law_right) (by decide +kernel)) (fun _ _ _ _ _ => (pg_tupK (K := K) (n := 2) rfl (pgs_cons (pg_name (i := 12) sc__law_right.nd rfl (Or.inl rfl)) (pgs_cons (pg_name (i := 13) sc__law_right.nd rfl (Or.inl rfl)) pgs_nil)))) (fun _ _ _ _ _ => pts_nil) (fun _ _ _ _ _ => (pe_tup (pa_cons (pe_callB (call_minN rfl) (by rfl) T.n_min (by decide +kernel) (pa_cons (pe_ix (ix_listK (K := K)) (pv 3) (pv 12) (fun _ _ => rfl)) (pa_cons (pe_ix (ix_listK (K := K)) (pv 3) (pv 13) (fun _ _ => rfl)) pa_nil))) (pa_cons (pe_callB (call_maxN rfl) (by rfl) T.n_max (by decide +kernel) (pa_cons (pe_ix (ix_listK (K := K)) (pv 3) (pv 12) (fun _ _ => rfl)) (pa_cons (pe_ix (ix_listK (K := K)) (pv 3) (pv 13) (fun _ _ => rfl)) pa_nil))) pa_nil)))))
      (pss_cons (ps_par (i := 6) (j := 7) rfl sc__law_right.nd rfl rfl (by decide) rfl rfl (pa_cons (pe_new c_Network (hr.mono (by first | decide | omega)) passN (pa_cons (pe_op op_add pe_int (pv 2)) (pa_cons (pe_callTy call_listN (by rfl) T.n_list (by decide +kernel) (pa_cons (pv 5) pa_nil)) pa_nil))) (pa_cons (pe_cal c__law_near (hr.mono (by first | decide | omega)) passN (pa_cons (pe_op op_add pe_int (pv 2)) (pa_cons (pv 5) pa_nil))) pa_nil)) rfl)
      (pss_cons (ps_set (i := 8) sc__law_right.nd rfl (Or.inl rfl) (pe_ix ix_list (pv 3) pe_int (fun _ _ => rfl)))
      (pss_cons (ps_set (i := 9) sc__law_right.nd rfl (Or.inr rfl) (pe_cal c_greatest_channels (hr.mono (by first | decide | omega)) passN (pa_cons (pv 6) pa_nil)))
      (pss_cons (ps_if (PW.pt (pw_or (pt_cmpR (op_neD (Nat.lt_of_succ_lt (hu65 _ rfl))) (pe_lc (own := [("_law_k", 11)]) (by rfl) sc__law_right.nd (pi_range1 (by rfl) T.n_range (pa_cons pe_int pa_nil)) (blkOk_by (own := [("_law_k", 11)]) (N := ["_law_well_here", "_law_is_whole", "_law_more", "_law_names", "_law_pairs", "_law_links", "_law_network", "_law_near_here", "_law_middle", "_law_table", "e", "_law_k", "_law_one", "_law_two"]) (sc := defScope s__law_right) (by decide +kernel)) (fun _ _ _ _ _ => (pg_name (i := 11) sc__law_right.nd rfl (Or.inl rfl))) (fun _ _ _ _ _ => pts_nil) (fun _ _ _ _ _ => (pe_ix (ix_tupK (K := K)) (pv 9) (pe_ix (ix_listK (K := K)) (pv 3) (pv 11) (fun _ _ => rfl)) (fun _ _ => rfl)))) (pe_lst (pa_cons pe_int (pa_cons pe_int (pa_cons pe_int (pa_cons pe_int (pa_cons pe_int (pa_cons pe_int (pa_cons pe_int (pa_cons pe_int pa_nil))))))))) (nomark _)) (pw_or1 (pt_not (pt_val (pe_cal c__law_plays_right (hr.mono (by first | decide | omega)) passN (pa_cons (pv 0) (pa_cons (pv 7) (pa_cons (pv 8) pa_nil))))))))) (pss_one (ps_ret pe_bl)) pss_nil)
      (pss_cons (ps_if (pt_cmpR op_ne (pe_ix ix_tup (pe_cal c__law_ends (hr.mono (by first | decide | omega)) passN (pa_cons (pv 7) (pa_cons (pe_cal c_schedule_low (hr.mono (by first | decide | omega)) passN (pa_cons (pv 6) (pa_cons (pv 8) (pa_cons pe_int pa_nil)))) pa_nil))) (pv 8) (fun _ _ => rfl)) pe_int (nomark _)) (pss_one (ps_ret pe_bl)) pss_nil)
      (pss_cons (ps_try_as (i := 10) rfl rfl sc__law_right.nd rfl rfl ⟨rfl, by decide, Or.inl m_NoChannel⟩ takes0 (fun W pn xe tk _ => (pss_cons (ps_expr (pe_calS c_schedule_low (hr.mono (by first | decide | omega)) (fun σ => passAt tk σ) (pa_cons (pv 6) (pa_cons (pv 8) (pa_cons pe_int pa_nil)))))
      (pss_one (ps_ret pe_bl)))) (fun a oe cls d pn hz hf => (pss_one (ps_if (pt_cmpR op_ne (pe_xf XF_NoChannel XN_NoChannel hz hf (pv 10)) pe_int (nomark _)) (pss_one (ps_ret pe_bl)) pss_nil))))
      (pss_one (ps_ret (pe_or (pe_not (pv 1)) (pe_one (pe_cmpR op_eq (pe_ix ix_tup (pe_calK k_greatest_reached_1_most (hr.mono (by first | decide | omega)) passN (pa_cons (pv 6) pa_nil) (pk_cons (pe_op op_pow pe_int pe_int) pk_nil)) (pv 8) (fun _ _ => rfl)) pe_int (nomark _))))))))))))))))), ?_⟩
    walk_at "go"
    refine n_take S0 ⟨by omega, by omega⟩ fun r1 a1 b1 c1 H1 h10 h11 S1 => ?_
    obtain ⟨m, hm, hm4, hmw⟩ : ∃ m : Nat, r1 * (if (!wh) = true then 1 else 0) = (m : Int) ∧ m ≤ 4 ∧ (wh = true → m = 0) := by
      cases wh with
      | true => exact ⟨0, by simp, by decide, fun _ => rfl⟩
      | false => exact ⟨r1.toNat, by simp; omega, by omega, fun z => by cases z⟩
    walk_at "go"
    refine g_I (.inl ⟨by omega, by omega⟩) ?_
    rw [hm]
    walk_at "go"
    rw [show (8 : Int) + (m : Int) = ((8 + m : Nat) : Int) by omega]
    refine n_rgG S1 (by omega) fun rp G2 H2 _ e2 _ hrp S2 => ?_
    rw [rgV_eq] at hrp
    walk_at "go"
    refine n_mixed S2 (SqL.of hrp) (data_ints K _ _) (by rw [List.length_map]; unfold rgI; rw [List.length_map, List.length_range]; omega) fun nys nq H3 a3 b3 c3 hnp _ S3 => ?_
    obtain ⟨ns, rfl, hperm⟩ := ints_perm hnp
    have hns := names_of (n := 8 + m) hperm rfl
    obtain ⟨S4, e4, hnq⟩ := S3.swap.freeze
    generalize upd G2 nq (.lst (ns.map V.int)) = G4 at S4 e4 hnq
    walk_at "go"
    refine n_tup S4 (by show 2 ≤ 10000000; decide) fun u0 J0 I0 _ f0 g0 hu0 T0 => ?_
    walk_at "go"
    refine n_tup T0 (by show 2 ≤ 10000000; decide) fun u1 J1 I1 _ f1 g1 hu1 T1 => ?_
    walk_at "go"
    refine n_tup T1 (by show 2 ≤ 10000000; decide) fun u2 J2 I2 _ f2 g2 hu2 T2 => ?_
    walk_at "go"
    refine n_tup T2 (by show 2 ≤ 10000000; decide) fun u3 J3 I3 _ f3 g3 hu3 T3 => ?_
    walk_at "go"
    refine n_tup T3 (by show 2 ≤ 10000000; decide) fun u4 J4 I4 _ f4 g4 hu4 T4 => ?_
    walk_at "go"
    refine n_tup T4 (by show 2 ≤ 10000000; decide) fun u5 J5 I5 _ f5 g5 hu5 T5 => ?_
    walk_at "go"
    refine n_tup T5 (by show 2 ≤ 10000000; decide) fun u6 J6 I6 _ f6 g6 hu6 T6 => ?_
    walk_at "go"
    refine n_tup T6 (by show 2 ≤ 10000000; decide) fun u7 J7 I7 _ f7 g7 hu7 T7 => ?_
    walk_at "go"
    refine n_tup T7 (by show 2 ≤ 10000000; decide) fun u8 J8 I8 _ f8 g8 hu8 T8 => ?_
    walk_at "go"
    refine n_lstG T8 (by show 9 ≤ 10000000; decide) fun p9 G9 H9 _ e9 _ hp9 S9 => ?_
    have e49 : Ex G4 G9 := f0.trans (f1.trans (f2.trans (f3.trans (f4.trans (f5.trans (f6.trans (f7.trans (f8.trans e9))))))))
    have hl9 : Lks G9 [.ref u0, .ref u1, .ref u2, .ref u3, .ref u4, .ref u5, .ref u6, .ref u7, .ref u8] [(0, 1), (0, 2), (0, 3), (0, 4), (0, 5), (3, 4), (4, 5), (5, 6), (5, 7)] :=
      .cons ⟨u0, rfl, e9 _ _ (f8 _ _ (f7 _ _ (f6 _ _ (f5 _ _ (f4 _ _ (f3 _ _ (f2 _ _ (f1 _ _ hu0))))))))⟩ (.cons ⟨u1, rfl, e9 _ _ (f8 _ _ (f7 _ _ (f6 _ _ (f5 _ _ (f4 _ _ (f3 _ _ (f2 _ _ hu1)))))))⟩
      (.cons ⟨u2, rfl, e9 _ _ (f8 _ _ (f7 _ _ (f6 _ _ (f5 _ _ (f4 _ _ (f3 _ _ hu2))))))⟩ (.cons ⟨u3, rfl, e9 _ _ (f8 _ _ (f7 _ _ (f6 _ _ (f5 _ _ (f4 _ _ hu3)))))⟩ (.cons ⟨u4, rfl, e9 _ _ (f8 _ _ (f7 _ _ (f6 _ _ (f5 _ _ hu4))))⟩
      (.cons ⟨u5, rfl, e9 _ _ (f8 _ _ (f7 _ _ (f6 _ _ hu5)))⟩ (.cons ⟨u6, rfl, e9 _ _ (f8 _ _ (f7 _ _ hu6))⟩ (.cons ⟨u7, rfl, e9 _ _ (f8 _ _ hu7)⟩ (.cons ⟨u8, rfl, e9 _ _ hu8⟩ .nil))))))))
    generalize hxs9 : [V.ref u0, V.ref u1, V.ref u2, V.ref u3, V.ref u4, V.ref u5, V.ref u6, V.ref u7, V.ref u8] = xs9 at hp9 hl9
    have hx9 : xs9.length = 9 := by rw [← hxs9]; rfl
    walk_at "go"
    refine v_rng2 (lo := 1) (j := (m : Int)) (fun i acc G' L' => L' = [(W, wl a3 b3 c3)] ∧ Lks G' acc (((List.range i).map fun (i : Nat) => (1 : Int) + (i : Int)).map fun k => (7 + k, 8 + k))) S9 ⟨by omega, by omega, by omega, by omega⟩ ⟨rfl, .nil⟩ ?_ ?_
    · rintro D i acc G' L' H' hi hi' e' hl' ⟨rfl, ha⟩ S'
      walk_at "go"
      refine ⟨rfl, ?_⟩
      walk_at "go"
      refine n_tup S' (by show 2 ≤ 10000000; decide) fun t G3 H3 _ e3 _ ht S3 => ?_
      refine c_yes S3 (e'.trans e3) hl' hi' ⟨rfl, ?_⟩
      rw [List.range_succ, List.map_append, List.map_append]
      exact pr_snoc (ha.mono e3) ⟨t, rfl, ht⟩
    rintro p10 acc10 G10 L10 H10 e10 _ ⟨rfl, ha10⟩ S10
    have hal := pr_len ha10
    rw [List.length_map, List.length_map, List.length_range] at hal
    walk_at "go"
    refine n_catG S10 (SqL.of (S10.ex _ _ (e10 _ _ hp9))) (SqL.of S10.get0) (by omega) fun p11 G11 H11 _ e11 _ hp11 S11 => ?_
    have hl11 : Lks G11 (xs9 ++ acc10) (P45 m) := pr_app (hl9.mono (e10.trans e11)) (ha10.mono e11)
    have S11 := S11.forget
    walk_at "go"
    refine n_mixed S11 (SqL.of hp11) (data_lks hl11) (by rw [List.length_append]; omega) fun ys12 q12 H12 a12 b12 c12 hpm _ S12 => ?_
    obtain ⟨qs, hqs, hpq⟩ := lks_perm hl11 hpm
    obtain ⟨S13, e13, hq13⟩ := S12.swap.freeze
    have hqs := hqs.mono e13
    generalize upd G11 q12 (.lst ys12) = G13 at S13 e13 hq13 hqs
    have e413 : Ex G4 G13 := e49.trans (e10.trans (e11.trans e13))
    have okq : Okl (8 + m) qs := fun q hq => p45_ok m hm4 q (hpq.mem_iff.mp hq)
    have ndq : qs.Nodup := hpq.nodup_iff.mpr (p45_nd m hm4)
    have hql : qs.length ≤ 100 := by
      rw [hpq.length_eq]
      unfold P45
      rw [List.length_append, List.length_map]
      unfold rgI
      rw [List.length_map, List.length_range]
      show 9 + _ ≤ 100
      omega
    refine v_list (xs := ys12) (fun i acc G' L' => L' = [(W, wl a12 b12 c12)] ∧ Lks G' acc (renL ns (qs.take i))) S13 (SqL.of hq13) (by rw [pr_len hqs]; omega) ⟨rfl, .nil⟩ ?_ ?_
    · rintro D i x acc G' L' H' hx hi e' hl' ⟨rfl, ha⟩ S'
      obtain ⟨q, hq, t, rfl, ht⟩ := pr_get hqs hx
      have hqr := okq q (List.mem_of_getElem? hq)
      refine s_gtup (SqT.of (S'.ex _ _ (e' _ _ ht))) rfl ?_
      walk_at "go"
      refine ⟨rfl, ?_⟩
      have q1 := SqL.of (K := K) (S'.ex _ _ (e' _ _ (e413 _ _ hnq)))
      have hl1 := hns.1
      walk_at "go"
      refine g_ixL q1 (at_tv (by omega) (by omega)) ?_
      walk_at "go"
      refine g_ixL q1 (at_tv (by omega) (by omega)) ?_
      walk_at "go"
      refine g_ixL q1 (at_tv (by omega) (by omega)) ?_
      walk_at "go"
      refine g_ixL q1 (at_tv (by omega) (by omega)) ?_
      walk_at "go"
      refine n_tup S' (by show 2 ≤ 10000000; decide) fun t G3 H3 _ e3 _ ht S3 => ?_
      refine c_yes S3 (e'.trans e3) hl' hi ⟨rfl, ?_⟩
      rw [take_snoc hq]
      unfold renL
      rw [List.map_append]
      exact pr_snoc (ha.mono e3) ⟨t, rfl, ht⟩
    rintro p14 acc14 G14 L14 H14 e14 _ ⟨rfl, ha14⟩ S14
    rw [pr_len hqs, List.take_length] at ha14
    have okl := ren_ok hns okq
    have ndl := ren_nd hns okq ndq
    have hll : (renL ns qs).length ≤ 10000 := by rw [ren_len]; omega
    obtain ⟨S15, e15, hp15⟩ := S14.freeze
    have ha15 := ha14.mono e15
    generalize upd G14 p14 (.lst acc14) = G15 at S15 e15 hp15 ha15
    walk_at "go"
    rw [show (8 : Int) + (m : Int) = ((8 + m : Nat) : Int) by omega]
    refine n_list S15 (SqL.of (S15.ex _ _ hp15)) fun p16 H16 _ S16 => ?_
    walk_at "go"
    refine n_net (n := 8 + m) S16 S16.get0 (ha15.mono S16.ex) okl ndl ⟨by omega, by omega⟩ hll fun x17 G17 H17 _ e17 _ S17 N17 => ?_
    have S17 := S17.forget
    walk_at "go"
    rw [show (8 : Int) + (m : Int) = ((8 + m : Nat) : Int) by omega]
    refine n_near (n := 8 + m) S17 (S17.ex _ _ (e17 _ _ hp15)) (ha15.mono (e17.trans S17.ex)) okl (by omega) hll fun np G18 H18 _ e18 _ S18 NA => ?_
    walk_at "go"
    have e418 : Ex G4 G18 := e413.trans (e14.trans (e15.trans (e17.trans e18)))
    have hl1 := hns.1
    refine g_ixL (SqL.of (S18.ex _ _ (e418 _ _ hnq))) (i := 0) (at_tv (by omega) (by omega)) ?_
    walk_at "go"
    refine n_gc S18 (N17.mono e18) fun t p19 G19 H19 ht _ e19 _ hp19 S19 => ?_
    obtain ⟨tt, A8⟩ := eight_of hm4 hperm hpq (ht.perm (sortP_perm _))
    have A8 := A8.srt
    have NF := N17.netF ht
    have rz := hns.rng (j := 0) (by omega) (by omega)
    obtain ⟨z, hz, hzn⟩ : ∃ z : Nat, tv ns 0 = (z : Int) ∧ z < 8 + m := ⟨(tv ns 0).toNat, by omega, by omega⟩
    have hzz : (tv ns 0).toNat = z := by omega
    rw [hzz] at A8
    rw [hz]
    have n6 : ∀ s, Rch (nb (renL ns qs)) (8 + m) s → tv s (z : Int) ≤ 5 := fun s hs => (NF.never6 A8 (hs.congr srt_nb)).2
    have htl := ht.1
    walk_at "go"
    refine v_rng1 (j := 8) (fun i acc G' L' => L' = [(W, wl a12 b12 c12)] ∧ acc = ((List.range i).map fun (k : Nat) => tv [6, 2, 2, 3, 4, 5, 2, 2] (k : Int)).map V.int) S19 ⟨by decide, by decide⟩ ⟨rfl, rfl⟩ ?_ ?_
    · rintro D i acc G' L' H' hi hi' e' hl' ⟨rfl, rfl⟩ S'
      have hi8 : i < 8 := by omega
      have ri := hns.rng (j := (i : Int)) (by omega) (by omega)
      walk_at "go"
      refine ⟨rfl, ?_⟩
      walk_at "go"
      refine g_ixL (SqL.of (S'.ex _ _ (e' _ _ (e19 _ _ (e418 _ _ hnq))))) (at_tv (by omega) (by omega)) ?_
      refine g_ixT (SqT.of (S'.ex _ _ (e' _ _ hp19))) (at_tv ri.1 (by omega)) ?_
      refine c_yes S' e' hl' hi' ⟨rfl, ?_⟩
      rw [List.range_succ, List.map_append, List.map_append, tt i hi8] <;> rfl
    rintro p20 acc20 G20 L20 H20 e20 _ ⟨rfl, rfl⟩ S20
    walk_at "go"
    refine n_lst S20 (by show 8 ≤ 10000000; decide) fun p21 H21 _ S21 => ?_
    refine n_neIL (ms := [6, 2, 2, 3, 4, 5, 2, 2]) (SqL.of S21.get1) (SqL.of S21.get0) ?_
    walk_at "go"
    refine if_ff (ntrue (by decide +kernel)) ?_
    have S21 := S21.forget.forget
    have e1820 : Ex G18 G20 := e19.trans e20
    walk_at "go"
    refine n_plays S21 (NA.mono e1820) okl hll ⟨by omega, by omega⟩ hzn n6 fun H22 S22 => ?_
    walk_at "go"
    have N20 := (N17.mono e18).mono e1820
    have h6 : tv t (z : Int) = 6 := A8.tz
    obtain ⟨hrun, _, hrng⟩ := NF.low hzn (c := 5) (by decide) (by decide) (by omega)
    refine ⟨x17, 8 + m, _, _, _, rfl, N20.mono S22.ex, .inr ⟨z, rfl, hzn, fun t' ht' => .inr ⟨5, rfl, by
      cases TabF.uniq N20.ok ht ht'
      omega, n_retG S22 fun p23 G23 H23 _ e23 _ hp23 S23 => ?_⟩⟩⟩
    cases TabF.uniq N20.ok ht ht'
    walk_at "go"
    have e1823 : Ex G18 G23 := e1820.trans e23
    refine n_ends S23 (NA.mono e1823) okl hll ⟨by omega, by omega⟩ (SqL.of (S23.ex _ _ hp23)) hrng fun r24 G24 H24 e24 _ hr24 S24 => ?_
    rw [run_congr srt_nb hrng, ← mk_zero, hrun] at hr24
    walk_at "go"
    refine g_ixT (SqT.of (S24.ex _ _ hr24)) (at_tv (by omega) (by rw [mk_len]; omega)) ?_
    walk_at "go"
    rw [tv_mk hzn]
    refine if_ff (ntrue (by unfold upS; rw [if_pos rfl])) ?_
    walk_at "go"
    have N24 := N20.mono (e23.trans e24)
    refine g_calS ?_
    walk_at "go"
    refine ⟨x17, 8 + m, _, _, _, rfl, N24.mono S24.ex, .inr ⟨z, rfl, hzn, fun t' ht' => .inl ⟨⟨"int", .int 6, fun _ => ⟨6, rfl, by omega⟩⟩, fun d H25 e25 hd => n_as te fun a0 _ => ?_⟩⟩⟩
    walk_at "go"
    refine g_xf ?_
    walk_at "go"
    refine n_xf hd ?_
    walk_at "go"
    refine if_ff (ntrue rfl) ?_
    walk_at "go"
    have S25 := S24.grow e25
    have eall : Ex G G24 := e2.trans (e4.trans (e418.trans (e1823.trans e24)))
    cases wh with
    | false =>
      walk_at "go"
      exact k _ (eall.trans S25.ex)
    | true =>
      obtain rfl := hmw rfl
      obtain ⟨B, hB, hBl⟩ := bfs45 hperm hpq
      walk_at "go"
      refine g_I ⟨by decide, by decide, by decide⟩ ?_
      walk_at "go"
      refine ⟨rfl, rfl, x17, 8, _, _, B, rfl, N24.mono S25.ex, hB, by omega, fun _ g hg => n_retG S25 fun p26 G26 H26 _ e26 _ hp26 S26 => ?_, fun z => absurd z (by show ¬ ((10 : Int) ^ 5 < _); omega)⟩
      walk_at "go"
      obtain ⟨hgl, hgm⟩ := hg
      refine g_ixT (SqT.of (S26.ex _ _ hp26)) (at_tv (by omega) (by omega)) ?_
      walk_at "go"
      obtain ⟨⟨e, he, hev⟩, hmax⟩ := hgm z hzn
      have up := (NF.never6 A8 (hB.okk.rch e he)).2
      have rr := (Rch.zero (nbr := nb (sortP (renL ns qs))) (n := 8)).run hrng
      rw [← mk_zero, hrun] at rr
      obtain ⟨e', he', hes⟩ := List.mem_map.mp ((hB.all _).mpr rr)
      have lo := hmax e' he'
      rw [hes, tv_mk hzn] at lo
      have : upS zeroS z 5 z = 5 := by unfold upS; rw [if_pos rfl]
      rw [dtrue (show tv g (z : Int) = 5 by omega)]
      exact k _ (eall.trans (e26.trans S26.ex))
end
end NX

namespace NX
open PySem PySem.Spec PyProof.Rows L2
/-! ### f() -/
theorem pe_cal0 {X : Cx} {k : Nat} {sp : Sp} {E : XK} {x : Str} {p pos : Pos} (C : Cal X.prog X.w X.K X.mg X.base k x [] [] sp) (hr : Room k X.A) (hx : Passes (L2.CX X.prog X.w) X E) (hg : Gl X x := by rfl) (hdb : (x == ("__debug__" : Str)) = false := by decide) : PE X (.Call (.Name x p) [] [] pos) (tCal sp E tNil) := by
  obtain ⟨f, fd, ds, F, hm, hk, hb, hd⟩ := C
  cases hd
  have q : PE X (.Call (.Name x p) [] [] pos) (tCall sp [] E tNil) := pe_call0 F hr hg hm hk hb .nil hx hdb
  refine ⟨fun pins s σ H Q I h => q.run pins s σ H Q I ?_⟩
  have e : (fun (vs : List V) (H1 : Hp) => sp (vs ++ []) H1 Q E) = (fun vs H1 => sp vs H1 Q E) := by
    funext vs H1
    rw [List.append_nil]
  show tNil σ H fun vs H1 => sp (vs ++ []) H1 Q E
  rw [e]
  exact h
end NX

namespace NX
open PySem PySem.Spec PyProof.Rows L2
open Evl (Ex ex_l ex_t fresh_back)
abbrev s_law : Stmt := top 38
theorem sc_law : FnScope ["_law_script", "_law_turn", "_law_cell"] ["_law_script"] (defScope s_law) := ⟨rfl, rfl, rfl, by decide +kernel, rfl, by decide +kernel, by decide +kernel⟩
def spLaw (K : PySem.W.Frag) : Sp := fun vs H Q _ => ∃ (a : Addr) (ns : List Int), vs = [.ref a] ∧ SqL K H a (ns.map V.int) ∧ ns.length ≤ 63 ∧ ∀ H', Q (.bl true) H'
section
variable {P : Program} {w : World} {K : PySem.W.Frag} {mg : Str → Option Value} {base : Heap} {C CS CC CT : Addr}
theorem ok_law {f : Addr} {fd : FuncData} (F : Fun K "law" "law" s_law f fd) (T : Txt mg) (c__law_well : Cal P w K mg base 1 "_law_well" ["_law_cell", "_law_turn"] [] spWell)
    (c__law_right : Cal P w K mg base 9 "_law_right" ["_law_well_here", "_law_is_whole"] [] spRight45) (c__law_complete_right : Cal P w K mg base 8 "_law_complete_right" [] [] spDone) : FnOk P w K mg base CX0 10 f fd ["_law_script"] (spLaw K) := by
  refine F.ok sc_law (fun vs H Q E h => ?_) (fun cdv A outer s H vs Q E hr h => ?_)
  · obtain ⟨a, ns, rfl, _⟩ := h
    rfl
  · obtain ⟨a, ns, rfl, hS, hn, k⟩ := h
    refine ⟨_, (pss_cons (ps_if (PW.pt (pw_and (pt_cmpR op_eq (pe_op op_mod (pe_ix ix_list (pe_op op_catL (pv 0) (pe_lst (pa_cons pe_int pa_nil))) pe_int (fun _ _ => rfl)) pe_int) pe_int (nomark _)) (pw_and1 (pt_not (pt_val (pe_cal0 c__law_complete_right (hr.mono (by first | decide | omega)) passN)))))) (pss_one (ps_ret pe_bl)) pss_nil)
      (pss_cons (ps_for PassesOwn.never rfl (pi_enum (by rfl) T.n_enumerate (pa_cons (pe_slice sl_list (pe_op op_catL (pv 0) (pe_lst (pa_cons pe_int pa_nil))) po_none (po_some pe_int)) pa_nil)) (pg_tup (n := 2) rfl (pgs_cons (pg_name (i := 1) sc_law.nd rfl (Or.inl rfl)) (pgs_cons (pg_name (i := 2) sc_law.nd rfl (Or.inl rfl)) pgs_nil))) (pss_one (ps_if (pt_not (pt_val (pe_cal c__law_right (hr.mono (by first | decide | omega)) passN (pa_cons (pe_cal c__law_well (hr.mono (by first | decide | omega)) passN (pa_cons (pv 2) (pa_cons (pv 1) pa_nil))) (pa_cons (pe_and (pe_cmpR op_eq (pv 1) pe_int (nomark _)) (pe_one (pe_cmpR op_eq (pe_op op_mod (pv 2) pe_int) pe_int (nomark _)))) pa_nil))))) (pss_one (ps_ret pe_bl)) pss_nil)))
      (pss_one (ps_ret pe_bl)))), ?_⟩
    refine s_seq ?_
    refine s_join (fun σ2 H2 => (∃ x1 x2, σ2 = [some (.ref a), x1, x2]) ∧ Own H [] H2) ?_ (fun n' hn' => ?_)
    · rintro σ2 H3 ⟨⟨x1, x2, rfl⟩, S3⟩
      walk_at "go"
      refine n_lstG S3 (by decide) fun p4 G4 H4 _ e4 _ hp4 S4 => ?_
      walk_at "go"
      refine n_catG S4 (S4.sl (ex_l e4 hS)) (SqL.of (S4.ex _ _ hp4)) (by rw [List.length_map]; simp; omega) fun q5 G5 H5 _ e5 _ hq5 S5 => ?_
      walk_at "go"
      refine n_sl S5 (SqL.of (S5.ex _ _ hq5)) fun t G6 H6 _ e6 _ ht S6 => ?_
      have hc : cutV (ns.map V.int ++ [.int 1]) none (some ((3 : Nat) : Int)) = ((ns ++ [1]).take 3).map V.int := by
        rw [cutV_to, List.map_take, List.map_append] <;> rfl
      have ht : G6 t = some (.lst (((ns ++ [1]).take 3).map V.int)) := ht.trans (by rw [← hc] <;> rfl)
      walk_at "go"
      refine w_enum (fun i σ' H' => (∃ x1 x2, σ' = [some (.ref a), x1, x2]) ∧ Own G6 [] H') (SqL.of (S6.ex _ _ ht)) ⟨⟨_, _, rfl⟩, S6⟩ (fun i σ' H' h => SqL.of (h.2.ex _ _ ht)) ?_ ?_
      · rintro i x T' σ' H' hx ⟨⟨x1, x2, rfl⟩, S⟩ hT
        obtain ⟨z, _, rfl⟩ := get_map hx
        have S7 := S.grow (Ex.new (o := .tup [.int (i : Int), .int z]) hT)
        refine s_gtup (SqT.of upd_same) rfl ?_
        walk_at "go"
        refine ⟨_, _, rfl, fun a5 b5 c5 => n_retO S7 rfl fun W H8 _ _ S8 => ?_⟩
        walk_at "go"
        have fin : ∀ (b : Bool) (Q' : VK), (∀ H', Ex (cut H8 [(W, wl a5 b5 c5)]) H' → Q' (.bl true) H') → spRight45 [.ref W, .bl b] H8 Q' E0 := fun b Q' q => ⟨W, _, _, _, b, rfl, S8.get0, q⟩
        refine if_2 (fun c => ?_) (fun c => ?_)
        · walk_at "go"
          refine g_I (by decide) ?_
          walk_at "go"
          refine fin _ _ fun H9 e9 => ?_
          walk_at "go"
          exact ⟨⟨_, _, rfl⟩, (Own.start G6).grow (S8.keep.trans e9)⟩
        · walk_at "go"
          refine fin _ _ fun H9 e9 => ?_
          walk_at "go"
          exact ⟨⟨_, _, rfl⟩, (Own.start G6).grow (S8.keep.trans e9)⟩
      · rintro σ' H' ⟨⟨x1, x2, rfl⟩, S7⟩
        walk_at "go"
        exact k _
    · walk_at "go"
      refine n_lstG (Own.start H) (by decide) fun p G1 H1 _ e1 _ hp S1 => ?_
      walk_at "go"
      refine n_catG S1 (S1.sl (ex_l e1 hS)) (SqL.of (S1.ex _ _ hp)) (by rw [List.length_map]; simp; omega) fun q G2 H2 _ e2 _ hq S2 => ?_
      obtain ⟨z0, hz0⟩ : ∃ z : Int, atI (ns.map V.int ++ [V.int 1]) 0 = some (.int z) := by
        cases ns with
        | nil => exact ⟨1, rfl⟩
        | cons y ys => exact ⟨y, atI_nat (xs := (y :: ys).map V.int ++ [V.int 1]) (j := 0) (v := V.int y) rfl⟩
      walk_at "go"
      refine g_ixL (SqL.of (S2.ex _ _ hq)) hz0 ?_
      walk_at "go"
      refine g_I (by decide) ?_
      walk_at "go"
      refine if_2 (fun c => ?_) (fun c => ?_)
      · walk_at "go"
        refine ⟨rfl, fun H3 e3 => ?_⟩
        walk_at "go"
        exact hn' _ _ ⟨⟨_, _, rfl⟩, (Own.start H).grow ((e1.trans e2).trans (S2.ex.trans e3))⟩
      · walk_at "go"
        exact hn' _ _ ⟨⟨_, _, rfl⟩, (Own.start H).grow ((e1.trans e2).trans S2.ex)⟩
end
end NX

namespace NX
open PySem PySem.Spec PyProof.Rows L2
section
variable {P : Program} {w : World} {K : PySem.W.Frag} {mg : Str → Option Value} {base : Heap}
theorem mkCal {x : Str} {f : Addr} {fd : FuncData} {k : Nat} {ps : List Str} {sp : Sp} (F : FnOk P w K mg base (L2.CX P w) k f fd ps sp) (g : mg x = some (.ref f)) (kp : PySem.W.keepIn K (.ref f) = true) (b : Binds K fd ps []) : Cal P w K mg base k x ps [] sp := ⟨f, fd, [], F, g, kp, b, .nil⟩
/-- how a plain def binds keywords -/
theorem fun_kbn {x qual : Str} {st : Stmt} {f : Addr} {fd : FuncData} {ps ks : List Str} {n : Nat} {g : List Value → List Value → List Value} {gV : List V → List V → List V} (F : Fun K x qual st f fd)
    (hrel : ∀ {vs : List V} {us : List Value} {zs : List V} {ws : List Value}, Vals vs us → Vals zs ws → Vals (gV vs zs) (g us ws))
    (h : ∀ (kV doc pm : Value) (an : Option Addr) (cdv ct : Value) (us ws : List Value), us.length = n → ws.length = ks.length → bindArgs (PySem.W.fnOf x qual (defArgs st) (defBody st) (defScope st) .none kV doc pm an cdv ct) ⟨us, ks.zip ws⟩ = pure (ps.zip (g us ws))) : KBn K fd ps n ks g gV := by
  obtain ⟨oc, od, kV, doc, pm, an, cdv, ct, osl, rfl, lk, hcd⟩ := F.ex
  exact ⟨fun s us ws _ h1 h2 => .of_eq (h kV doc pm an cdv ct us ws h1 h2), hrel⟩
theorem mkCalK {x : Str} {f : Addr} {fd : FuncData} {k n : Nat} {ps ks : List Str} {g : List Value → List Value → List Value} {gV : List V → List V → List V} {sp : Sp} (F : FnOk P w K mg base (L2.CX P w) k f fd ps sp) (hm : mg x = some (.ref f)) (kp : PySem.W.keepIn K (.ref f) = true) (b : KBn K fd ps n ks g gV) :
    CalK P w K mg base k x ps n ks gV sp := ⟨f, fd, g, F, hm, kp, b⟩
theorem walk {l : PySem.W.OpenLaw} {q : Program} {loose : List Str} {XP : (Str → Option Value) → Heap → Prop} {YP : World → Heap → Prop} {d : DefRec} {K : Params → PySem.W.Frag} {k : Nat} (hn : l.most = some 63) (hdf : d.params.defaults = []) (hr : Room k callerA)
    (hY : ∀ (w : World) (h : Heap), YP w h → (K w.params).In h) {sp : PySem.W.Frag → Sp}
    (F : ∀ (w : World) (mg : Str → Option Value) (fa : Addr) (h : Heap), (K w.params).In h → h.Ns mainGlobals mg → mg d.name = some (.ref fa) →
      ∃ fd : FuncData, (∀ (s : Shared) (u : Value), BindsTo s fd ⟨[u], []⟩ [("_law_script", u)]) ∧ ∀ base : Heap, (K w.params).In base → base.Ns mainGlobals mg → FnOk l.prog w (K w.params) mg base CX0 k fa fd ["_law_script"] (sp (K w.params)))
    (hsp : ∀ (K : PySem.W.Frag) (H : Hp) (a : Addr) (ns : List Int), ns.length ≤ 63 → SqL K H a (ns.map V.int) → sp K [.ref a] H (fun v _ => v = .bl true) fun _ _ _ => False) :
    PySem.W.WalkO q loose XP YP l.row.toRowW d [] (fun f vs => PySem.call f vs) :=
  L2.walk_of (n := 63) (k := k) (x := "_law_script") (CX := fun _ => CX0) (sp := fun w => sp (K w.params)) hn (by decide) hdf hr hY F (fun w _ a ns hl _ hS => hsp (K w.params) _ a ns hl hS) fun _ _ _ _ _ z => z
end
end NX


namespace NX
open PySem PySem.Spec PyProof.Rows L2
theorem all_mk {l : PySem.W.OpenLaw} {w : World} {K : PySem.W.Frag} {h : Heap} {mg : Str → Option Value} {fa f_is_int f_is_link f_all_off f_after f_first_steps f_chain f_greatest_channels f_others f_to_three f_to_four f_beside_two f_to_five f_schedule_low f__law_well f__law_take f__law_mixed f__law_near f__law_switched f__law_ends f__law_plays_right f__law_right f__law_complete_right f_law f_greatest_reached D_greatest_reached C f_M_init f_M_len f_M_neighbours f_M_check_station C0 C_NoStation f_I_NoStation C_NoChannel f_I_NoChannel C_TooMany f_I_TooMany : Addr} (X : K.In h) (G : h.Ns mainGlobals mg) (hfa : mg "law" = some (.ref fa))
    {od_is_int an_is_int od_is_link an_is_link od_all_off an_all_off od_after an_after od_first_steps an_first_steps od_chain an_chain od_greatest_channels an_greatest_channels od_others an_others od_to_three an_to_three od_to_four an_to_four od_beside_two an_beside_two od_to_five an_to_five od_schedule_low an_schedule_low od__law_well an__law_well od__law_take an__law_take od__law_mixed an__law_mixed od__law_near an__law_near od__law_switched an__law_switched od__law_ends an__law_ends od__law_plays_right an__law_plays_right od__law_right an__law_right od__law_complete_right an__law_complete_right od_law an_law od_greatest_reached an_greatest_reached od_M_init an_M_init od_M_len an_M_len od_M_neighbours an_M_neighbours od_M_check_station an_M_check_station od_I_NoStation an_I_NoStation od_I_NoChannel an_I_NoChannel od_I_TooMany an_I_TooMany : Option Addr} {sl_is_int sl_is_link sl_all_off sl_after sl_first_steps sl_chain sl_greatest_channels sl_others sl_to_three sl_to_four sl_beside_two sl_to_five sl_schedule_low sl__law_well sl__law_take sl__law_mixed sl__law_near sl__law_switched sl__law_ends sl__law_plays_right sl__law_right sl__law_complete_right sl_law sl_greatest_reached sl_M_init sl_M_len sl_M_neighbours sl_M_check_station sl_I_NoStation sl_I_NoChannel sl_I_TooMany : Array (Option Value)} {oc_is_int dc_is_int pm_is_int cd_is_int ct_is_int kV_is_int oc_is_link dc_is_link pm_is_link cd_is_link ct_is_link kV_is_link oc_all_off dc_all_off pm_all_off cd_all_off ct_all_off kV_all_off oc_after dc_after pm_after cd_after ct_after kV_after oc_first_steps dc_first_steps pm_first_steps cd_first_steps ct_first_steps kV_first_steps oc_chain dc_chain pm_chain cd_chain ct_chain kV_chain oc_greatest_channels dc_greatest_channels pm_greatest_channels cd_greatest_channels ct_greatest_channels kV_greatest_channels oc_others dc_others pm_others cd_others ct_others kV_others oc_to_three dc_to_three pm_to_three cd_to_three ct_to_three kV_to_three oc_to_four dc_to_four pm_to_four cd_to_four ct_to_four kV_to_four oc_beside_two dc_beside_two pm_beside_two cd_beside_two ct_beside_two kV_beside_two oc_to_five dc_to_five pm_to_five cd_to_five ct_to_five kV_to_five oc_schedule_low dc_schedule_low pm_schedule_low cd_schedule_low ct_schedule_low kV_schedule_low oc__law_well dc__law_well pm__law_well cd__law_well ct__law_well kV__law_well oc__law_take dc__law_take pm__law_take cd__law_take ct__law_take kV__law_take oc__law_mixed dc__law_mixed pm__law_mixed cd__law_mixed ct__law_mixed kV__law_mixed oc__law_near dc__law_near pm__law_near cd__law_near ct__law_near kV__law_near oc__law_switched dc__law_switched pm__law_switched cd__law_switched ct__law_switched kV__law_switched oc__law_ends dc__law_ends pm__law_ends cd__law_ends ct__law_ends kV__law_ends oc__law_plays_right dc__law_plays_right pm__law_plays_right cd__law_plays_right ct__law_plays_right kV__law_plays_right oc__law_right dc__law_right pm__law_right cd__law_right ct__law_right kV__law_right oc__law_complete_right dc__law_complete_right pm__law_complete_right cd__law_complete_right ct__law_complete_right kV__law_complete_right oc_law dc_law pm_law cd_law ct_law kV_law oc_greatest_reached dc_greatest_reached pm_greatest_reached cd_greatest_reached ct_greatest_reached oc_M_init dc_M_init pm_M_init cd_M_init ct_M_init kV_M_init oc_M_len dc_M_len pm_M_len cd_M_len ct_M_len kV_M_len oc_M_neighbours dc_M_neighbours pm_M_neighbours cd_M_neighbours ct_M_neighbours kV_M_neighbours oc_M_check_station dc_M_check_station pm_M_check_station cd_M_check_station ct_M_check_station kV_M_check_station oc_I_NoStation dc_I_NoStation pm_I_NoStation cd_I_NoStation ct_I_NoStation kV_I_NoStation oc_I_NoChannel dc_I_NoChannel pm_I_NoChannel cd_I_NoChannel ct_I_NoChannel kV_I_NoChannel oc_I_TooMany dc_I_TooMany pm_I_TooMany cd_I_TooMany ct_I_TooMany kV_I_TooMany : Value} {t_MAX_STATIONS t_MOST_LOW td_greatest_reached_most : Tok} {nm_NoStation q_NoStation : Str} {N_NoStation : Addr} {bs_NoStation sub_NoStation : List Value} {sn_NoStation : List Str} {ab_NoStation : Bool} {col_NoStation : Option Bool} {dd_NoStation : Option Addr} {m0_NoStation m1_NoStation m2_NoStation m3_NoStation m5_NoStation : Option Value} {nm_NoChannel q_NoChannel : Str} {N_NoChannel : Addr} {bs_NoChannel sub_NoChannel : List Value} {sn_NoChannel : List Str} {ab_NoChannel : Bool} {col_NoChannel : Option Bool} {dd_NoChannel : Option Addr} {m0_NoChannel m1_NoChannel m2_NoChannel m3_NoChannel m5_NoChannel : Option Value} {nm_TooMany q_TooMany : Str} {N_TooMany : Addr} {bs_TooMany sub_TooMany : List Value} {sn_TooMany : List Str} {ab_TooMany : Bool} {col_TooMany : Option Bool} {dd_TooMany : Option Addr} {m0_TooMany m1_TooMany m2_TooMany m3_TooMany m5_TooMany : Option Value}
    (z_all : PySem.W.nsIn K mainGlobals "all" = some none)
    (z_bool : PySem.W.nsIn K mainGlobals "bool" = some none)
    (z_enumerate : PySem.W.nsIn K mainGlobals "enumerate" = some none)
    (z_int : PySem.W.nsIn K mainGlobals "int" = some none)
    (z_isinstance : PySem.W.nsIn K mainGlobals "isinstance" = some none)
    (z_len : PySem.W.nsIn K mainGlobals "len" = some none)
    (z_list : PySem.W.nsIn K mainGlobals "list" = some none)
    (z_max : PySem.W.nsIn K mainGlobals "max" = some none)
    (z_min : PySem.W.nsIn K mainGlobals "min" = some none)
    (z_range : PySem.W.nsIn K mainGlobals "range" = some none)
    (z_sorted : PySem.W.nsIn K mainGlobals "sorted" = some none)
    (z_tuple : PySem.W.nsIn K mainGlobals "tuple" = some none)
    (v_MAX_STATIONS : PySem.W.nsIn K mainGlobals "MAX_STATIONS" = some (some (.int 60 t_MAX_STATIONS)))
    (v_MOST_LOW : PySem.W.nsIn K mainGlobals "MOST_LOW" = some (some (.int 5 t_MOST_LOW)))
    (a_is_int : PySem.W.nsIn K mainGlobals "is_int" = some (some (.ref f_is_int)))
    (l_is_int : K.lookup f_is_int = some ⟨oc_is_int, od_is_int, .func (PySem.W.fnOf "is_int" "is_int" (defArgs s_is_int) (defBody s_is_int) (defScope s_is_int) .none kV_is_int dc_is_int pm_is_int an_is_int cd_is_int ct_is_int), sl_is_int⟩)
    (c_is_int : PySem.W.codeIn K cd_is_int "is_int" = true)
    (k_is_int : PySem.W.keepIn K (.ref f_is_int) = true)
    (a_is_link : PySem.W.nsIn K mainGlobals "is_link" = some (some (.ref f_is_link)))
    (l_is_link : K.lookup f_is_link = some ⟨oc_is_link, od_is_link, .func (PySem.W.fnOf "is_link" "is_link" (defArgs s_is_link) (defBody s_is_link) (defScope s_is_link) .none kV_is_link dc_is_link pm_is_link an_is_link cd_is_link ct_is_link), sl_is_link⟩)
    (c_is_link : PySem.W.codeIn K cd_is_link "is_link" = true)
    (k_is_link : PySem.W.keepIn K (.ref f_is_link) = true)
    (a_all_off : PySem.W.nsIn K mainGlobals "all_off" = some (some (.ref f_all_off)))
    (l_all_off : K.lookup f_all_off = some ⟨oc_all_off, od_all_off, .func (PySem.W.fnOf "all_off" "all_off" (defArgs s_all_off) (defBody s_all_off) (defScope s_all_off) .none kV_all_off dc_all_off pm_all_off an_all_off cd_all_off ct_all_off), sl_all_off⟩)
    (c_all_off : PySem.W.codeIn K cd_all_off "all_off" = true)
    (k_all_off : PySem.W.keepIn K (.ref f_all_off) = true)
    (a_after : PySem.W.nsIn K mainGlobals "after" = some (some (.ref f_after)))
    (l_after : K.lookup f_after = some ⟨oc_after, od_after, .func (PySem.W.fnOf "after" "after" (defArgs s_after) (defBody s_after) (defScope s_after) .none kV_after dc_after pm_after an_after cd_after ct_after), sl_after⟩)
    (c_after : PySem.W.codeIn K cd_after "after" = true)
    (k_after : PySem.W.keepIn K (.ref f_after) = true)
    (a_first_steps : PySem.W.nsIn K mainGlobals "first_steps" = some (some (.ref f_first_steps)))
    (l_first_steps : K.lookup f_first_steps = some ⟨oc_first_steps, od_first_steps, .func (PySem.W.fnOf "first_steps" "first_steps" (defArgs s_first_steps) (defBody s_first_steps) (defScope s_first_steps) .none kV_first_steps dc_first_steps pm_first_steps an_first_steps cd_first_steps ct_first_steps), sl_first_steps⟩)
    (c_first_steps : PySem.W.codeIn K cd_first_steps "first_steps" = true)
    (k_first_steps : PySem.W.keepIn K (.ref f_first_steps) = true)
    (a_chain : PySem.W.nsIn K mainGlobals "chain" = some (some (.ref f_chain)))
    (l_chain : K.lookup f_chain = some ⟨oc_chain, od_chain, .func (PySem.W.fnOf "chain" "chain" (defArgs s_chain) (defBody s_chain) (defScope s_chain) .none kV_chain dc_chain pm_chain an_chain cd_chain ct_chain), sl_chain⟩)
    (c_chain : PySem.W.codeIn K cd_chain "chain" = true)
    (k_chain : PySem.W.keepIn K (.ref f_chain) = true)
    (a_greatest_channels : PySem.W.nsIn K mainGlobals "greatest_channels" = some (some (.ref f_greatest_channels)))
    (l_greatest_channels : K.lookup f_greatest_channels = some ⟨oc_greatest_channels, od_greatest_channels, .func (PySem.W.fnOf "greatest_channels" "greatest_channels" (defArgs s_greatest_channels) (defBody s_greatest_channels) (defScope s_greatest_channels) .none kV_greatest_channels dc_greatest_channels pm_greatest_channels an_greatest_channels cd_greatest_channels ct_greatest_channels), sl_greatest_channels⟩)
    (c_greatest_channels : PySem.W.codeIn K cd_greatest_channels "greatest_channels" = true)
    (k_greatest_channels : PySem.W.keepIn K (.ref f_greatest_channels) = true)
    (a_others : PySem.W.nsIn K mainGlobals "others" = some (some (.ref f_others)))
    (l_others : K.lookup f_others = some ⟨oc_others, od_others, .func (PySem.W.fnOf "others" "others" (defArgs s_others) (defBody s_others) (defScope s_others) .none kV_others dc_others pm_others an_others cd_others ct_others), sl_others⟩)
    (c_others : PySem.W.codeIn K cd_others "others" = true)
    (k_others : PySem.W.keepIn K (.ref f_others) = true)
    (a_to_three : PySem.W.nsIn K mainGlobals "to_three" = some (some (.ref f_to_three)))
    (l_to_three : K.lookup f_to_three = some ⟨oc_to_three, od_to_three, .func (PySem.W.fnOf "to_three" "to_three" (defArgs s_to_three) (defBody s_to_three) (defScope s_to_three) .none kV_to_three dc_to_three pm_to_three an_to_three cd_to_three ct_to_three), sl_to_three⟩)
    (c_to_three : PySem.W.codeIn K cd_to_three "to_three" = true)
    (k_to_three : PySem.W.keepIn K (.ref f_to_three) = true)
    (a_to_four : PySem.W.nsIn K mainGlobals "to_four" = some (some (.ref f_to_four)))
    (l_to_four : K.lookup f_to_four = some ⟨oc_to_four, od_to_four, .func (PySem.W.fnOf "to_four" "to_four" (defArgs s_to_four) (defBody s_to_four) (defScope s_to_four) .none kV_to_four dc_to_four pm_to_four an_to_four cd_to_four ct_to_four), sl_to_four⟩)
    (c_to_four : PySem.W.codeIn K cd_to_four "to_four" = true)
    (k_to_four : PySem.W.keepIn K (.ref f_to_four) = true)
    (a_beside_two : PySem.W.nsIn K mainGlobals "beside_two" = some (some (.ref f_beside_two)))
    (l_beside_two : K.lookup f_beside_two = some ⟨oc_beside_two, od_beside_two, .func (PySem.W.fnOf "beside_two" "beside_two" (defArgs s_beside_two) (defBody s_beside_two) (defScope s_beside_two) .none kV_beside_two dc_beside_two pm_beside_two an_beside_two cd_beside_two ct_beside_two), sl_beside_two⟩)
    (c_beside_two : PySem.W.codeIn K cd_beside_two "beside_two" = true)
    (k_beside_two : PySem.W.keepIn K (.ref f_beside_two) = true)
    (a_to_five : PySem.W.nsIn K mainGlobals "to_five" = some (some (.ref f_to_five)))
    (l_to_five : K.lookup f_to_five = some ⟨oc_to_five, od_to_five, .func (PySem.W.fnOf "to_five" "to_five" (defArgs s_to_five) (defBody s_to_five) (defScope s_to_five) .none kV_to_five dc_to_five pm_to_five an_to_five cd_to_five ct_to_five), sl_to_five⟩)
    (c_to_five : PySem.W.codeIn K cd_to_five "to_five" = true)
    (k_to_five : PySem.W.keepIn K (.ref f_to_five) = true)
    (a_schedule_low : PySem.W.nsIn K mainGlobals "schedule_low" = some (some (.ref f_schedule_low)))
    (l_schedule_low : K.lookup f_schedule_low = some ⟨oc_schedule_low, od_schedule_low, .func (PySem.W.fnOf "schedule_low" "schedule_low" (defArgs s_schedule_low) (defBody s_schedule_low) (defScope s_schedule_low) .none kV_schedule_low dc_schedule_low pm_schedule_low an_schedule_low cd_schedule_low ct_schedule_low), sl_schedule_low⟩)
    (c_schedule_low : PySem.W.codeIn K cd_schedule_low "schedule_low" = true)
    (k_schedule_low : PySem.W.keepIn K (.ref f_schedule_low) = true)
    (a__law_well : PySem.W.nsIn K mainGlobals "_law_well" = some (some (.ref f__law_well)))
    (l__law_well : K.lookup f__law_well = some ⟨oc__law_well, od__law_well, .func (PySem.W.fnOf "_law_well" "_law_well" (defArgs s__law_well) (defBody s__law_well) (defScope s__law_well) .none kV__law_well dc__law_well pm__law_well an__law_well cd__law_well ct__law_well), sl__law_well⟩)
    (c__law_well : PySem.W.codeIn K cd__law_well "_law_well" = true)
    (k__law_well : PySem.W.keepIn K (.ref f__law_well) = true)
    (a__law_take : PySem.W.nsIn K mainGlobals "_law_take" = some (some (.ref f__law_take)))
    (l__law_take : K.lookup f__law_take = some ⟨oc__law_take, od__law_take, .func (PySem.W.fnOf "_law_take" "_law_take" (defArgs s__law_take) (defBody s__law_take) (defScope s__law_take) .none kV__law_take dc__law_take pm__law_take an__law_take cd__law_take ct__law_take), sl__law_take⟩)
    (c__law_take : PySem.W.codeIn K cd__law_take "_law_take" = true)
    (k__law_take : PySem.W.keepIn K (.ref f__law_take) = true)
    (a__law_mixed : PySem.W.nsIn K mainGlobals "_law_mixed" = some (some (.ref f__law_mixed)))
    (l__law_mixed : K.lookup f__law_mixed = some ⟨oc__law_mixed, od__law_mixed, .func (PySem.W.fnOf "_law_mixed" "_law_mixed" (defArgs s__law_mixed) (defBody s__law_mixed) (defScope s__law_mixed) .none kV__law_mixed dc__law_mixed pm__law_mixed an__law_mixed cd__law_mixed ct__law_mixed), sl__law_mixed⟩)
    (c__law_mixed : PySem.W.codeIn K cd__law_mixed "_law_mixed" = true)
    (k__law_mixed : PySem.W.keepIn K (.ref f__law_mixed) = true)
    (a__law_near : PySem.W.nsIn K mainGlobals "_law_near" = some (some (.ref f__law_near)))
    (l__law_near : K.lookup f__law_near = some ⟨oc__law_near, od__law_near, .func (PySem.W.fnOf "_law_near" "_law_near" (defArgs s__law_near) (defBody s__law_near) (defScope s__law_near) .none kV__law_near dc__law_near pm__law_near an__law_near cd__law_near ct__law_near), sl__law_near⟩)
    (c__law_near : PySem.W.codeIn K cd__law_near "_law_near" = true)
    (k__law_near : PySem.W.keepIn K (.ref f__law_near) = true)
    (a__law_switched : PySem.W.nsIn K mainGlobals "_law_switched" = some (some (.ref f__law_switched)))
    (l__law_switched : K.lookup f__law_switched = some ⟨oc__law_switched, od__law_switched, .func (PySem.W.fnOf "_law_switched" "_law_switched" (defArgs s__law_switched) (defBody s__law_switched) (defScope s__law_switched) .none kV__law_switched dc__law_switched pm__law_switched an__law_switched cd__law_switched ct__law_switched), sl__law_switched⟩)
    (c__law_switched : PySem.W.codeIn K cd__law_switched "_law_switched" = true)
    (k__law_switched : PySem.W.keepIn K (.ref f__law_switched) = true)
    (a__law_ends : PySem.W.nsIn K mainGlobals "_law_ends" = some (some (.ref f__law_ends)))
    (l__law_ends : K.lookup f__law_ends = some ⟨oc__law_ends, od__law_ends, .func (PySem.W.fnOf "_law_ends" "_law_ends" (defArgs s__law_ends) (defBody s__law_ends) (defScope s__law_ends) .none kV__law_ends dc__law_ends pm__law_ends an__law_ends cd__law_ends ct__law_ends), sl__law_ends⟩)
    (c__law_ends : PySem.W.codeIn K cd__law_ends "_law_ends" = true)
    (k__law_ends : PySem.W.keepIn K (.ref f__law_ends) = true)
    (a__law_plays_right : PySem.W.nsIn K mainGlobals "_law_plays_right" = some (some (.ref f__law_plays_right)))
    (l__law_plays_right : K.lookup f__law_plays_right = some ⟨oc__law_plays_right, od__law_plays_right, .func (PySem.W.fnOf "_law_plays_right" "_law_plays_right" (defArgs s__law_plays_right) (defBody s__law_plays_right) (defScope s__law_plays_right) .none kV__law_plays_right dc__law_plays_right pm__law_plays_right an__law_plays_right cd__law_plays_right ct__law_plays_right), sl__law_plays_right⟩)
    (c__law_plays_right : PySem.W.codeIn K cd__law_plays_right "_law_plays_right" = true)
    (k__law_plays_right : PySem.W.keepIn K (.ref f__law_plays_right) = true)
    (a__law_right : PySem.W.nsIn K mainGlobals "_law_right" = some (some (.ref f__law_right)))
    (l__law_right : K.lookup f__law_right = some ⟨oc__law_right, od__law_right, .func (PySem.W.fnOf "_law_right" "_law_right" (defArgs s__law_right) (defBody s__law_right) (defScope s__law_right) .none kV__law_right dc__law_right pm__law_right an__law_right cd__law_right ct__law_right), sl__law_right⟩)
    (c__law_right : PySem.W.codeIn K cd__law_right "_law_right" = true)
    (k__law_right : PySem.W.keepIn K (.ref f__law_right) = true)
    (a__law_complete_right : PySem.W.nsIn K mainGlobals "_law_complete_right" = some (some (.ref f__law_complete_right)))
    (l__law_complete_right : K.lookup f__law_complete_right = some ⟨oc__law_complete_right, od__law_complete_right, .func (PySem.W.fnOf "_law_complete_right" "_law_complete_right" (defArgs s__law_complete_right) (defBody s__law_complete_right) (defScope s__law_complete_right) .none kV__law_complete_right dc__law_complete_right pm__law_complete_right an__law_complete_right cd__law_complete_right ct__law_complete_right), sl__law_complete_right⟩)
    (c__law_complete_right : PySem.W.codeIn K cd__law_complete_right "_law_complete_right" = true)
    (k__law_complete_right : PySem.W.keepIn K (.ref f__law_complete_right) = true)
    (a_law : PySem.W.nsIn K mainGlobals "law" = some (some (.ref f_law)))
    (l_law : K.lookup f_law = some ⟨oc_law, od_law, .func (PySem.W.fnOf "law" "law" (defArgs s_law) (defBody s_law) (defScope s_law) .none kV_law dc_law pm_law an_law cd_law ct_law), sl_law⟩)
    (c_law : PySem.W.codeIn K cd_law "law" = true)
    (k_law : PySem.W.keepIn K (.ref f_law) = true)
    (a_greatest_reached : PySem.W.nsIn K mainGlobals "greatest_reached" = some (some (.ref f_greatest_reached)))
    (l_greatest_reached : K.lookup f_greatest_reached = some ⟨oc_greatest_reached, od_greatest_reached, .func (PySem.W.fnOf "greatest_reached" "greatest_reached" (defArgs s_greatest_reached) (defBody s_greatest_reached) (defScope s_greatest_reached) .none (.ref D_greatest_reached) dc_greatest_reached pm_greatest_reached an_greatest_reached cd_greatest_reached ct_greatest_reached), sl_greatest_reached⟩)
    (c_greatest_reached : PySem.W.codeIn K cd_greatest_reached "greatest_reached" = true)
    (k_greatest_reached : PySem.W.keepIn K (.ref f_greatest_reached) = true)
    (d_greatest_reached_most : PySem.W.nsIn K D_greatest_reached "most" = some (some (.int 1000 td_greatest_reached_most)))
    (aC : PySem.W.nsIn K mainGlobals "Network" = some (some (.ref C)))
    (a_M_init : PySem.W.findIn K (.ref C) "__init__" = some (some (.ref f_M_init)))
    (i_M_init : PySem.W.isFn K (.ref f_M_init) = true)
    (l_M_init : K.lookup f_M_init = some ⟨oc_M_init, od_M_init, .func (PySem.W.fnOf "__init__" "Network.__init__" (defArgs s_Network___init__) (defBody s_Network___init__) (defScope s_Network___init__) .none kV_M_init dc_M_init pm_M_init an_M_init cd_M_init ct_M_init), sl_M_init⟩)
    (c_M_init : PySem.W.codeIn K cd_M_init "Network.__init__" = true)
    (k_M_init : PySem.W.keepIn K (.ref f_M_init) = true)
    (a_M_len : PySem.W.findIn K (.ref C) "__len__" = some (some (.ref f_M_len)))
    (i_M_len : PySem.W.isFn K (.ref f_M_len) = true)
    (l_M_len : K.lookup f_M_len = some ⟨oc_M_len, od_M_len, .func (PySem.W.fnOf "__len__" "Network.__len__" (defArgs s_Network___len__) (defBody s_Network___len__) (defScope s_Network___len__) .none kV_M_len dc_M_len pm_M_len an_M_len cd_M_len ct_M_len), sl_M_len⟩)
    (c_M_len : PySem.W.codeIn K cd_M_len "Network.__len__" = true)
    (k_M_len : PySem.W.keepIn K (.ref f_M_len) = true)
    (a_M_neighbours : PySem.W.findIn K (.ref C) "neighbours" = some (some (.ref f_M_neighbours)))
    (i_M_neighbours : PySem.W.isFn K (.ref f_M_neighbours) = true)
    (l_M_neighbours : K.lookup f_M_neighbours = some ⟨oc_M_neighbours, od_M_neighbours, .func (PySem.W.fnOf "neighbours" "Network.neighbours" (defArgs s_Network_neighbours) (defBody s_Network_neighbours) (defScope s_Network_neighbours) .none kV_M_neighbours dc_M_neighbours pm_M_neighbours an_M_neighbours cd_M_neighbours ct_M_neighbours), sl_M_neighbours⟩)
    (c_M_neighbours : PySem.W.codeIn K cd_M_neighbours "Network.neighbours" = true)
    (k_M_neighbours : PySem.W.keepIn K (.ref f_M_neighbours) = true)
    (a_M_check_station : PySem.W.findIn K (.ref C) "check_station" = some (some (.ref f_M_check_station)))
    (i_M_check_station : PySem.W.isFn K (.ref f_M_check_station) = true)
    (l_M_check_station : K.lookup f_M_check_station = some ⟨oc_M_check_station, od_M_check_station, .func (PySem.W.fnOf "check_station" "Network.check_station" (defArgs s_Network_check_station) (defBody s_Network_check_station) (defScope s_Network_check_station) .none kV_M_check_station dc_M_check_station pm_M_check_station an_M_check_station cd_M_check_station ct_M_check_station), sl_M_check_station⟩)
    (c_M_check_station : PySem.W.codeIn K cd_M_check_station "Network.check_station" = true)
    (k_M_check_station : PySem.W.keepIn K (.ref f_M_check_station) = true)
    (pg : PySem.W.plainGet K C Str.empty = true)
    (hd : PySem.W.hasDictIn K C = true)
    (po : PySem.W.plainOver K C = true)
    (sa : PySem.W.findIn K (.ref C) "__setattr__" = some (some (.builtin "object.__setattr__")))
    (mk : PySem.W.makesIn K C = true)
    (kc : PySem.W.keepIn K (.ref C) = true)
    (nK : PySem.W.findIn K (.ref C) "kept" = some none)
    (nN : PySem.W.findIn K (.ref C) "near" = some none)
    (ha : PySem.W.findIn K (.ref C) "__class__" = some (some (.builtin "object.__class__")))
    (hn : PySem.W.specialIn K (.builtin "object.__class__") "__get__" = some (some (.builtin "getset_descriptor.__get__")))
    (ht : PySem.W.takesIn K (.builtin "object.__class__") = some true)
    (hm : PySem.W.mroIn K C (.type "object") = some true)
    (ne : PySem.W.findIn K (.ref C) "__ne__" = some (some (.builtin "object.__ne__")))
    (aB : PySem.W.nsIn K mainGlobals "ChannelError" = some (some (.ref C0)))
    (rdB : PySem.W.readsIn K C0 (.type "type") = true)
    (gaB : PySem.W.specialIn K (.ref C0) "__getattribute__" = some (some (.builtin "type.__getattribute__")))
    (vVB : PySem.W.findCls K (.ref C0) (.type "type") "__init__" = some (.val (.builtin "ValueError.__init__")))
    (aX_NoStation : PySem.W.nsIn K mainGlobals "NoStation" = some (some (.ref C_NoStation)))
    (xL_NoStation : K.lookup C_NoStation = some (excClassObj nm_NoStation q_NoStation C_NoStation N_NoStation bs_NoStation [.ref C0, .type "ValueError", .type "Exception", .type "BaseException", .type "object"] true sn_NoStation sub_NoStation ab_NoStation col_NoStation dd_NoStation m0_NoStation m1_NoStation m2_NoStation m3_NoStation m5_NoStation "ValueError.__new__"))
    (sa_NoStation : PySem.W.findIn K (.ref C_NoStation) "__setattr__" = some (some (.builtin "object.__setattr__")))
    (ga_NoStation : PySem.W.findIn K (.ref C_NoStation) "__getattribute__" = some (some (.builtin "BaseException.__getattribute__")))
    (gg_NoStation : PySem.W.findIn K (.ref C_NoStation) "__getattr__" = some none)
    (nf_NoStation : PySem.W.findIn K (.ref C_NoStation) "station" = some none)
    (aI_NoStation : PySem.W.findIn K (.ref C_NoStation) "__init__" = some (some (.ref f_I_NoStation)))
    (tI_NoStation : PySem.W.typeIn K (.ref f_I_NoStation) = some (.type "function"))
    (l_I_NoStation : K.lookup f_I_NoStation = some ⟨oc_I_NoStation, od_I_NoStation, .func (PySem.W.fnOf "__init__" "NoStation.__init__" (defArgs s_NoStation___init__) (defBody s_NoStation___init__) (defScope s_NoStation___init__) .none kV_I_NoStation dc_I_NoStation pm_I_NoStation an_I_NoStation cd_I_NoStation ct_I_NoStation), sl_I_NoStation⟩)
    (c_I_NoStation : PySem.W.codeIn K cd_I_NoStation "NoStation.__init__" = true)
    (k_I_NoStation : PySem.W.keepIn K (.ref f_I_NoStation) = true)
    (kC_NoStation : PySem.W.keepIn K (.ref C_NoStation) = true)
    (eC_NoStation : PySem.W.subIn K (.ref C_NoStation) (.type "BaseException") = some true)
    (tC_NoStation : PySem.W.typeIn K (.ref C_NoStation) = some (.type "type"))
    (hC_NoStation : PySem.W.hasDictIn K C_NoStation = true)
    (sC_NoStation : PySem.W.subIn K (.ref C_NoStation) (.ref C_NoStation) = some true)
    (aX_NoChannel : PySem.W.nsIn K mainGlobals "NoChannel" = some (some (.ref C_NoChannel)))
    (xL_NoChannel : K.lookup C_NoChannel = some (excClassObj nm_NoChannel q_NoChannel C_NoChannel N_NoChannel bs_NoChannel [.ref C0, .type "ValueError", .type "Exception", .type "BaseException", .type "object"] true sn_NoChannel sub_NoChannel ab_NoChannel col_NoChannel dd_NoChannel m0_NoChannel m1_NoChannel m2_NoChannel m3_NoChannel m5_NoChannel "ValueError.__new__"))
    (sa_NoChannel : PySem.W.findIn K (.ref C_NoChannel) "__setattr__" = some (some (.builtin "object.__setattr__")))
    (ga_NoChannel : PySem.W.findIn K (.ref C_NoChannel) "__getattribute__" = some (some (.builtin "BaseException.__getattribute__")))
    (gg_NoChannel : PySem.W.findIn K (.ref C_NoChannel) "__getattr__" = some none)
    (nf_NoChannel : PySem.W.findIn K (.ref C_NoChannel) "channel" = some none)
    (aI_NoChannel : PySem.W.findIn K (.ref C_NoChannel) "__init__" = some (some (.ref f_I_NoChannel)))
    (tI_NoChannel : PySem.W.typeIn K (.ref f_I_NoChannel) = some (.type "function"))
    (l_I_NoChannel : K.lookup f_I_NoChannel = some ⟨oc_I_NoChannel, od_I_NoChannel, .func (PySem.W.fnOf "__init__" "NoChannel.__init__" (defArgs s_NoChannel___init__) (defBody s_NoChannel___init__) (defScope s_NoChannel___init__) .none kV_I_NoChannel dc_I_NoChannel pm_I_NoChannel an_I_NoChannel cd_I_NoChannel ct_I_NoChannel), sl_I_NoChannel⟩)
    (c_I_NoChannel : PySem.W.codeIn K cd_I_NoChannel "NoChannel.__init__" = true)
    (k_I_NoChannel : PySem.W.keepIn K (.ref f_I_NoChannel) = true)
    (kC_NoChannel : PySem.W.keepIn K (.ref C_NoChannel) = true)
    (eC_NoChannel : PySem.W.subIn K (.ref C_NoChannel) (.type "BaseException") = some true)
    (tC_NoChannel : PySem.W.typeIn K (.ref C_NoChannel) = some (.type "type"))
    (hC_NoChannel : PySem.W.hasDictIn K C_NoChannel = true)
    (sC_NoChannel : PySem.W.subIn K (.ref C_NoChannel) (.ref C_NoChannel) = some true)
    (aX_TooMany : PySem.W.nsIn K mainGlobals "TooMany" = some (some (.ref C_TooMany)))
    (xL_TooMany : K.lookup C_TooMany = some (excClassObj nm_TooMany q_TooMany C_TooMany N_TooMany bs_TooMany [.ref C0, .type "ValueError", .type "Exception", .type "BaseException", .type "object"] true sn_TooMany sub_TooMany ab_TooMany col_TooMany dd_TooMany m0_TooMany m1_TooMany m2_TooMany m3_TooMany m5_TooMany "ValueError.__new__"))
    (sa_TooMany : PySem.W.findIn K (.ref C_TooMany) "__setattr__" = some (some (.builtin "object.__setattr__")))
    (ga_TooMany : PySem.W.findIn K (.ref C_TooMany) "__getattribute__" = some (some (.builtin "BaseException.__getattribute__")))
    (gg_TooMany : PySem.W.findIn K (.ref C_TooMany) "__getattr__" = some none)
    (nf_TooMany : PySem.W.findIn K (.ref C_TooMany) "most" = some none)
    (aI_TooMany : PySem.W.findIn K (.ref C_TooMany) "__init__" = some (some (.ref f_I_TooMany)))
    (tI_TooMany : PySem.W.typeIn K (.ref f_I_TooMany) = some (.type "function"))
    (l_I_TooMany : K.lookup f_I_TooMany = some ⟨oc_I_TooMany, od_I_TooMany, .func (PySem.W.fnOf "__init__" "TooMany.__init__" (defArgs s_TooMany___init__) (defBody s_TooMany___init__) (defScope s_TooMany___init__) .none kV_I_TooMany dc_I_TooMany pm_I_TooMany an_I_TooMany cd_I_TooMany ct_I_TooMany), sl_I_TooMany⟩)
    (c_I_TooMany : PySem.W.codeIn K cd_I_TooMany "TooMany.__init__" = true)
    (k_I_TooMany : PySem.W.keepIn K (.ref f_I_TooMany) = true)
    (kC_TooMany : PySem.W.keepIn K (.ref C_TooMany) = true)
    (eC_TooMany : PySem.W.subIn K (.ref C_TooMany) (.type "BaseException") = some true)
    (tC_TooMany : PySem.W.typeIn K (.ref C_TooMany) = some (.type "type"))
    (hC_TooMany : PySem.W.hasDictIn K C_TooMany = true)
    (sC_TooMany : PySem.W.subIn K (.ref C_TooMany) (.ref C_TooMany) = some true) :
    ∃ fd : FuncData, (∀ (s : Shared) (v : Value), BindsTo s fd ⟨[v], []⟩ [("_law_script", v)]) ∧ ∀ base : Heap, K.In base → base.Ns mainGlobals mg → FnOk l.prog w K mg base CX0 10 fa fd ["_law_script"] (spLaw K) := by
  have e := hfa.symm.trans (PySem.W.mg_of X G a_law)
  cases e
  have T : Txt mg := ⟨PySem.W.mg_none_of X G z_all, PySem.W.mg_none_of X G z_bool, PySem.W.mg_none_of X G z_enumerate, PySem.W.mg_none_of X G z_int, PySem.W.mg_none_of X G z_isinstance, PySem.W.mg_none_of X G z_len, PySem.W.mg_none_of X G z_list, PySem.W.mg_none_of X G z_max, PySem.W.mg_none_of X G z_min, PySem.W.mg_none_of X G z_range, PySem.W.mg_none_of X G z_sorted, PySem.W.mg_none_of X G z_tuple, ⟨_, PySem.W.mg_of X G v_MAX_STATIONS⟩, ⟨_, PySem.W.mg_of X G v_MOST_LOW⟩⟩
  have F_is_int := fun_mk (st := s_is_int) l_is_int c_is_int k_is_int
  have g_is_int := PySem.W.mg_of X G a_is_int
  have b_is_int := F_is_int.binds (ps := ["value"]) fun _ _ _ _ _ _ us hl => match us, hl with | [_], _ => rfl
  have F_is_link := fun_mk (st := s_is_link) l_is_link c_is_link k_is_link
  have g_is_link := PySem.W.mg_of X G a_is_link
  have b_is_link := F_is_link.binds (ps := ["value", "stations"]) fun _ _ _ _ _ _ us hl => match us, hl with | [_, _], _ => rfl
  have F_all_off := fun_mk (st := s_all_off) l_all_off c_all_off k_all_off
  have g_all_off := PySem.W.mg_of X G a_all_off
  have b_all_off := F_all_off.binds (ps := ["network"]) fun _ _ _ _ _ _ us hl => match us, hl with | [_], _ => rfl
  have F_after := fun_mk (st := s_after) l_after c_after k_after
  have g_after := PySem.W.mg_of X G a_after
  have b_after := F_after.binds (ps := ["network", "state", "station"]) fun _ _ _ _ _ _ us hl => match us, hl with | [_, _, _], _ => rfl
  have F_first_steps := fun_mk (st := s_first_steps) l_first_steps c_first_steps k_first_steps
  have g_first_steps := PySem.W.mg_of X G a_first_steps
  have b_first_steps := F_first_steps.binds (ps := ["network", "most"]) fun _ _ _ _ _ _ us hl => match us, hl with | [_, _], _ => rfl
  have F_chain := fun_mk (st := s_chain) l_chain c_chain k_chain
  have g_chain := PySem.W.mg_of X G a_chain
  have b_chain := F_chain.binds (ps := ["numbers"]) fun _ _ _ _ _ _ us hl => match us, hl with | [_], _ => rfl
  have F_greatest_channels := fun_mk (st := s_greatest_channels) l_greatest_channels c_greatest_channels k_greatest_channels
  have g_greatest_channels := PySem.W.mg_of X G a_greatest_channels
  have b_greatest_channels := F_greatest_channels.binds (ps := ["network"]) fun _ _ _ _ _ _ us hl => match us, hl with | [_], _ => rfl
  have F_others := fun_mk (st := s_others) l_others c_others k_others
  have g_others := PySem.W.mg_of X G a_others
  have b_others := F_others.binds (ps := ["network", "station", "without"]) fun _ _ _ _ _ _ us hl => match us, hl with | [_, _, _], _ => rfl
  have F_to_three := fun_mk (st := s_to_three) l_to_three c_to_three k_to_three
  have g_to_three := PySem.W.mg_of X G a_to_three
  have b_to_three := F_to_three.binds (ps := ["station", "high", "low"]) fun _ _ _ _ _ _ us hl => match us, hl with | [_, _, _], _ => rfl
  have F_to_four := fun_mk (st := s_to_four) l_to_four c_to_four k_to_four
  have g_to_four := PySem.W.mg_of X G a_to_four
  have b_to_four := F_to_four.binds (ps := ["network", "station"]) fun _ _ _ _ _ _ us hl => match us, hl with | [_, _], _ => rfl
  have F_beside_two := fun_mk (st := s_beside_two) l_beside_two c_beside_two k_beside_two
  have g_beside_two := PySem.W.mg_of X G a_beside_two
  have b_beside_two := F_beside_two.binds (ps := ["station", "spare", "goal", "low"]) fun _ _ _ _ _ _ us hl => match us, hl with | [_, _, _, _], _ => rfl
  have F_to_five := fun_mk (st := s_to_five) l_to_five c_to_five k_to_five
  have g_to_five := PySem.W.mg_of X G a_to_five
  have b_to_five := F_to_five.binds (ps := ["network", "station", "table"]) fun _ _ _ _ _ _ us hl => match us, hl with | [_, _, _], _ => rfl
  have F_schedule_low := fun_mk (st := s_schedule_low) l_schedule_low c_schedule_low k_schedule_low
  have g_schedule_low := PySem.W.mg_of X G a_schedule_low
  have b_schedule_low := F_schedule_low.binds (ps := ["network", "station", "channel"]) fun _ _ _ _ _ _ us hl => match us, hl with | [_, _, _], _ => rfl
  have F__law_well := fun_mk (st := s__law_well) l__law_well c__law_well k__law_well
  have g__law_well := PySem.W.mg_of X G a__law_well
  have b__law_well := F__law_well.binds (ps := ["_law_cell", "_law_turn"]) fun _ _ _ _ _ _ us hl => match us, hl with | [_, _], _ => rfl
  have F__law_take := fun_mk (st := s__law_take) l__law_take c__law_take k__law_take
  have g__law_take := PySem.W.mg_of X G a__law_take
  have b__law_take := F__law_take.binds (ps := ["_law_well_here", "_law_bound"]) fun _ _ _ _ _ _ us hl => match us, hl with | [_, _], _ => rfl
  have F__law_mixed := fun_mk (st := s__law_mixed) l__law_mixed c__law_mixed k__law_mixed
  have g__law_mixed := PySem.W.mg_of X G a__law_mixed
  have b__law_mixed := F__law_mixed.binds (ps := ["_law_well_here", "_law_some"]) fun _ _ _ _ _ _ us hl => match us, hl with | [_, _], _ => rfl
  have F__law_near := fun_mk (st := s__law_near) l__law_near c__law_near k__law_near
  have g__law_near := PySem.W.mg_of X G a__law_near
  have b__law_near := F__law_near.binds (ps := ["_law_size", "_law_links"]) fun _ _ _ _ _ _ us hl => match us, hl with | [_, _], _ => rfl
  have F__law_switched := fun_mk (st := s__law_switched) l__law_switched c__law_switched k__law_switched
  have g__law_switched := PySem.W.mg_of X G a__law_switched
  have b__law_switched := F__law_switched.binds (ps := ["_law_near_here", "_law_state", "_law_station"]) fun _ _ _ _ _ _ us hl => match us, hl with | [_, _, _], _ => rfl
  have F__law_ends := fun_mk (st := s__law_ends) l__law_ends c__law_ends k__law_ends
  have g__law_ends := PySem.W.mg_of X G a__law_ends
  have b__law_ends := F__law_ends.binds (ps := ["_law_near_here", "_law_steps"]) fun _ _ _ _ _ _ us hl => match us, hl with | [_, _], _ => rfl
  have F__law_plays_right := fun_mk (st := s__law_plays_right) l__law_plays_right c__law_plays_right k__law_plays_right
  have g__law_plays_right := PySem.W.mg_of X G a__law_plays_right
  have b__law_plays_right := F__law_plays_right.binds (ps := ["_law_well_here", "_law_near_here", "_law_middle"]) fun _ _ _ _ _ _ us hl => match us, hl with | [_, _, _], _ => rfl
  have F__law_right := fun_mk (st := s__law_right) l__law_right c__law_right k__law_right
  have g__law_right := PySem.W.mg_of X G a__law_right
  have b__law_right := F__law_right.binds (ps := ["_law_well_here", "_law_is_whole"]) fun _ _ _ _ _ _ us hl => match us, hl with | [_, _], _ => rfl
  have F__law_complete_right := fun_mk (st := s__law_complete_right) l__law_complete_right c__law_complete_right k__law_complete_right
  have g__law_complete_right := PySem.W.mg_of X G a__law_complete_right
  have b__law_complete_right := F__law_complete_right.binds (ps := []) fun _ _ _ _ _ _ us hl => match us, hl with | [], _ => rfl
  have F_law := fun_mk (st := s_law) l_law c_law k_law
  have g_law := PySem.W.mg_of X G a_law
  have g_greatest_reached := PySem.W.mg_of X G a_greatest_reached
  have F_greatest_reached : FunD K "greatest_reached" "greatest_reached" (defArgs s_greatest_reached) (defBody s_greatest_reached) (defScope s_greatest_reached) [] [(("most" : Str), V.int 1000)] f_greatest_reached _ := ⟨⟨_, _, _, _, _, _, _, _, _, _, rfl, l_greatest_reached, c_greatest_reached, .inl ⟨rfl, rfl⟩, .inr ⟨D_greatest_reached, rfl, fun q hq => by
    obtain rfl : q = (("most" : Str), V.int 1000) := by simpa using hq
    exact ⟨_, d_greatest_reached_most, ⟨_, rfl⟩⟩⟩⟩, k_greatest_reached⟩
  have hC := PySem.W.mg_of X G aC
  have NC : NetC K C := ⟨⟨pg, hd, po, sa⟩, nK, nN, ha, hn, ht, hm, if_pos (beq_self_eq_true _), ne⟩
  have F_M_init := fun_mk (st := s_Network___init__) l_M_init c_M_init k_M_init
  have b_M_init := F_M_init.binds (ps := ["self", "stations", "links"]) fun _ _ _ _ _ _ us hl => match us, hl with | [_, _, _], _ => rfl
  have F_M_len := fun_mk (st := s_Network___len__) l_M_len c_M_len k_M_len
  have b_M_len := F_M_len.binds (ps := ["self"]) fun _ _ _ _ _ _ us hl => match us, hl with | [_], _ => rfl
  have F_M_neighbours := fun_mk (st := s_Network_neighbours) l_M_neighbours c_M_neighbours k_M_neighbours
  have b_M_neighbours := F_M_neighbours.binds (ps := ["self", "station"]) fun _ _ _ _ _ _ us hl => match us, hl with | [_, _], _ => rfl
  have F_M_check_station := fun_mk (st := s_Network_check_station) l_M_check_station c_M_check_station k_M_check_station
  have b_M_check_station := F_M_check_station.binds (ps := ["self", "station"]) fun _ _ _ _ _ _ us hl => match us, hl with | [_, _], _ => rfl
  have BC : BaseC K C0 := ⟨rdB, gaB, vVB⟩
  have m_ChannelError := PySem.W.mg_of X G aB
  have m_NoStation := PySem.W.mg_of X G aX_NoStation
  have OX_NoStation : OexC K C_NoStation := ⟨⟨_, _, _, _, _, _, _, _, _, _, _, _, _, _, _, xL_NoStation, rfl⟩, sa_NoStation, eC_NoStation, tC_NoStation, kC_NoStation⟩
  have F_I_NoStation := fun_mk (st := s_NoStation___init__) l_I_NoStation c_I_NoStation k_I_NoStation
  have b_I_NoStation := F_I_NoStation.binds (ps := ["self", "station"]) fun _ _ _ _ _ _ us hl => match us, hl with | [_, _], _ => rfl
  have XF_NoStation : XfC K C_NoStation := ⟨ga_NoStation, gg_NoStation, eC_NoStation, hC_NoStation⟩
  have te_NoStation : PySem.W.exmOne K (.ref C_NoStation) (.ref C_NoStation) = some true := PySem.W.exm_ref eC_NoStation hC_NoStation tC_NoStation sC_NoStation
  have m_NoChannel := PySem.W.mg_of X G aX_NoChannel
  have OX_NoChannel : OexC K C_NoChannel := ⟨⟨_, _, _, _, _, _, _, _, _, _, _, _, _, _, _, xL_NoChannel, rfl⟩, sa_NoChannel, eC_NoChannel, tC_NoChannel, kC_NoChannel⟩
  have F_I_NoChannel := fun_mk (st := s_NoChannel___init__) l_I_NoChannel c_I_NoChannel k_I_NoChannel
  have b_I_NoChannel := F_I_NoChannel.binds (ps := ["self", "channel"]) fun _ _ _ _ _ _ us hl => match us, hl with | [_, _], _ => rfl
  have XF_NoChannel : XfC K C_NoChannel := ⟨ga_NoChannel, gg_NoChannel, eC_NoChannel, hC_NoChannel⟩
  have te_NoChannel : PySem.W.exmOne K (.ref C_NoChannel) (.ref C_NoChannel) = some true := PySem.W.exm_ref eC_NoChannel hC_NoChannel tC_NoChannel sC_NoChannel
  have m_TooMany := PySem.W.mg_of X G aX_TooMany
  have OX_TooMany : OexC K C_TooMany := ⟨⟨_, _, _, _, _, _, _, _, _, _, _, _, _, _, _, xL_TooMany, rfl⟩, sa_TooMany, eC_TooMany, tC_TooMany, kC_TooMany⟩
  have F_I_TooMany := fun_mk (st := s_TooMany___init__) l_I_TooMany c_I_TooMany k_I_TooMany
  have b_I_TooMany := F_I_TooMany.binds (ps := ["self", "most"]) fun _ _ _ _ _ _ us hl => match us, hl with | [_, _], _ => rfl
  have XF_TooMany : XfC K C_TooMany := ⟨ga_TooMany, gg_TooMany, eC_TooMany, hC_TooMany⟩
  have te_TooMany : PySem.W.exmOne K (.ref C_TooMany) (.ref C_TooMany) = some true := PySem.W.exm_ref eC_TooMany hC_TooMany tC_TooMany sC_TooMany
  refine ⟨PySem.W.fnOf "law" "law" (defArgs s_law) (defBody s_law) (defScope s_law) .none kV_law dc_law pm_law an_law cd_law ct_law, fun s v => .of_eq rfl, fun base _ _ => ?_⟩
  have X_NoStation : Exn l.prog w K mg base "NoStation" C_NoStation "station" := ⟨_, _, m_NoStation, OX_NoStation, aI_NoStation, tI_NoStation, fn_up (ok_ini_NoStation F_I_NoStation m_ChannelError BC nf_NoStation), b_I_NoStation⟩
  have X_NoChannel : Exn l.prog w K mg base "NoChannel" C_NoChannel "channel" := ⟨_, _, m_NoChannel, OX_NoChannel, aI_NoChannel, tI_NoChannel, fn_up (ok_ini_NoChannel F_I_NoChannel m_ChannelError BC nf_NoChannel), b_I_NoChannel⟩
  have X_TooMany : Exn l.prog w K mg base "TooMany" C_TooMany "most" := ⟨_, _, m_TooMany, OX_TooMany, aI_TooMany, tI_TooMany, fn_up (ok_ini_TooMany F_I_TooMany m_ChannelError BC nf_TooMany), b_I_TooMany⟩
  have O_is_int : FnOk l.prog w K mg base (L2.CX l.prog w) 1 _ _ _ _ := fn_up (ok_is_int F_is_int T)
  have c_is_int := mkCal O_is_int g_is_int F_is_int.kp b_is_int
  have O_is_link : FnOk l.prog w K mg base (L2.CX l.prog w) 2 _ _ _ _ := fn_up (ok_is_link F_is_link T c_is_int)
  have c_is_link := mkCal O_is_link g_is_link F_is_link.kp b_is_link
  have O_init : FnOk l.prog w K mg base (L2.CX l.prog w) 3 _ _ _ _ := fn_up (ok_init F_M_init T NC c_is_int c_is_link)
  have c_Network : Cnw l.prog w K mg base 3 "Network" C ["self", "stations", "links"] (spInit C) := ⟨_, _, ⟨mk, a_M_init, i_M_init, kc⟩, O_init, hC, b_M_init⟩
  have M_len : Mth l.prog w K mg base 1 C "__len__" ["self"] (spLen C) := ⟨_, _, ⟨a_M_len, i_M_len, F_M_len.kp⟩, fn_up (ok_len F_M_len T NC), b_M_len⟩
  have M_chk : Mth l.prog w K mg base 2 C "check_station" ["self", "station"] (spChk C) := ⟨_, _, ⟨a_M_check_station, i_M_check_station, F_M_check_station.kp⟩, fn_up (ok_chk F_M_check_station T NC c_is_int), b_M_check_station⟩
  have M_chkX : Mth l.prog w K mg base 3 C "check_station" ["self", "station"] (spChkX C C_NoStation) := ⟨_, _, ⟨a_M_check_station, i_M_check_station, F_M_check_station.kp⟩, ok_chkX F_M_check_station T NC c_is_int X_NoStation, b_M_check_station⟩
  have M_nbrs : Mth l.prog w K mg base 3 C "neighbours" ["self", "station"] (spNbrs C) := ⟨_, _, ⟨a_M_neighbours, i_M_neighbours, F_M_neighbours.kp⟩, fn_up (ok_nbrs F_M_neighbours T NC M_chk), b_M_neighbours⟩
  have O_chain : FnOk l.prog w K mg base (L2.CX l.prog w) 1 _ _ _ _ := fn_up (ok_chain F_chain T)
  have c_chain := mkCal O_chain g_chain F_chain.kp b_chain
  have O_greatest_channels : FnOk l.prog w K mg base (L2.CX l.prog w) 3 _ _ _ _ := fn_up (ok_gc F_greatest_channels T NC c_chain M_len)
  have c_greatest_channels := mkCal O_greatest_channels g_greatest_channels F_greatest_channels.kp b_greatest_channels
  have O_others : FnOk l.prog w K mg base (L2.CX l.prog w) 4 _ _ _ _ := fn_up (ok_others F_others T NC M_nbrs)
  have c_others := mkCal O_others g_others F_others.kp b_others
  have O_to_three : FnOk l.prog w K mg base (L2.CX l.prog w) 1 _ _ _ _ := fn_up (ok_to3 F_to_three)
  have c_to_three := mkCal O_to_three g_to_three F_to_three.kp b_to_three
  have O_beside_two : FnOk l.prog w K mg base (L2.CX l.prog w) 1 _ _ _ _ := fn_up (ok_bes F_beside_two)
  have c_beside_two := mkCal O_beside_two g_beside_two F_beside_two.kp b_beside_two
  have O_to_four : FnOk l.prog w K mg base (L2.CX l.prog w) 5 _ _ _ _ := fn_up (ok_to4 F_to_four T NC M_nbrs c_others c_to_three)
  have c_to_four := mkCal O_to_four g_to_four F_to_four.kp b_to_four
  have O_to_five : FnOk l.prog w K mg base (L2.CX l.prog w) 6 _ _ _ _ := fn_up (ok_to5 F_to_five T NC M_nbrs c_others c_to_three c_to_four c_beside_two)
  have c_to_five := mkCal O_to_five g_to_five F_to_five.kp b_to_five
  have O_schedule_low : FnOk l.prog w K mg base (L2.CX l.prog w) 7 _ _ _ _ := ok_low F_schedule_low T NC c_is_int M_chkX M_nbrs c_greatest_channels c_to_three c_to_four c_to_five X_NoChannel
  have c_schedule_low := mkCal O_schedule_low g_schedule_low F_schedule_low.kp b_schedule_low
  have O_all_off : FnOk l.prog w K mg base (L2.CX l.prog w) 3 _ _ _ _ := fn_up (ok_off F_all_off T NC M_len)
  have c_all_off := mkCal O_all_off g_all_off F_all_off.kp b_all_off
  have O_after : FnOk l.prog w K mg base (L2.CX l.prog w) 2 _ _ _ _ := fn_up ((ok_after F_after T NC).mono (by omega))
  have c_after := mkCal O_after g_after F_after.kp b_after
  have O_first_steps : FnOk l.prog w K mg base (L2.CX l.prog w) 5 _ _ _ _ := ok_first F_first_steps T NC M_len c_all_off c_after X_TooMany
  have c_first_steps := mkCal O_first_steps g_first_steps F_first_steps.kp b_first_steps
  have O_gr : FnOk l.prog w K mg base (L2.CX l.prog w) 6 _ _ _ _ := ok_gr F_greatest_reached T NC M_len c_first_steps
  have k_gr : CalK l.prog w K mg base 6 "greatest_reached" ["network", "most"] 1 ["most"] (fun vs zs => vs ++ zs) (spGR C C_TooMany) := by
    obtain ⟨mv, q⟩ := F_greatest_reached.kbinds0 (ps := ["network", "most"]) 1 ["most"] [] (fun us mv ws => us ++ ws) (by simp) (by simp) (fun r1 _ r2 => r1.append r2) (fun D doc pm an cdv ct us mv ws h1 h2 h3 => by
      match us, h1, mv, h2, ws, h3 with
      | [_], _, [], _, [_], _ => rfl)
    exact mkCalK O_gr g_greatest_reached F_greatest_reached.kp q
  have O__law_well : FnOk l.prog w K mg base (L2.CX l.prog w) 1 _ _ _ _ := fn_up (ok_well F__law_well T)
  have c__law_well := mkCal O__law_well g__law_well F__law_well.kp b__law_well
  have O__law_take : FnOk l.prog w K mg base (L2.CX l.prog w) 1 _ _ _ _ := fn_up (ok_take F__law_take)
  have c__law_take := mkCal O__law_take g__law_take F__law_take.kp b__law_take
  have O__law_mixed : FnOk l.prog w K mg base (L2.CX l.prog w) 2 _ _ _ _ := fn_up (ok_mixed F__law_mixed T c__law_take)
  have c__law_mixed := mkCal O__law_mixed g__law_mixed F__law_mixed.kp b__law_mixed
  have O__law_near : FnOk l.prog w K mg base (L2.CX l.prog w) 1 _ _ _ _ := fn_up (ok_near F__law_near T)
  have c__law_near := mkCal O__law_near g__law_near F__law_near.kp b__law_near
  have O__law_switched : FnOk l.prog w K mg base (L2.CX l.prog w) 2 _ _ _ _ := fn_up ((ok_lsw F__law_switched T).mono (by omega))
  have c__law_switched := mkCal O__law_switched g__law_switched F__law_switched.kp b__law_switched
  have O__law_ends : FnOk l.prog w K mg base (L2.CX l.prog w) 5 _ _ _ _ := fn_up ((ok_ends F__law_ends T c__law_switched).mono (by omega))
  have c__law_ends := mkCal O__law_ends g__law_ends F__law_ends.kp b__law_ends
  have O__law_plays_right : FnOk l.prog w K mg base (L2.CX l.prog w) 4 _ _ _ _ := fn_up (ok_plays F__law_plays_right T c__law_take c__law_switched)
  have c__law_plays_right := mkCal O__law_plays_right g__law_plays_right F__law_plays_right.kp b__law_plays_right
  have O__law_complete_right : FnOk l.prog w K mg base (L2.CX l.prog w) 8 _ _ _ _ := fn_up ((ok_complete F__law_complete_right T c_Network k_gr).mono (by omega))
  have c__law_complete_right := mkCal O__law_complete_right g__law_complete_right F__law_complete_right.kp b__law_complete_right
  have O__law_right : FnOk l.prog w K mg base (L2.CX l.prog w) 9 _ _ _ _ := fn_up ((ok_right F__law_right T NC c__law_take c__law_mixed c__law_near c_Network c_greatest_channels c__law_plays_right c__law_ends c_schedule_low k_gr m_NoChannel XF_NoChannel nf_NoChannel te_NoChannel).mono (by omega))
  have c__law_right := mkCal O__law_right g__law_right F__law_right.kp b__law_right
  exact ok_law F_law T c__law_well c__law_right c__law_complete_right
end NX
open PySem PySem.W PyProof.Rows in
set_option maxRecDepth 100000 in
set_option maxHeartbeats 0 in
theorem PySem.Challenge.cw_nextchannel_k45_whole_below_the_table_holds : PySem.Challenge.rw_nextchannel_k45_whole_below_the_table.Holds := by
  w_on; o_law; k_head; (case hw => w_witness2)
  k_fill
  refine NX.walk (l := PySem.Challenge.rw_nextchannel_k45_whole_below_the_table) (k := 10) (sp := NX.spLaw) rfl rfl ⟨rfl, by decide, by decide⟩ (fun w h Y => PySem.W.kIn_of Y) ?F (fun K H a ns hl hS => ⟨a, ns, rfl, hS, hl, fun _ => rfl⟩)
  case F =>
    intro w mg fa h KX G hmg
    refine' NX.all_mk KX G hmg ?h_z_all ?h_z_bool ?h_z_enumerate ?h_z_int ?h_z_isinstance ?h_z_len ?h_z_list ?h_z_max ?h_z_min ?h_z_range ?h_z_sorted ?h_z_tuple ?h_v_MAX_STATIONS ?h_v_MOST_LOW ?h_a_is_int ?h_l_is_int ?h_c_is_int ?h_k_is_int ?h_a_is_link ?h_l_is_link ?h_c_is_link ?h_k_is_link ?h_a_all_off ?h_l_all_off ?h_c_all_off ?h_k_all_off ?h_a_after ?h_l_after ?h_c_after ?h_k_after ?h_a_first_steps ?h_l_first_steps ?h_c_first_steps ?h_k_first_steps ?h_a_chain ?h_l_chain ?h_c_chain ?h_k_chain ?h_a_greatest_channels ?h_l_greatest_channels ?h_c_greatest_channels ?h_k_greatest_channels ?h_a_others ?h_l_others ?h_c_others ?h_k_others ?h_a_to_three ?h_l_to_three ?h_c_to_three ?h_k_to_three ?h_a_to_four ?h_l_to_four ?h_c_to_four ?h_k_to_four ?h_a_beside_two ?h_l_beside_two ?h_c_beside_two ?h_k_beside_two ?h_a_to_five ?h_l_to_five ?h_c_to_five ?h_k_to_five ?h_a_schedule_low ?h_l_schedule_low ?h_c_schedule_low ?h_k_schedule_low ?h_a__law_well ?h_l__law_well ?h_c__law_well ?h_k__law_well ?h_a__law_take ?h_l__law_take ?h_c__law_take ?h_k__law_take ?h_a__law_mixed ?h_l__law_mixed ?h_c__law_mixed ?h_k__law_mixed ?h_a__law_near ?h_l__law_near ?h_c__law_near ?h_k__law_near ?h_a__law_switched ?h_l__law_switched ?h_c__law_switched ?h_k__law_switched ?h_a__law_ends ?h_l__law_ends ?h_c__law_ends ?h_k__law_ends ?h_a__law_plays_right ?h_l__law_plays_right ?h_c__law_plays_right ?h_k__law_plays_right ?h_a__law_right ?h_l__law_right ?h_c__law_right ?h_k__law_right ?h_a__law_complete_right ?h_l__law_complete_right ?h_c__law_complete_right ?h_k__law_complete_right ?h_a_law ?h_l_law ?h_c_law ?h_k_law ?h_a_greatest_reached ?h_l_greatest_reached ?h_c_greatest_reached ?h_k_greatest_reached ?h_d_greatest_reached_most ?h_aC ?h_a_M_init ?h_i_M_init ?h_l_M_init ?h_c_M_init ?h_k_M_init ?h_a_M_len ?h_i_M_len ?h_l_M_len ?h_c_M_len ?h_k_M_len ?h_a_M_neighbours ?h_i_M_neighbours ?h_l_M_neighbours ?h_c_M_neighbours ?h_k_M_neighbours ?h_a_M_check_station ?h_i_M_check_station ?h_l_M_check_station ?h_c_M_check_station ?h_k_M_check_station ?h_pg ?h_hd ?h_po ?h_sa ?h_mk ?h_kc ?h_nK ?h_nN ?h_ha ?h_hn ?h_ht ?h_hm ?h_ne ?h_aB ?h_rdB ?h_gaB ?h_vVB ?h_aX_NoStation ?h_xL_NoStation ?h_sa_NoStation ?h_ga_NoStation ?h_gg_NoStation ?h_nf_NoStation ?h_aI_NoStation ?h_tI_NoStation ?h_l_I_NoStation ?h_c_I_NoStation ?h_k_I_NoStation ?h_kC_NoStation ?h_eC_NoStation ?h_tC_NoStation ?h_hC_NoStation ?h_sC_NoStation ?h_aX_NoChannel ?h_xL_NoChannel ?h_sa_NoChannel ?h_ga_NoChannel ?h_gg_NoChannel ?h_nf_NoChannel ?h_aI_NoChannel ?h_tI_NoChannel ?h_l_I_NoChannel ?h_c_I_NoChannel ?h_k_I_NoChannel ?h_kC_NoChannel ?h_eC_NoChannel ?h_tC_NoChannel ?h_hC_NoChannel ?h_sC_NoChannel ?h_aX_TooMany ?h_xL_TooMany ?h_sa_TooMany ?h_ga_TooMany ?h_gg_TooMany ?h_nf_TooMany ?h_aI_TooMany ?h_tI_TooMany ?h_l_I_TooMany ?h_c_I_TooMany ?h_k_I_TooMany ?h_kC_TooMany ?h_eC_TooMany ?h_tC_TooMany ?h_hC_TooMany ?h_sC_TooMany
    (case h_z_all => first | k_is | rfl | exact if_pos (beq_self_eq_true _) | exact hT _ (by decide) | decide)
    (case h_z_bool => first | k_is | rfl | exact if_pos (beq_self_eq_true _) | exact hT _ (by decide) | decide)
    (case h_z_enumerate => first | k_is | rfl | exact if_pos (beq_self_eq_true _) | exact hT _ (by decide) | decide)
    (case h_z_int => first | k_is | rfl | exact if_pos (beq_self_eq_true _) | exact hT _ (by decide) | decide)
    (case h_z_isinstance => first | k_is | rfl | exact if_pos (beq_self_eq_true _) | exact hT _ (by decide) | decide)
    (case h_z_len => first | k_is | rfl | exact if_pos (beq_self_eq_true _) | exact hT _ (by decide) | decide)
    (case h_z_list => first | k_is | rfl | exact if_pos (beq_self_eq_true _) | exact hT _ (by decide) | decide)
    (case h_z_max => first | k_is | rfl | exact if_pos (beq_self_eq_true _) | exact hT _ (by decide) | decide)
    (case h_z_min => first | k_is | rfl | exact if_pos (beq_self_eq_true _) | exact hT _ (by decide) | decide)
    (case h_z_range => first | k_is | rfl | exact if_pos (beq_self_eq_true _) | exact hT _ (by decide) | decide)
    (case h_z_sorted => first | k_is | rfl | exact if_pos (beq_self_eq_true _) | exact hT _ (by decide) | decide)
    (case h_z_tuple => first | k_is | rfl | exact if_pos (beq_self_eq_true _) | exact hT _ (by decide) | decide)
    (case h_v_MAX_STATIONS => first | k_is | rfl | exact if_pos (beq_self_eq_true _) | exact hT _ (by decide) | decide)
    (case h_v_MOST_LOW => first | k_is | rfl | exact if_pos (beq_self_eq_true _) | exact hT _ (by decide) | decide)
    (case h_a_is_int => first | k_is | rfl | exact if_pos (beq_self_eq_true _) | exact hT _ (by decide) | decide)
    (case h_l_is_int => first | k_is | rfl | exact if_pos (beq_self_eq_true _) | exact hT _ (by decide) | decide)
    (case h_c_is_int => first | k_is | rfl | exact if_pos (beq_self_eq_true _) | exact hT _ (by decide) | decide)
    (case h_k_is_int => first | k_is | rfl | exact if_pos (beq_self_eq_true _) | exact hT _ (by decide) | decide)
    (case h_a_is_link => first | k_is | rfl | exact if_pos (beq_self_eq_true _) | exact hT _ (by decide) | decide)
    (case h_l_is_link => first | k_is | rfl | exact if_pos (beq_self_eq_true _) | exact hT _ (by decide) | decide)
    (case h_c_is_link => first | k_is | rfl | exact if_pos (beq_self_eq_true _) | exact hT _ (by decide) | decide)
    (case h_k_is_link => first | k_is | rfl | exact if_pos (beq_self_eq_true _) | exact hT _ (by decide) | decide)
    (case h_a_all_off => first | k_is | rfl | exact if_pos (beq_self_eq_true _) | exact hT _ (by decide) | decide)
    (case h_l_all_off => first | k_is | rfl | exact if_pos (beq_self_eq_true _) | exact hT _ (by decide) | decide)
    (case h_c_all_off => first | k_is | rfl | exact if_pos (beq_self_eq_true _) | exact hT _ (by decide) | decide)
    (case h_k_all_off => first | k_is | rfl | exact if_pos (beq_self_eq_true _) | exact hT _ (by decide) | decide)
    (case h_a_after => first | k_is | rfl | exact if_pos (beq_self_eq_true _) | exact hT _ (by decide) | decide)
    (case h_l_after => first | k_is | rfl | exact if_pos (beq_self_eq_true _) | exact hT _ (by decide) | decide)
    (case h_c_after => first | k_is | rfl | exact if_pos (beq_self_eq_true _) | exact hT _ (by decide) | decide)
    (case h_k_after => first | k_is | rfl | exact if_pos (beq_self_eq_true _) | exact hT _ (by decide) | decide)
    (case h_a_first_steps => first | k_is | rfl | exact if_pos (beq_self_eq_true _) | exact hT _ (by decide) | decide)
    (case h_l_first_steps => first | k_is | rfl | exact if_pos (beq_self_eq_true _) | exact hT _ (by decide) | decide)
    (case h_c_first_steps => first | k_is | rfl | exact if_pos (beq_self_eq_true _) | exact hT _ (by decide) | decide)
    (case h_k_first_steps => first | k_is | rfl | exact if_pos (beq_self_eq_true _) | exact hT _ (by decide) | decide)
    (case h_a_chain => first | k_is | rfl | exact if_pos (beq_self_eq_true _) | exact hT _ (by decide) | decide)
    (case h_l_chain => first | k_is | rfl | exact if_pos (beq_self_eq_true _) | exact hT _ (by decide) | decide)
    (case h_c_chain => first | k_is | rfl | exact if_pos (beq_self_eq_true _) | exact hT _ (by decide) | decide)
    (case h_k_chain => first | k_is | rfl | exact if_pos (beq_self_eq_true _) | exact hT _ (by decide) | decide)
    (case h_a_greatest_channels => first | k_is | rfl | exact if_pos (beq_self_eq_true _) | exact hT _ (by decide) | decide)
    (case h_l_greatest_channels => first | k_is | rfl | exact if_pos (beq_self_eq_true _) | exact hT _ (by decide) | decide)
    (case h_c_greatest_channels => first | k_is | rfl | exact if_pos (beq_self_eq_true _) | exact hT _ (by decide) | decide)
    (case h_k_greatest_channels => first | k_is | rfl | exact if_pos (beq_self_eq_true _) | exact hT _ (by decide) | decide)
    (case h_a_others => first | k_is | rfl | exact if_pos (beq_self_eq_true _) | exact hT _ (by decide) | decide)
    (case h_l_others => first | k_is | rfl | exact if_pos (beq_self_eq_true _) | exact hT _ (by decide) | decide)
    (case h_c_others => first | k_is | rfl | exact if_pos (beq_self_eq_true _) | exact hT _ (by decide) | decide)
    (case h_k_others => first | k_is | rfl | exact if_pos (beq_self_eq_true _) | exact hT _ (by decide) | decide)
    (case h_a_to_three => first | k_is | rfl | exact if_pos (beq_self_eq_true _) | exact hT _ (by decide) | decide)
    (case h_l_to_three => first | k_is | rfl | exact if_pos (beq_self_eq_true _) | exact hT _ (by decide) | decide)
    (case h_c_to_three => first | k_is | rfl | exact if_pos (beq_self_eq_true _) | exact hT _ (by decide) | decide)
    (case h_k_to_three => first | k_is | rfl | exact if_pos (beq_self_eq_true _) | exact hT _ (by decide) | decide)
    (case h_a_to_four => first | k_is | rfl | exact if_pos (beq_self_eq_true _) | exact hT _ (by decide) | decide)
    (case h_l_to_four => first | k_is | rfl | exact if_pos (beq_self_eq_true _) | exact hT _ (by decide) | decide)
    (case h_c_to_four => first | k_is | rfl | exact if_pos (beq_self_eq_true _) | exact hT _ (by decide) | decide)
    (case h_k_to_four => first | k_is | rfl | exact if_pos (beq_self_eq_true _) | exact hT _ (by decide) | decide)
    (case h_a_beside_two => first | k_is | rfl | exact if_pos (beq_self_eq_true _) | exact hT _ (by decide) | decide)
    (case h_l_beside_two => first | k_is | rfl | exact if_pos (beq_self_eq_true _) | exact hT _ (by decide) | decide)
    (case h_c_beside_two => first | k_is | rfl | exact if_pos (beq_self_eq_true _) | exact hT _ (by decide) | decide)
    (case h_k_beside_two => first | k_is | rfl | exact if_pos (beq_self_eq_true _) | exact hT _ (by decide) | decide)
    (case h_a_to_five => first | k_is | rfl | exact if_pos (beq_self_eq_true _) | exact hT _ (by decide) | decide)
    (case h_l_to_five => first | k_is | rfl | exact if_pos (beq_self_eq_true _) | exact hT _ (by decide) | decide)
    (case h_c_to_five => first | k_is | rfl | exact if_pos (beq_self_eq_true _) | exact hT _ (by decide) | decide)
    (case h_k_to_five => first | k_is | rfl | exact if_pos (beq_self_eq_true _) | exact hT _ (by decide) | decide)
    (case h_a_schedule_low => first | k_is | rfl | exact if_pos (beq_self_eq_true _) | exact hT _ (by decide) | decide)
    (case h_l_schedule_low => first | k_is | rfl | exact if_pos (beq_self_eq_true _) | exact hT _ (by decide) | decide)
    (case h_c_schedule_low => first | k_is | rfl | exact if_pos (beq_self_eq_true _) | exact hT _ (by decide) | decide)
    (case h_k_schedule_low => first | k_is | rfl | exact if_pos (beq_self_eq_true _) | exact hT _ (by decide) | decide)
    (case h_a__law_well => first | k_is | rfl | exact if_pos (beq_self_eq_true _) | exact hT _ (by decide) | decide)
    (case h_l__law_well => first | k_is | rfl | exact if_pos (beq_self_eq_true _) | exact hT _ (by decide) | decide)
    (case h_c__law_well => first | k_is | rfl | exact if_pos (beq_self_eq_true _) | exact hT _ (by decide) | decide)
    (case h_k__law_well => first | k_is | rfl | exact if_pos (beq_self_eq_true _) | exact hT _ (by decide) | decide)
    (case h_a__law_take => first | k_is | rfl | exact if_pos (beq_self_eq_true _) | exact hT _ (by decide) | decide)
    (case h_l__law_take => first | k_is | rfl | exact if_pos (beq_self_eq_true _) | exact hT _ (by decide) | decide)
    (case h_c__law_take => first | k_is | rfl | exact if_pos (beq_self_eq_true _) | exact hT _ (by decide) | decide)
    (case h_k__law_take => first | k_is | rfl | exact if_pos (beq_self_eq_true _) | exact hT _ (by decide) | decide)
    (case h_a__law_mixed => first | k_is | rfl | exact if_pos (beq_self_eq_true _) | exact hT _ (by decide) | decide)
    (case h_l__law_mixed => first | k_is | rfl | exact if_pos (beq_self_eq_true _) | exact hT _ (by decide) | decide)
    (case h_c__law_mixed => first | k_is | rfl | exact if_pos (beq_self_eq_true _) | exact hT _ (by decide) | decide)
    (case h_k__law_mixed => first | k_is | rfl | exact if_pos (beq_self_eq_true _) | exact hT _ (by decide) | decide)
    (case h_a__law_near => first | k_is | rfl | exact if_pos (beq_self_eq_true _) | exact hT _ (by decide) | decide)
    (case h_l__law_near => first | k_is | rfl | exact if_pos (beq_self_eq_true _) | exact hT _ (by decide) | decide)
    (case h_c__law_near => first | k_is | rfl | exact if_pos (beq_self_eq_true _) | exact hT _ (by decide) | decide)
    (case h_k__law_near => first | k_is | rfl | exact if_pos (beq_self_eq_true _) | exact hT _ (by decide) | decide)
    (case h_a__law_switched => first | k_is | rfl | exact if_pos (beq_self_eq_true _) | exact hT _ (by decide) | decide)
    (case h_l__law_switched => first | k_is | rfl | exact if_pos (beq_self_eq_true _) | exact hT _ (by decide) | decide)
    (case h_c__law_switched => first | k_is | rfl | exact if_pos (beq_self_eq_true _) | exact hT _ (by decide) | decide)
    (case h_k__law_switched => first | k_is | rfl | exact if_pos (beq_self_eq_true _) | exact hT _ (by decide) | decide)
    (case h_a__law_ends => first | k_is | rfl | exact if_pos (beq_self_eq_true _) | exact hT _ (by decide) | decide)
    (case h_l__law_ends => first | k_is | rfl | exact if_pos (beq_self_eq_true _) | exact hT _ (by decide) | decide)
    (case h_c__law_ends => first | k_is | rfl | exact if_pos (beq_self_eq_true _) | exact hT _ (by decide) | decide)
    (case h_k__law_ends => first | k_is | rfl | exact if_pos (beq_self_eq_true _) | exact hT _ (by decide) | decide)
    (case h_a__law_plays_right => first | k_is | rfl | exact if_pos (beq_self_eq_true _) | exact hT _ (by decide) | decide)
    (case h_l__law_plays_right => first | k_is | rfl | exact if_pos (beq_self_eq_true _) | exact hT _ (by decide) | decide)
    (case h_c__law_plays_right => first | k_is | rfl | exact if_pos (beq_self_eq_true _) | exact hT _ (by decide) | decide)
    (case h_k__law_plays_right => first | k_is | rfl | exact if_pos (beq_self_eq_true _) | exact hT _ (by decide) | decide)
    (case h_a__law_right => first | k_is | rfl | exact if_pos (beq_self_eq_true _) | exact hT _ (by decide) | decide)
    (case h_l__law_right => first | k_is | rfl | exact if_pos (beq_self_eq_true _) | exact hT _ (by decide) | decide)
    (case h_c__law_right => first | k_is | rfl | exact if_pos (beq_self_eq_true _) | exact hT _ (by decide) | decide)
    (case h_k__law_right => first | k_is | rfl | exact if_pos (beq_self_eq_true _) | exact hT _ (by decide) | decide)
    (case h_a__law_complete_right => first | k_is | rfl | exact if_pos (beq_self_eq_true _) | exact hT _ (by decide) | decide)
    (case h_l__law_complete_right => first | k_is | rfl | exact if_pos (beq_self_eq_true _) | exact hT _ (by decide) | decide)
    (case h_c__law_complete_right => first | k_is | rfl | exact if_pos (beq_self_eq_true _) | exact hT _ (by decide) | decide)
    (case h_k__law_complete_right => first | k_is | rfl | exact if_pos (beq_self_eq_true _) | exact hT _ (by decide) | decide)
    (case h_a_law => first | k_is | rfl | exact if_pos (beq_self_eq_true _) | exact hT _ (by decide) | decide)
    (case h_l_law => first | k_is | rfl | exact if_pos (beq_self_eq_true _) | exact hT _ (by decide) | decide)
    (case h_c_law => first | k_is | rfl | exact if_pos (beq_self_eq_true _) | exact hT _ (by decide) | decide)
    (case h_k_law => first | k_is | rfl | exact if_pos (beq_self_eq_true _) | exact hT _ (by decide) | decide)
    (case h_a_greatest_reached => first | k_is | rfl | exact if_pos (beq_self_eq_true _) | exact hT _ (by decide) | decide)
    (case h_l_greatest_reached => first | k_is | rfl | exact if_pos (beq_self_eq_true _) | exact hT _ (by decide) | decide)
    (case h_c_greatest_reached => first | k_is | rfl | exact if_pos (beq_self_eq_true _) | exact hT _ (by decide) | decide)
    (case h_k_greatest_reached => first | k_is | rfl | exact if_pos (beq_self_eq_true _) | exact hT _ (by decide) | decide)
    (case h_d_greatest_reached_most => first | k_is | rfl | exact if_pos (beq_self_eq_true _) | exact hT _ (by decide) | decide)
    (case h_aC => first | k_is | rfl | exact if_pos (beq_self_eq_true _) | exact hT _ (by decide) | decide)
    (case h_a_M_init => first | k_is | rfl | exact if_pos (beq_self_eq_true _) | exact hT _ (by decide) | decide)
    (case h_i_M_init => first | k_is | rfl | exact if_pos (beq_self_eq_true _) | exact hT _ (by decide) | decide)
    (case h_l_M_init => first | k_is | rfl | exact if_pos (beq_self_eq_true _) | exact hT _ (by decide) | decide)
    (case h_c_M_init => first | k_is | rfl | exact if_pos (beq_self_eq_true _) | exact hT _ (by decide) | decide)
    (case h_k_M_init => first | k_is | rfl | exact if_pos (beq_self_eq_true _) | exact hT _ (by decide) | decide)
    (case h_a_M_len => first | k_is | rfl | exact if_pos (beq_self_eq_true _) | exact hT _ (by decide) | decide)
    (case h_i_M_len => first | k_is | rfl | exact if_pos (beq_self_eq_true _) | exact hT _ (by decide) | decide)
    (case h_l_M_len => first | k_is | rfl | exact if_pos (beq_self_eq_true _) | exact hT _ (by decide) | decide)
    (case h_c_M_len => first | k_is | rfl | exact if_pos (beq_self_eq_true _) | exact hT _ (by decide) | decide)
    (case h_k_M_len => first | k_is | rfl | exact if_pos (beq_self_eq_true _) | exact hT _ (by decide) | decide)
    (case h_a_M_neighbours => first | k_is | rfl | exact if_pos (beq_self_eq_true _) | exact hT _ (by decide) | decide)
    (case h_i_M_neighbours => first | k_is | rfl | exact if_pos (beq_self_eq_true _) | exact hT _ (by decide) | decide)
    (case h_l_M_neighbours => first | k_is | rfl | exact if_pos (beq_self_eq_true _) | exact hT _ (by decide) | decide)
    (case h_c_M_neighbours => first | k_is | rfl | exact if_pos (beq_self_eq_true _) | exact hT _ (by decide) | decide)
    (case h_k_M_neighbours => first | k_is | rfl | exact if_pos (beq_self_eq_true _) | exact hT _ (by decide) | decide)
    (case h_a_M_check_station => first | k_is | rfl | exact if_pos (beq_self_eq_true _) | exact hT _ (by decide) | decide)
    (case h_i_M_check_station => first | k_is | rfl | exact if_pos (beq_self_eq_true _) | exact hT _ (by decide) | decide)
    (case h_l_M_check_station => first | k_is | rfl | exact if_pos (beq_self_eq_true _) | exact hT _ (by decide) | decide)
    (case h_c_M_check_station => first | k_is | rfl | exact if_pos (beq_self_eq_true _) | exact hT _ (by decide) | decide)
    (case h_k_M_check_station => first | k_is | rfl | exact if_pos (beq_self_eq_true _) | exact hT _ (by decide) | decide)
    (case h_pg => first | k_is | rfl | exact if_pos (beq_self_eq_true _) | exact hT _ (by decide) | decide)
    (case h_hd => first | k_is | rfl | exact if_pos (beq_self_eq_true _) | exact hT _ (by decide) | decide)
    (case h_po => first | k_is | rfl | exact if_pos (beq_self_eq_true _) | exact hT _ (by decide) | decide)
    (case h_sa => first | k_is | rfl | exact if_pos (beq_self_eq_true _) | exact hT _ (by decide) | decide)
    (case h_mk => first | k_is | rfl | exact if_pos (beq_self_eq_true _) | exact hT _ (by decide) | decide)
    (case h_kc => first | k_is | rfl | exact if_pos (beq_self_eq_true _) | exact hT _ (by decide) | decide)
    (case h_nK => first | k_is | rfl | exact if_pos (beq_self_eq_true _) | exact hT _ (by decide) | decide)
    (case h_nN => first | k_is | rfl | exact if_pos (beq_self_eq_true _) | exact hT _ (by decide) | decide)
    (case h_ha => first | k_is | rfl | exact if_pos (beq_self_eq_true _) | exact hT _ (by decide) | decide)
    (case h_hn => first | k_is | rfl | exact if_pos (beq_self_eq_true _) | exact hT _ (by decide) | decide)
    (case h_ht => first | k_is | rfl | exact if_pos (beq_self_eq_true _) | exact hT _ (by decide) | decide)
    (case h_hm => first | k_is | rfl | exact if_pos (beq_self_eq_true _) | exact hT _ (by decide) | decide)
    (case h_ne => first | k_is | rfl | exact if_pos (beq_self_eq_true _) | exact hT _ (by decide) | decide)
    (case h_aB => first | k_is | rfl | exact if_pos (beq_self_eq_true _) | exact hT _ (by decide) | decide)
    (case h_rdB => first | k_is | rfl | exact if_pos (beq_self_eq_true _) | exact hT _ (by decide) | decide)
    (case h_gaB => first | k_is | rfl | exact if_pos (beq_self_eq_true _) | exact hT _ (by decide) | decide)
    (case h_vVB => first | k_is | rfl | exact if_pos (beq_self_eq_true _) | exact hT _ (by decide) | decide)
    (case h_aX_NoStation => first | k_is | rfl | exact if_pos (beq_self_eq_true _) | exact hT _ (by decide) | decide)
    (case h_xL_NoStation => first | k_is | rfl | exact if_pos (beq_self_eq_true _) | exact hT _ (by decide) | decide)
    (case h_sa_NoStation => first | k_is | rfl | exact if_pos (beq_self_eq_true _) | exact hT _ (by decide) | decide)
    (case h_ga_NoStation => first | k_is | rfl | exact if_pos (beq_self_eq_true _) | exact hT _ (by decide) | decide)
    (case h_gg_NoStation => first | k_is | rfl | exact if_pos (beq_self_eq_true _) | exact hT _ (by decide) | decide)
    (case h_nf_NoStation => first | k_is | rfl | exact if_pos (beq_self_eq_true _) | exact hT _ (by decide) | decide)
    (case h_aI_NoStation => first | k_is | rfl | exact if_pos (beq_self_eq_true _) | exact hT _ (by decide) | decide)
    (case h_tI_NoStation => first | k_is | rfl | exact if_pos (beq_self_eq_true _) | exact hT _ (by decide) | decide)
    (case h_l_I_NoStation => first | k_is | rfl | exact if_pos (beq_self_eq_true _) | exact hT _ (by decide) | decide)
    (case h_c_I_NoStation => first | k_is | rfl | exact if_pos (beq_self_eq_true _) | exact hT _ (by decide) | decide)
    (case h_k_I_NoStation => first | k_is | rfl | exact if_pos (beq_self_eq_true _) | exact hT _ (by decide) | decide)
    (case h_kC_NoStation => first | k_is | rfl | exact if_pos (beq_self_eq_true _) | exact hT _ (by decide) | decide)
    (case h_eC_NoStation => first | k_is | rfl | exact if_pos (beq_self_eq_true _) | exact hT _ (by decide) | decide)
    (case h_tC_NoStation => first | k_is | rfl | exact if_pos (beq_self_eq_true _) | exact hT _ (by decide) | decide)
    (case h_hC_NoStation => first | k_is | rfl | exact if_pos (beq_self_eq_true _) | exact hT _ (by decide) | decide)
    (case h_sC_NoStation => first | k_is | rfl | exact if_pos (beq_self_eq_true _) | exact hT _ (by decide) | decide)
    (case h_aX_NoChannel => first | k_is | rfl | exact if_pos (beq_self_eq_true _) | exact hT _ (by decide) | decide)
    (case h_xL_NoChannel => first | k_is | rfl | exact if_pos (beq_self_eq_true _) | exact hT _ (by decide) | decide)
    (case h_sa_NoChannel => first | k_is | rfl | exact if_pos (beq_self_eq_true _) | exact hT _ (by decide) | decide)
    (case h_ga_NoChannel => first | k_is | rfl | exact if_pos (beq_self_eq_true _) | exact hT _ (by decide) | decide)
    (case h_gg_NoChannel => first | k_is | rfl | exact if_pos (beq_self_eq_true _) | exact hT _ (by decide) | decide)
    (case h_nf_NoChannel => first | k_is | rfl | exact if_pos (beq_self_eq_true _) | exact hT _ (by decide) | decide)
    (case h_aI_NoChannel => first | k_is | rfl | exact if_pos (beq_self_eq_true _) | exact hT _ (by decide) | decide)
    (case h_tI_NoChannel => first | k_is | rfl | exact if_pos (beq_self_eq_true _) | exact hT _ (by decide) | decide)
    (case h_l_I_NoChannel => first | k_is | rfl | exact if_pos (beq_self_eq_true _) | exact hT _ (by decide) | decide)
    (case h_c_I_NoChannel => first | k_is | rfl | exact if_pos (beq_self_eq_true _) | exact hT _ (by decide) | decide)
    (case h_k_I_NoChannel => first | k_is | rfl | exact if_pos (beq_self_eq_true _) | exact hT _ (by decide) | decide)
    (case h_kC_NoChannel => first | k_is | rfl | exact if_pos (beq_self_eq_true _) | exact hT _ (by decide) | decide)
    (case h_eC_NoChannel => first | k_is | rfl | exact if_pos (beq_self_eq_true _) | exact hT _ (by decide) | decide)
    (case h_tC_NoChannel => first | k_is | rfl | exact if_pos (beq_self_eq_true _) | exact hT _ (by decide) | decide)
    (case h_hC_NoChannel => first | k_is | rfl | exact if_pos (beq_self_eq_true _) | exact hT _ (by decide) | decide)
    (case h_sC_NoChannel => first | k_is | rfl | exact if_pos (beq_self_eq_true _) | exact hT _ (by decide) | decide)
    (case h_aX_TooMany => first | k_is | rfl | exact if_pos (beq_self_eq_true _) | exact hT _ (by decide) | decide)
    (case h_xL_TooMany => first | k_is | rfl | exact if_pos (beq_self_eq_true _) | exact hT _ (by decide) | decide)
    (case h_sa_TooMany => first | k_is | rfl | exact if_pos (beq_self_eq_true _) | exact hT _ (by decide) | decide)
    (case h_ga_TooMany => first | k_is | rfl | exact if_pos (beq_self_eq_true _) | exact hT _ (by decide) | decide)
    (case h_gg_TooMany => first | k_is | rfl | exact if_pos (beq_self_eq_true _) | exact hT _ (by decide) | decide)
    (case h_nf_TooMany => first | k_is | rfl | exact if_pos (beq_self_eq_true _) | exact hT _ (by decide) | decide)
    (case h_aI_TooMany => first | k_is | rfl | exact if_pos (beq_self_eq_true _) | exact hT _ (by decide) | decide)
    (case h_tI_TooMany => first | k_is | rfl | exact if_pos (beq_self_eq_true _) | exact hT _ (by decide) | decide)
    (case h_l_I_TooMany => first | k_is | rfl | exact if_pos (beq_self_eq_true _) | exact hT _ (by decide) | decide)
    (case h_c_I_TooMany => first | k_is | rfl | exact if_pos (beq_self_eq_true _) | exact hT _ (by decide) | decide)
    (case h_k_I_TooMany => first | k_is | rfl | exact if_pos (beq_self_eq_true _) | exact hT _ (by decide) | decide)
    (case h_kC_TooMany => first | k_is | rfl | exact if_pos (beq_self_eq_true _) | exact hT _ (by decide) | decide)
    (case h_eC_TooMany => first | k_is | rfl | exact if_pos (beq_self_eq_true _) | exact hT _ (by decide) | decide)
    (case h_tC_TooMany => first | k_is | rfl | exact if_pos (beq_self_eq_true _) | exact hT _ (by decide) | decide)
    (case h_hC_TooMany => first | k_is | rfl | exact if_pos (beq_self_eq_true _) | exact hT _ (by decide) | decide)
    (case h_sC_TooMany => first | k_is | rfl | exact if_pos (beq_self_eq_true _) | exact hT _ (by decide) | decide)
#print axioms PySem.Challenge.cw_nextchannel_k45_whole_below_the_table_holds

