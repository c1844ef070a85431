import PyProof.Rows.All
import Wide.All
import OpenK.AllK
import Wide.FinOn
import HandS.ForMost
import HandS.ForExc
import HandS.Evl
import HandS.IsInst
import HandS.Defaults
import HandS.Conv
import HandS.Deep
import HandS.SortInts
import HandS.SortRule
import HandS.TupAny
import HandS.TupMul
import HandS.OwnEq
import HandS.Strs
import HandS.SetFor
import HandS.ExcInit
import HandS.ExcIs
import HandS.ExcField
import HandS.ClsMeth
import HandS.Zip
import HandS.MakeKwOnly
import PySem.Challenge.RW_nextchannel_k50_links_added_and_removed
set_option Elab.async false
set_option linter.all false
set_option maxRecDepth 100000
set_option maxHeartbeats 4000000
/-! Own layer over HandS: owned local objects (Own), readings step by step (g_..). -/
namespace NX
open PySem PySem.Spec PyProof.Rows L2
open Evl (Ex ex_l ex_t fresh_back)

/-! ### heaps -/
/-- H without the addresses of L -/
def cut (H : Hp) (L : List (Addr × HO)) : Hp := fun a => if a ∈ L.map Prod.fst then none else H a
theorem cut_in {H : Hp} {L : List (Addr × HO)} {a : Addr} (h : a ∈ L.map Prod.fst) : cut H L a = none := by unfold cut; rw [if_pos h]
theorem cut_out {H : Hp} {L : List (Addr × HO)} {a : Addr} (h : a ∉ L.map Prod.fst) : cut H L a = H a := by unfold cut; rw [if_neg h]
def noTup : HO → Bool
  | .tup _ => false
  | .frz _ _ => false
  | _ => true
/-- G: what stands still; L: what the body may change, as it is now -/
structure Own (G : Hp) (L : List (Addr × HO)) (H : Hp) : Prop where
  ex : Ex G H
  at_ : ∀ p ∈ L, G p.1 = none ∧ H p.1 = some p.2
  nd : (L.map Prod.fst).Nodup
  nt : ∀ p ∈ L, noTup p.2 = true
section
variable {G H H' : Hp} {L : List (Addr × HO)} {p q r s : Addr} {o o' o1 o2 o3 o4 : HO}
theorem Own.start (H : Hp) : Own H [] H := ⟨Ex.refl H, fun _ h => (nomatch h), by simp, fun _ h => (nomatch h)⟩
theorem Own.grow (S : Own G L H) (e : Ex H H') : Own G L H' := ⟨S.ex.trans e, fun p h => ⟨(S.at_ p h).1, e _ _ (S.at_ p h).2⟩, S.nd, S.nt⟩
theorem Own.fresh (S : Own G L H) (h : H p = none) : p ∉ L.map Prod.fst := fun m => by
  obtain ⟨x, hx, e⟩ := List.mem_map.mp m
  have z := (S.at_ x hx).2
  rw [e, h] at z
  cases z
theorem Own.new (S : Own G L H) (e : Ex H H') (hp : H p = none) (h : H' p = some o) (ht : noTup o = true := by rfl) : Own G ((p, o) :: L) H' :=
  ⟨S.ex.trans e, fun x hx => by
    rcases List.mem_cons.mp hx with rfl | hx
    · exact ⟨fresh_back S.ex hp, h⟩
    · exact ⟨(S.at_ x hx).1, e _ _ (S.at_ x hx).2⟩, by
    rw [List.map_cons, List.nodup_cons]
    exact ⟨S.fresh hp, S.nd⟩, fun x hx => by
    rcases List.mem_cons.mp hx with rfl | hx
    · exact ht
    · exact S.nt x hx⟩
theorem ex_upd (hp : H p = none) : Ex H (upd H p o) := Ex.new hp
theorem Own.lay (S : Own G L H) (hp : H p = none) (ht : noTup o = true := by rfl) : Own G ((p, o) :: L) (upd H p o) := S.new (Ex.new hp) hp upd_same ht
theorem Own.forget (S : Own G ((p, o) :: L) H) : Own G L H := ⟨S.ex, fun x hx => S.at_ x (List.mem_cons_of_mem _ hx), by
  have z := S.nd
  rw [List.map_cons, List.nodup_cons] at z
  exact z.2, fun x hx => S.nt x (List.mem_cons_of_mem _ hx)⟩
theorem Own.get0 (S : Own G ((p, o) :: L) H) : H p = some o := (S.at_ _ List.mem_cons_self).2
theorem Own.get1 (S : Own G ((q, o1) :: (p, o) :: L) H) : H p = some o := S.forget.get0
theorem Own.get2 (S : Own G ((r, o2) :: (q, o1) :: (p, o) :: L) H) : H p = some o := S.forget.get1
theorem Own.get3 (S : Own G ((s, o3) :: (r, o2) :: (q, o1) :: (p, o) :: L) H) : H p = some o := S.forget.get2
theorem Own.no0 (S : Own G ((p, o) :: L) H) : G p = none := (S.at_ _ List.mem_cons_self).1
theorem Own.nin (S : Own G ((p, o) :: L) H) : p ∉ L.map Prod.fst := by
  have z := S.nd
  rw [List.map_cons, List.nodup_cons] at z
  exact z.1
theorem ex_mut (e : Ex G H) (h : G p = none) : Ex G (upd H p o) := fun a u ha => by
  rw [upd_ne (ne_of_none ha h)]
  exact e a u ha
theorem Own.put0 (S : Own G ((p, o) :: L) H) (ht : noTup o' = true := by rfl) : Own G ((p, o') :: L) (upd H p o') :=
  ⟨ex_mut S.ex S.no0, fun x hx => by
    rcases List.mem_cons.mp hx with rfl | hx
    · exact ⟨S.no0, upd_same⟩
    · have ne : x.1 ≠ p := fun e => S.nin (e ▸ List.mem_map_of_mem hx)
      rw [upd_ne ne]
      exact S.at_ x (List.mem_cons_of_mem _ hx), S.nd, fun x hx => by
    rcases List.mem_cons.mp hx with rfl | hx
    · exact ht
    · exact S.nt x (List.mem_cons_of_mem _ hx)⟩
theorem Own.perm {L' : List (Addr × HO)} (S : Own G L H) (h : L'.Perm L) : Own G L' H :=
  ⟨S.ex, fun x hx => S.at_ x (h.mem_iff.mp hx), (h.map Prod.fst).nodup_iff.mpr S.nd, fun x hx => S.nt x (h.mem_iff.mp hx)⟩
theorem Own.getM (S : Own G L H) (h : (p, o) ∈ L) : H p = some o := (S.at_ _ h).2
theorem nd_ne {L : List (Addr × HO)} (nd : (L.map Prod.fst).Nodup) {i j : Nat} {a b : Addr × HO} (hi : L[i]? = some a) (hj : L[j]? = some b) (ne : i ≠ j) : a.1 ≠ b.1 := fun e => by
  have h1 : (L.map Prod.fst)[i]? = some a.1 := by rw [List.getElem?_map, hi] <;> rfl
  have h2 : (L.map Prod.fst)[j]? = some a.1 := by rw [List.getElem?_map, hj, e] <;> rfl
  obtain ⟨l1, e1⟩ := List.getElem?_eq_some_iff.mp h1
  obtain ⟨l2, e2⟩ := List.getElem?_eq_some_iff.mp h2
  exact ne ((List.getElem_inj nd).mp (e1.trans e2.symm))
theorem Own.putM {j : Nat} (S : Own G L H) (h : L[j]? = some (p, o)) (ht : noTup o' = true := by rfl) : Own G (L.set j (p, o')) (upd H p o') := by
  have hm : (p, o) ∈ L := List.mem_of_getElem? h
  have hj : j < L.length := (List.getElem?_eq_some_iff.mp h).1
  have np : G p = none := (S.at_ _ hm).1
  have em : (L.set j (p, o')).map Prod.fst = L.map Prod.fst := by
    rw [List.map_set]
    refine List.ext_getElem? fun i => ?_
    by_cases c : j = i
    · subst c
      rw [List.getElem?_set_self (by rw [List.length_map]; exact hj), List.getElem?_map, h] <;> rfl
    · rw [List.getElem?_set_ne c]
  have cases_ : ∀ x ∈ L.set j (p, o'), x = (p, o') ∨ (x ∈ L ∧ x.1 ≠ p) := fun x hx => by
    obtain ⟨i, hi, e⟩ := List.mem_iff_getElem.mp hx
    have e' : (L.set j (p, o'))[i]? = some x := by rw [List.getElem?_eq_getElem hi, e]
    by_cases c : j = i
    · subst c
      rw [List.getElem?_set_self hj] at e'
      exact .inl (Option.some.inj e').symm
    · rw [List.getElem?_set_ne c] at e'
      exact .inr ⟨List.mem_of_getElem? e', nd_ne S.nd e' h (Ne.symm c)⟩
  refine ⟨ex_mut S.ex np, fun x hx => ?_, by rw [em]; exact S.nd, fun x hx => ?_⟩
  · rcases cases_ x hx with rfl | ⟨m, ne⟩
    · exact ⟨np, upd_same⟩
    · rw [upd_ne ne]
      exact S.at_ x m
  · rcases cases_ x hx with rfl | ⟨m, ne⟩
    · exact ht
    · exact S.nt x m
theorem Own.swap (S : Own G ((p, o) :: (q, o1) :: L) H) : Own G ((q, o1) :: (p, o) :: L) H := S.perm (List.Perm.swap _ _ _)
theorem Own.put1 (S : Own G ((q, o1) :: (p, o) :: L) H) (ht : noTup o' = true := by rfl) : Own G ((q, o1) :: (p, o') :: L) (upd H p o') := (S.swap.put0 ht).swap
theorem rot_perm {α : Type} (a b c : α) (l : List α) : (c :: a :: b :: l).Perm (a :: b :: c :: l) := (List.Perm.swap a c _).trans ((List.Perm.swap b c _).cons _)
theorem Own.rot (S : Own G ((r, o2) :: (q, o1) :: (p, o) :: L) H) : Own G ((p, o) :: (r, o2) :: (q, o1) :: L) H := S.perm (rot_perm _ _ _ _)
theorem Own.unrot (S : Own G ((p, o) :: (r, o2) :: (q, o1) :: L) H) : Own G ((r, o2) :: (q, o1) :: (p, o) :: L) H := S.perm (rot_perm _ _ _ _).symm
theorem Own.put2 (S : Own G ((r, o2) :: (q, o1) :: (p, o) :: L) H) (ht : noTup o' = true := by rfl) : Own G ((r, o2) :: (q, o1) :: (p, o') :: L) (upd H p o') := (S.rot.put0 ht).unrot
/-- what is new in H' (and the tuples of H) -/
def nw (H H' : Hp) : Hp := fun a => match H a with
  | none => H' a
  | some o => if noTup o then none else H' a
theorem nw_new {a : Addr} (h : H a = none) : nw H H' a = H' a := by unfold nw; rw [h]
theorem nw_tup {a : Addr} {o : HO} (h : H a = some o) (ht : noTup o = false) : nw H H' a = H' a := by
  unfold nw; rw [h]
  show (if noTup o = true then none else H' a) = H' a
  rw [ht] <;> rfl
theorem nw_mono {G H H' : Hp} (e : Ex G H) : Ex (nw H H') (nw G H') := fun a u h => by
  cases q : H a with
  | none =>
    rw [nw_new q] at h
    rw [nw_new (fresh_back e q)]
    exact h
  | some o =>
    cases t : noTup o with
    | true => unfold nw at h; rw [q] at h; simp [t] at h
    | false =>
      rw [nw_tup q t] at h
      cases z : G a with
      | none => rw [nw_new z]; exact h
      | some o' =>
        have y := e _ _ z
        rw [q] at y
        cases y
        rw [nw_tup z t]
        exact h
/-- what is new stands still from now on -/
theorem Own.absorb (S : Own G L H) (e : Ex H H') : Own (cut H' L) L H' ∧ Ex G (cut H' L) ∧ Ex (nw H H') (cut H' L) :=
  ⟨⟨fun a u h => by
      by_cases m : a ∈ L.map Prod.fst
      · rw [cut_in m] at h; cases h
      · rw [cut_out m] at h; exact h, fun x hx => ⟨cut_in (List.mem_map_of_mem hx), e _ _ (S.at_ x hx).2⟩, S.nd, S.nt⟩,
    fun a u h => by
      have m : a ∉ L.map Prod.fst := fun m => by
        obtain ⟨x, hx, z⟩ := List.mem_map.mp m
        have y := (S.at_ x hx).1
        rw [z, h] at y
        cases y
      rw [cut_out m]
      exact e _ _ (S.ex _ _ h),
    fun a o h => by
      cases q : H a with
      | none => rw [cut_out (S.fresh q), ← nw_new (H' := H') q]; exact h
      | some u =>
        cases t : noTup u with
        | true => unfold nw at h; rw [q] at h; simp [t] at h
        | false =>
          have m : a ∉ L.map Prod.fst := fun m => by
            obtain ⟨x, hx, z⟩ := List.mem_map.mp m
            have y := (S.at_ x hx).2
            rw [z, q] at y
            have n := S.nt x hx
            rw [← Option.some.inj y, t] at n
            cases n
          rw [cut_out m, ← nw_tup (H' := H') q t]
          exact h⟩
/-- the head of L stands still from now on -/
theorem Own.freeze (S : Own G ((p, o) :: L) H) : Own (upd G p o) L H ∧ Ex G (upd G p o) ∧ upd G p o p = some o :=
  ⟨⟨fun a u h => by
      by_cases e : a = p
      · subst e
        rw [upd_same] at h
        cases h
        exact S.get0
      · rw [upd_ne e] at h
        exact S.ex _ _ h, fun x hx => ⟨by
      have ne : x.1 ≠ p := fun e => S.nin (e ▸ List.mem_map_of_mem hx)
      rw [upd_ne ne]
      exact (S.at_ x (List.mem_cons_of_mem _ hx)).1, (S.at_ x (List.mem_cons_of_mem _ hx)).2⟩, S.forget.nd, S.forget.nt⟩, Ex.new S.no0, upd_same⟩
/-- from all that is known: a call that may change the object at p -/
theorem Own.give (h : H p = some o) (ht : noTup o = true := by rfl) : Own (cut H [(p, o)]) [(p, o)] H :=
  ⟨fun a u e => by
      by_cases m : a ∈ ([(p, o)] : List (Addr × HO)).map Prod.fst
      · rw [cut_in m] at e; cases e
      · rw [cut_out m] at e; exact e, fun x hx => by
      have z : x = (p, o) := by simpa using hx
      subst z
      exact ⟨cut_in (by simp), h⟩, by simp, fun x hx => by
      have z : x = (p, o) := by simpa using hx
      subst z
      exact ht⟩
/-- behind such a call -/
theorem Own.back {L' : List (Addr × HO)} (S : Own G ((p, o) :: L) H) (T : Own (cut H [(p, o)]) ((p, o') :: L') H') : Own G ((p, o') :: L' ++ L) H' := by
  have k : ∀ a u, a ≠ p → H a = some u → H' a = some u := fun a u ne e => T.ex _ _ (by rw [cut_out (by simpa using ne)]; exact e)
  refine ⟨fun a u e => k a u (ne_of_none e S.no0) (S.ex _ _ e), fun x hx => ?_, ?_, fun x hx => (List.mem_append.mp hx).elim (T.nt x) (S.forget.nt x)⟩
  · rcases List.mem_append.mp hx with hx | hx
    · refine ⟨?_, (T.at_ x hx).2⟩
      have z := (T.at_ x hx).1
      by_cases e : x.1 = p
      · rw [e]; exact S.no0
      · rw [cut_out (by simpa using e)] at z
        exact fresh_back S.ex z
    · have ne : x.1 ≠ p := fun e => S.nin (e ▸ List.mem_map_of_mem hx)
      exact ⟨(S.at_ x (List.mem_cons_of_mem _ hx)).1, k _ _ ne (S.at_ x (List.mem_cons_of_mem _ hx)).2⟩
  · rw [List.map_append, List.nodup_append]
    refine ⟨T.nd, S.forget.nd, fun a ha b hb e => ?_⟩
    subst e
    obtain ⟨x, hx, ex⟩ := List.mem_map.mp ha
    obtain ⟨y, hy, ey⟩ := List.mem_map.mp hb
    have ne : y.1 ≠ p := fun e => S.nin (e ▸ List.mem_map_of_mem hy)
    have z := (T.at_ x hx).1
    rw [ex, ← ey, cut_out (by simpa using ne), (S.at_ y (List.mem_cons_of_mem _ hy)).2] at z
    cases z
/-- what stood still, without the object that a call may change -/
theorem Own.keep (S : Own G ((p, o) :: L) H) : Ex G (cut H [(p, o)]) := fun a u e => by
  rw [cut_out (by simpa using ne_of_none e S.no0)]
  exact S.ex _ _ e
end

/-! ### readings, one step back at a time -/
/-- a new list, a new tuple is laid -/
def NewL (xs : List V) (H : Hp) (Q : VK) : Prop := xs.length ≤ sizeLine ∧ ∀ p, H p = none → Q (.ref p) (upd H p (.lst xs))
def NewT (xs : List V) (H : Hp) (Q : VK) : Prop := xs.length ≤ sizeLine ∧ ∀ p, H p = none → Q (.ref p) (upd H p (.tup xs))
def NewR (a b : Int) (H : Hp) (Q : VK) : Prop := RgOk a b ∧ ∀ q, H q = none → Q (.ref q) (upd H q (.lst (rgV a b)))
def rTupS (K : PySem.W.Frag) : List V → Hp → VK → Prop := fun xs H Q => ∃ p ys, xs = [.ref p] ∧ ((SqL K H p ys ∧ ∀ l, H l = none → Q (.ref l) (upd H l (.tup ys))) ∨ (SqT K H p ys ∧ Q (.ref p) H))
def rInt1 : List V → Hp → VK → Prop := fun xs H Q => (∃ i, xs = [.int i] ∧ Q (.int i) H) ∨ ∃ k, xs = [.bl k] ∧ Q (.int (if k then 1 else 0)) H
def rMin2 : List V → Hp → VK → Prop := fun xs H Q => ∃ i j, xs = [.int i, .int j] ∧ Q (.int (if j < i then j else i)) H
def rMax2 : List V → Hp → VK → Prop := fun xs H Q => ∃ i j, xs = [.int i, .int j] ∧ Q (.int (if j > i then j else i)) H
def rIsN : R2 := fun x y H Q => y = .non ∧ Q (.bl (decide (x = .non))) H
def rNotN : R2 := fun x y H Q => y = .non ∧ Q (.bl (!decide (x = .non))) H
section
variable {X : Cx}
theorem call_lenN : CallR X (.builtin "len") (Evl.rLenS X.K) := call_len_seq
theorem call_listN : CallR X (.type "list") (Evl.rListS X.K) := call_list_of
theorem call_tupN : CallR X (.type "tuple") (rTupS X.K) := call_tuple_of
theorem call_intN : CallR X (.type "int") rInt1 := call_int1
theorem call_minN (hc : X.calm = true) : CallR X (.builtin "min") rMin2 := call_min2 hc
theorem call_maxN (hc : X.calm = true) : CallR X (.builtin "max") rMax2 := call_max2 hc
theorem op_isNone : OpR X (compareOp .Is) rIsN := op_isN
theorem op_notNone : OpR X (compareOp .IsNot) rNotN := op_notN
end
section
variable {K : PySem.W.Frag} {σ : L2.St} {H : Hp} {ta tb tc te : TE} {t u : TT} {tr : TA} {Q : VK} {v x y : V} {r : R2}
theorem g_var {i : Nat} (h : σ[i]? = some (some v)) (k : Q v H) : tVar i σ H Q := ⟨v, h, k⟩
theorem g_c (k : Q v H) : tC v σ H Q := k
theorem g_op (k : ta σ H fun x H1 => tb σ H1 fun y H2 => r x y H2 Q) : tOp r ta tb σ H Q := k
theorem g_un {r : V → Hp → VK → Prop} (k : ta σ H fun x H1 => r x H1 Q) : tUn r ta σ H Q := k
theorem g_I0 {g : Int → Int → V} {i j : Int} (k : Q (g i j) H) : rI0 g (.int i) (.int j) H Q := ⟨i, j, rfl, rfl, k⟩
theorem g_I {C : Int → Int → Prop} {g : Int → Int → V} {i j : Int} (c : C i j) (k : Q (g i j) H) : rI C g (.int i) (.int j) H Q := ⟨i, j, rfl, rfl, c, k⟩
theorem g_U {g : Int → V} {i : Int} (k : Q (g i) H) : rU g (.int i) H Q := ⟨i, rfl, k⟩
theorem g_eqI {i j : Int} (k : Q (.bl (decide (i = j))) H) : rEq (.int i) (.int j) H Q := ⟨rfl, by
  have e : decide (V.int i = V.int j) = decide (i = j) := by
    by_cases z : i = j
    · rw [decide_eq_true z, decide_eq_true (by rw [z])]
    · rw [decide_eq_false z, decide_eq_false (fun q => z (V.int.inj q))]
  rw [e]; exact k⟩
theorem g_neI {i j : Int} (k : Q (.bl (!decide (i = j))) H) : rNe (.int i) (.int j) H Q := ⟨rfl, by
  have e : decide (V.int i = V.int j) = decide (i = j) := by
    by_cases z : i = j
    · rw [decide_eq_true z, decide_eq_true (by rw [z])]
    · rw [decide_eq_false z, decide_eq_false (fun q => z (V.int.inj q))]
  rw [e]; exact k⟩
theorem g_neB {i j : Bool} (k : Q (.bl (!decide (i = j))) H) : rNe (.bl i) (.bl j) H Q := ⟨rfl, by
  have e : decide (V.bl i = V.bl j) = decide (i = j) := by
    by_cases z : i = j
    · rw [decide_eq_true z, decide_eq_true (by rw [z])]
    · rw [decide_eq_false z, decide_eq_false (fun q => z (V.bl.inj q))]
  rw [e]; exact k⟩
theorem g_eqB {i j : Bool} (k : Q (.bl (decide (i = j))) H) : rEq (.bl i) (.bl j) H Q := ⟨rfl, by
  have e : decide (V.bl i = V.bl j) = decide (i = j) := by
    by_cases z : i = j
    · rw [decide_eq_true z, decide_eq_true (by rw [z])]
    · rw [decide_eq_false z, decide_eq_false (fun q => z (V.bl.inj q))]
  rw [e]; exact k⟩
theorem g_cb {r : List V → Hp → VK → Prop} (k : tr σ H fun vs H1 => r vs H1 Q) : tCB r tr σ H Q := k
theorem g_call {sp : Sp} {dvs : List V} {E : XK} (k : tr σ H fun vs H1 => sp (vs ++ dvs) H1 Q E) : tCall sp dvs E tr σ H Q := k
theorem g_nil {Q : List V → Hp → Prop} (k : Q [] H) : tNil σ H Q := k
theorem g_cons {Q : List V → Hp → Prop} (k : ta σ H fun x H1 => tr σ H1 fun xs H2 => Q (x :: xs) H2) : tCons ta tr σ H Q := k
theorem g_test {Q : Bool → Hp → Prop} (k : te σ H fun x H1 => ∃ b, x = .bl b ∧ Q b H1) : tTest te σ H Q := k
theorem g_B {Q : Bool → Hp → Prop} (k : te σ H fun x H1 => ∃ b, x = .bl b ∧ Q b H1) : tB te σ H Q := k
theorem g_bl {b : Bool} {Q : Bool → Hp → Prop} (k : Q b H) : ∃ c, V.bl b = .bl c ∧ Q c H := ⟨b, rfl, k⟩
theorem g_and {Q : Bool → Hp → Prop} (k : t σ H fun c H1 => if c = true then u σ H1 Q else Q false H1) : tAnd t u σ H Q := k
theorem g_or {Q : Bool → Hp → Prop} (k : t σ H fun c H1 => if c = true then Q true H1 else u σ H1 Q) : tOr t u σ H Q := k
theorem g_not {Q : Bool → Hp → Prop} (k : t σ H fun c H1 => Q (!c) H1) : tNot t σ H Q := k
theorem g_andV (k : ta σ H fun x H1 => ∃ c, x = .bl c ∧ if c = true then tb σ H1 Q else Q (.bl false) H1) : tAndV ta tb σ H Q := k
theorem g_orV (k : ta σ H fun x H1 => ∃ c, x = .bl c ∧ if c = true then Q (.bl true) H1 else tb σ H1 Q) : tOrV ta tb σ H Q := k
theorem g_notV (k : ta σ H fun x H1 => ∃ c, x = .bl c ∧ Q (.bl (!c)) H1) : tNotV ta σ H Q := k
theorem g_exV {b : Bool} {P : Bool → Prop} (k : P b) : ∃ c, V.bl b = .bl c ∧ P c := ⟨b, rfl, k⟩
theorem g_if (k : t σ H fun c H1 => if c = true then ta σ H1 Q else tb σ H1 Q) : tIf t ta tb σ H Q := k
theorem g_chain {r' : R2} (k : ta σ H fun x H1 => tb σ H1 fun y H2 => r x y H2 fun z H3 => ∃ k, z = .bl k ∧ (if k = true then tc σ H3 fun w' H4 => r' y w' H4 Q else Q (.bl false) H3)) : tChain r r' ta tb tc σ H Q := k
theorem g_tup (k : tr σ H fun xs H1 => NewT xs H1 Q) : tTup tr σ H Q := k
theorem g_lst (k : tr σ H fun xs H1 => NewL xs H1 Q) : tLst tr σ H Q := k
theorem g_sl {rs : V → Option Int → Option Int → Hp → VK → Prop} {tl th : TO} (k : te σ H fun x H1 => tl σ H1 fun l H2 => th σ H2 fun u H3 => rs x l u H3 Q) : tSl rs te tl th σ H Q := k
theorem g_noPart {Q : Option Int → Hp → Prop} (k : Q none H) : tNoPart σ H Q := k
theorem g_part {Q : Option Int → Hp → Prop} (k : te σ H fun x H1 => ∃ i, x = .int i ∧ Q (some i) H1) : tPart te σ H Q := k
theorem g_exI {i : Int} {P : Int → Prop} (k : P i) : ∃ j, V.int i = .int j ∧ P j := ⟨i, rfl, k⟩
theorem g_bm {T : String} {rm : V → List V → Hp → VK → Prop} (k : te σ H fun x H1 => tyV K T x H1 ∧ tr σ H1 fun xs H2 => rm x xs H2 Q) : tBM K T rm te tr σ H Q := k
theorem g_bm0 {T : String} {rm : V → List V → Hp → VK → Prop} (k : te σ H fun x H1 => tyV K T x H1 ∧ rm x [] H1 Q) : tBM0 K T rm te σ H Q := k
end
section
variable {K : PySem.W.Frag} {σ : L2.St} {H : Hp} {te : TE} {tt : TT} {ts us : TS} {tr : TA} {v : V} {n b c : L2.St → Hp → Prop} {rt : VK} {g : TG}
theorem s_seq (k : ts ⟨us ⟨n, rt, b, c⟩, rt, b, c⟩ σ H) : tSeq ts us ⟨n, rt, b, c⟩ σ H := k
theorem s_next (k : n σ H) : tNext ⟨n, rt, b, c⟩ σ H := k
theorem s_brk (k : b σ H) : tBreak ⟨n, rt, b, c⟩ σ H := k
theorem s_cont (k : c σ H) : tCont ⟨n, rt, b, c⟩ σ H := k
theorem s_drop (k : te σ H fun _ H1 => n σ H1) : tDrop te ⟨n, rt, b, c⟩ σ H := k
theorem s_ret (k : te σ H rt) : tRet te ⟨n, rt, b, c⟩ σ H := k
theorem s_retN (k : rt .non H) : tRetN ⟨n, rt, b, c⟩ σ H := k
theorem s_if (k : tt σ H fun x H1 => if x = true then ts ⟨n, rt, b, c⟩ σ H1 else us ⟨n, rt, b, c⟩ σ H1) : tIfS tt ts us ⟨n, rt, b, c⟩ σ H := k
theorem s_asg (k : te σ H fun x H1 => g x σ H1 n) : tAsg te g ⟨n, rt, b, c⟩ σ H := k
theorem s_name {i : Nat} {Q : L2.St → Hp → Prop} (k : Q (σ.set i (some v)) H) : gName i v σ H Q := k
theorem s_par {i j : Nat} (k : tr σ H fun vs H1 => ∃ v w, vs = [v, w] ∧ n ((σ.set i (some v)).set j (some w)) H1) : tPar i j tr ⟨n, rt, b, c⟩ σ H := k
theorem s_two {v w : V} {P : V → V → Prop} (k : P v w) : ∃ v' w', [v, w] = [v', w'] ∧ P v' w' := ⟨v, w, rfl, k⟩
theorem s_aug {i : Nat} {ti : TIp} {x : V} (h : σ[i]? = some (some x)) (k : te σ H fun y H1 => ti x y H1 fun z H2 => n (σ.set i (some z)) H2) : tAug i te ti ⟨n, rt, b, c⟩ σ H := ⟨x, h, k⟩
theorem s_ipI {f : Int → Int → Int} {i j : Int} {Q : VK} (k : Q (.int (f i j)) H) : ipI f (.int i) (.int j) H Q := ⟨i, j, rfl, rfl, k⟩
theorem s_sub {to ti : TE} {t : TSet} {Q : L2.St → Hp → Prop} (k : to σ H fun o H1 => ti σ H1 fun i H2 => t o i v H2 fun H3 => Q σ H3) : gSub to ti t v σ H Q := k
theorem s_gtup {K : PySem.W.Frag} {m : Nat} {t : TGs} {a : Addr} {xs : List V} {Q : L2.St → Hp → Prop} (h : SqT K H a xs) (e : xs.length = m) (k : t xs σ H Q) : gTup K m t (.ref a) σ H Q := ⟨a, xs, rfl, h, e, k⟩
theorem s_gcons {t : TG} {u : TGs} {r : List V} {Q : L2.St → Hp → Prop} (k : t v σ H fun σ' H' => u r σ' H' Q) : gCons t u (v :: r) σ H Q := ⟨v, r, rfl, k⟩
theorem s_gnil {Q : L2.St → Hp → Prop} (k : Q σ H) : gNil [] σ H Q := ⟨rfl, k⟩
end
/-! ### what is read of the heap: G stands still -/
section
variable {K : PySem.W.Frag} {G H : Hp} {L : List (Addr × HO)} {p : Addr} {xs : List V} {v : V} {Q : VK}
theorem Own.sl (S : Own G L H) (h : SqL K G p xs) : SqL K H p xs := ex_l S.ex h
theorem Own.st (S : Own G L H) (h : SqT K G p xs) : SqT K H p xs := ex_t S.ex h
theorem g_ixL {i : Int} (h : SqL K H p xs) (a : atI xs i = some v) (k : Q v H) : rIxL K (.ref p) (.int i) H Q := ⟨p, xs, i, v, rfl, rfl, h, a, k⟩
theorem g_ixT {i : Int} (h : SqT K H p xs) (a : atI xs i = some v) (k : Q v H) : rIxT K (.ref p) (.int i) H Q := ⟨p, xs, i, v, rfl, rfl, h, a, k⟩
end
/-! ### calls of defs -/
/-- the def x: its promise, how its arguments come -/
def Cal (P : Program) (w : World) (K : PySem.W.Frag) (mg : Str → Option Value) (base : Heap) (k : Nat) (x : Str) (ps : List Str) (dvs : List V) (sp : Sp) : Prop :=
  ∃ (f : Addr) (fd : FuncData) (ds : List Value), FnOk P w K mg base (L2.CX P w) k f fd ps sp ∧ mg x = some (.ref f) ∧ PySem.W.keepIn K (.ref f) = true ∧ Binds K fd ps ds ∧ Vals dvs ds
/-- .. called with n positional arguments and the keywords ks -/
def CalK (P : Program) (w : World) (K : PySem.W.Frag) (mg : Str → Option Value) (base : Heap) (k : Nat) (x : Str) (ps : List Str) (n : Nat) (ks : List Str) (gV : List V → List V → List V) (sp : Sp) : Prop :=
  ∃ (f : Addr) (fd : FuncData) (g : List Value → List Value → List Value), FnOk P w K mg base (L2.CX P w) k f fd ps sp ∧ mg x = some (.ref f) ∧ PySem.W.keepIn K (.ref f) = true ∧ KBn K fd ps n ks g gV
theorem fn_up {P : Program} {w : World} {K : PySem.W.Frag} {mg : Str → Option Value} {base : Heap} {k : Nat} {f : Addr} {fd : FuncData} {ps : List Str} {sp : Sp} (F : FnOk P w K mg base CX0 k f fd ps sp) : FnOk P w K mg base (L2.CX P w) k f fd ps sp :=
  ⟨F.len, fun A outer s H args us vs Q E hr he hb hv hs => codeAny_mono (F.run A outer s H args us vs Q E hr he hb hv hs) fun r s' h => by
    cases r with
    | error e => exact (show False from h).elim
    | ok fl => cases fl <;> exact h⟩
section
variable {X : Cx} {k n : Nat} {ps ks : List Str} {sp : Sp} {dvs : List V} {E : XK} {x : Str} {p pos : Pos} {e : Expr} {es : List Expr} {kws : List Keyword} {t tk : TA} {gV : List V → List V → List V}
theorem passN : Passes (L2.CX X.prog X.w) X E0 := L2.passL
/-- f(e, ..): what is written, no defaults -/
def tCal (sp : Sp) (E : XK) (t : TA) : TE := fun σ H Q => t σ H fun vs H1 => sp vs H1 Q E
theorem pe_cal (C : Cal X.prog X.w X.K X.mg X.base k x ps [] sp) (hr : Room k X.A) (hx : Passes (L2.CX X.prog X.w) X E) (ha : PA X (e :: es) t) (hg : Gl X x := by rfl) (hdb : (x == ("__debug__" : Str)) = false := by decide)
    (he : starEach (e :: es) X.env = (false, eval e X.env) :: starEach es X.env := by rfl) (hpl : (backTo pos (starEach es X.env)).any (·.1) = false := by rfl) : PE X (.Call (.Name x p) (e :: es) [] pos) (tCal sp E t) := by
  obtain ⟨f, fd, ds, F, hm, hk, hb, hd⟩ := C
  have q : PE X (.Call (.Name x p) (e :: es) [] pos) (tCall sp [] E t) := pe_call F hr hg hm hk hb hd hx ha hdb he hpl
  refine ⟨fun pins s σ H Q I h => q.run pins s σ H Q I ?_⟩
  have e : (fun (vs : List V) (H1 : Hp) => sp (vs ++ []) H1 Q E) = (fun vs H1 => sp vs H1 Q E) := by
    funext vs H1
    rw [List.append_nil]
  show t σ H fun vs H1 => sp (vs ++ []) H1 Q E
  rw [e]
  exact h
theorem pe_calD (C : Cal X.prog X.w X.K X.mg X.base k x ps dvs sp) (hr : Room k X.A) (hx : Passes (L2.CX X.prog X.w) X E) (ha : PA X (e :: es) t) (hg : Gl X x := by rfl) (hdb : (x == ("__debug__" : Str)) = false := by decide)
    (he : starEach (e :: es) X.env = (false, eval e X.env) :: starEach es X.env := by rfl) (hpl : (backTo pos (starEach es X.env)).any (·.1) = false := by rfl) : PE X (.Call (.Name x p) (e :: es) [] pos) (tCall sp dvs E t) := by
  obtain ⟨f, fd, ds, F, hm, hk, hb, hd⟩ := C
  exact pe_call F hr hg hm hk hb hd hx ha hdb he hpl
theorem g_cal {sp : Sp} {E : XK} {tr : TA} {σ : L2.St} {H : Hp} {Q : VK} (k : tr σ H fun vs H1 => sp vs H1 Q E) : tCal sp E tr σ H Q := k
theorem g_calN {sp : Sp} {E : XK} {tr tk : TA} {n m : Nat} {gV : List V → List V → List V} {σ : L2.St} {H : Hp} {Q : VK} (k : tr σ H fun vs H1 => tk σ H1 fun zs H2 => vs.length = n ∧ zs.length = m ∧ sp (gV vs zs) H2 Q E) : tCallN n m sp gV E tr tk σ H Q := k
theorem pe_calK (C : CalK X.prog X.w X.K X.mg X.base k x ps n ks gV sp) (hr : Room k X.A) (hx : Passes (L2.CX X.prog X.w) X E) (ha : PA X (e :: es) t) (hkw : PK X kws tk) (hg : Gl X x := by rfl)
    (hall : (backToKw pos (keywordEach kws X.env)).all (·.1.isSome) = true := by rfl) (hks : (backToKw pos (keywordEach kws X.env)).filterMap (·.1) = ks := by rfl)
    (hdb : (x == ("__debug__" : Str)) = false := by decide) (he : starEach (e :: es) X.env = (false, eval e X.env) :: starEach es X.env := by rfl)
    (hpl : ((backTo pos (starEach (e :: es) X.env)).any (·.1) || (backToKw pos (keywordEach kws X.env)).any (·.1.isNone)) = false := by rfl) :
    PE X (.Call (.Name x p) (e :: es) kws pos) (tCallN n ks.length sp gV E t tk) := by
  obtain ⟨f, fd, g, F, hm, hk, hb⟩ := C
  exact pe_callN F hr hg hm hk hb hx ha hkw hall hks hdb he hpl
theorem pe_calK0 (C : CalK X.prog X.w X.K X.mg X.base k x ps 0 ks gV sp) (hr : Room k X.A) (hx : Passes (L2.CX X.prog X.w) X E) (hkw : PK X kws tk) (hg : Gl X x := by rfl)
    (hall : (backToKw pos (keywordEach kws X.env)).all (·.1.isSome) = true := by rfl) (hks : (backToKw pos (keywordEach kws X.env)).filterMap (·.1) = ks := by rfl)
    (hdb : (x == ("__debug__" : Str)) = false := by decide)
    (hpl : ((backTo pos (starEach [] X.env)).any (·.1) || (backToKw pos (keywordEach kws X.env)).any (·.1.isNone)) = false := by rfl) :
    PE X (.Call (.Name x p) [] kws pos) (tCallN 0 ks.length sp gV E tNil tk) := by
  obtain ⟨f, fd, g, F, hm, hk, hb⟩ := C
  refine ⟨fun pins s σ H Q I h => ?_⟩
  refine wpAny_Call_Name_kw (ld_glob I hg hm ?_ hdb)
  refine PySem.W.callWith_KW0 (h₀ := X.base) I.ok.mod.kin hk hall ?_ hpl
  refine thn (hkw.run pos pins s σ H _ I h) fun ws s2 ⟨zs, H2, I2, rz, l1, l2, q2⟩ => ⟨I2.kIn, ?_⟩
  rw [hks]
  exact run_fnN (us := []) (vs := []) F hr hb hx I2 .nil rz rfl l2 q2
/-- a module's whole number -/
theorem pe_cst {i : Int} (hg : Gl X x) (hm : ∃ t, X.mg x = some (.int i t)) (hd : (x == ("__debug__" : Str)) = false := by decide) : PE X (.Name x pos) (tC (.int i)) := by
  obtain ⟨t, hm⟩ := hm
  exact pe_glob hg hm ⟨t, rfl⟩ hd
/-- a op1 b op2 c op3 d -/
def tChain3 (r r' r'' : R2) (ta tb tc td : TE) : TE := fun σ H Q => ta σ H fun x H1 => tb σ H1 fun y H2 => r x y H2 fun z H3 => ∃ k, z = .bl k ∧
  (if k = true then tc σ H3 fun w H4 => r' y w H4 fun z' H5 => ∃ k', z' = .bl k' ∧ (if k' = true then td σ H5 fun w' H6 => r'' w w' H6 Q else Q (.bl false) H5) else Q (.bl false) H3)
theorem pe_chain3 {op op' op'' : CmpOp} {r r' r'' : R2} {a b c d : Expr} {ta tb tc td : TE} (ho : OpR X (compareOp op) r) (ho' : OpR X (compareOp op') r') (ho'' : OpR X (compareOp op'') r'') (ha : PE X a ta) (hb : PE X b tb) (hc : PE X c tc) (hd : PE X d td)
    (hm : lastMarks [op, op', op''] [b, c, d] = false := by with_unfolding_all rfl) : PE X (.Compare a [op, op', op''] [b, c, d] pos) (tChain3 r r' r'' ta tb tc td) := by
  refine ⟨fun pins s σ H Q I h => ?_⟩
  refine Compare_chain (thn (ha.run pins s σ H _ I h) fun v s1 ⟨x, H1, I1, r1, q1⟩ => chain_link (thn (hb.run pins s1 σ H1 _ I1 q1) fun u s2 ⟨y, H2, I2, r2, q2⟩ =>
    thn (ho pins s2 σ H2 x y v u _ I2 r1 r2 q2) fun w s3 ⟨z, H3, I3, r3, k, e, q3⟩ => ?_)) hm
  subst e
  cases r3
  refine wpAny_truthy_bool ?_
  cases k with
  | false => exact ite_ff ⟨.bl false, H3, I3, rfl, q3⟩
  | true =>
    refine ite_tt (chain_link (thn (hc.run pins s3 σ H3 _ I3 q3) fun w' s4 ⟨z', H4, I4, r4, q4⟩ => thn (ho' pins s4 σ H4 y z' u w' _ I4 r2 r4 q4) fun w5 s5 ⟨z5, H5, I5, r5, k5, e5, q5⟩ => ?_))
    subst e5
    cases r5
    refine wpAny_truthy_bool ?_
    cases k5 with
    | false => exact ite_ff ⟨.bl false, H5, I5, rfl, q5⟩
    | true => exact ite_tt (chain_last (thn (hd.run pins s5 σ H5 _ I5 q5) fun w6 s6 ⟨z6, H6, I6, r6, q6⟩ => ho'' pins s6 σ H6 z' z6 w' w6 Q I6 r4 r6 q6))
theorem g_chain3 {σ : L2.St} {H : Hp} {Q : VK} {r r' r'' : R2} {ta tb tc td : TE} (k : ta σ H fun x H1 => tb σ H1 fun y H2 => r x y H2 fun z H3 => ∃ k, z = .bl k ∧
  (if k = true then tc σ H3 fun w H4 => r' y w H4 fun z' H5 => ∃ k', z' = .bl k' ∧ (if k' = true then td σ H5 fun w' H6 => r'' w w' H6 Q else Q (.bl false) H5) else Q (.bl false) H3)) : tChain3 r r' r'' ta tb tc td σ H Q := k
end
/-! ### loops -/
/-- what a for asks of the iterator J -/
def FORJ (J : It) (g : TG) (tb : TS) (D : Ends) (σ : L2.St) (H1 : Hp) : Prop := ∃ W : Nat → Nat → L2.St → Hp → Prop, (∃ m, W 0 m σ H1) ∧ ∀ i m σ H, W i m σ H →
  (J.stop i H ∧ D.nx σ H) ∨ (J.go i H ∧ ∃ N : L2.St → Hp → Prop, (∀ σ' H', N σ' H' → ∃ m', m' < m ∧ W (i + 1) m' σ' H') ∧ ∀ x H', J.yld i H x H' → g x σ H' fun σ2 H2 => tb { D with nx := N, ct := N, bk := D.nx } σ2 H2)
/-- what a comprehension asks -/
def LCJ (J : It) (g : TG) (tt : TT) (te : TE) (vs : List Nat) (σ : L2.St) (H1 : Hp) (Q : VK) : Prop := ∀ D, H1 D = none → ∃ W : Nat → Nat → Hp → Prop, (∃ m, W 0 m (upd H1 D (.lst []))) ∧ ∀ i m H, W i m H →
  (J.stop i H ∧ Q (.ref D) H) ∨ (J.go i H ∧ ∃ Nx : Hp → Prop, (∀ H', Nx H' → ∃ m', m' < m ∧ W (i + 1) m' H') ∧ ∀ x H', J.yld i H x H' → g x (wipe σ vs) H' fun σ2 H2 => wipe σ2 vs = wipe σ vs ∧ tt σ2 H2 fun b H3 =>
    if b = true then te σ2 H3 fun y H4 => ∃ acc, H4 D = some (.lst acc) ∧ acc.length < sizeLine ∧ Nx (upd H4 D (.lst (acc ++ [y]))) else Nx H3)
section
variable {K : PySem.W.Frag} {σ : L2.St} {G H : Hp} {L : List (Addr × HO)} {te ta : TE} {tt tc : TT} {tb : TS} {tr : TA} {g : TG} {wi : TI} {vs : List Nat} {Q : VK} {n b c : L2.St → Hp → Prop} {rt : VK} {a : Addr} {xs : List V}
theorem s_for (k : wi σ H fun J H1 => FORJ J g tb ⟨n, rt, b, c⟩ σ H1) : tFor wi g tb ⟨n, rt, b, c⟩ σ H := k
theorem g_lc (k : wi σ H fun J H1 => LCJ J g tt te vs σ H1 Q) : tLc wi g tt te vs σ H Q := k
theorem g_iList {R : It → Hp → Prop} (k : te σ H fun x H1 => ∃ a, x = .ref a ∧ (∃ xs, SqL K H1 a xs) ∧ R (Itl K a) H1) : iList K te σ H R := k
theorem g_iTup {R : It → Hp → Prop} (k : te σ H fun x H1 => ∃ a, x = .ref a ∧ (∃ xs, SqT K H1 a xs) ∧ R (Itt K a) H1) : iTup K te σ H R := k
theorem g_iRng1 {R : It → Hp → Prop} (k : tr σ H fun vs H1 => ∃ j : Int, vs = [.int j] ∧ -(2 ^ 62) ≤ j ∧ j < 2 ^ 62 ∧ R (Itr 0 j.toNat) H1) : iRng1 tr σ H R := k
theorem g_iRng2 {R : It → Hp → Prop} (k : tr σ H fun vs H1 => ∃ i j : Int, vs = [.int i, .int j] ∧ (-(2 ^ 62) ≤ i ∧ i < 2 ^ 62 ∧ -(2 ^ 62) ≤ j ∧ j < 2 ^ 62) ∧ R (Itr i (j - i).toNat) H1) : iRng2 tr σ H R := k
theorem g_iEnum {R : It → Hp → Prop} (k : tr σ H fun vs H1 => ∃ a xs, vs = [.ref a] ∧ SqL K H1 a xs ∧ R (Ite K a) H1) : iEnum K tr σ H R := k
theorem s_while (W : Nat → L2.St → Hp → Prop) (m0 : Nat) (h0 : W m0 σ H)
    (hs : ∀ m σ' H', W m σ' H' → tc σ' H' fun x H1 => if x = true then ∃ N : L2.St → Hp → Prop, (∀ σ2 H2, N σ2 H2 → ∃ m', m' < m ∧ W m' σ2 H2) ∧ tb ⟨N, rt, n, N⟩ σ' H1 else n σ' H1) : tWhile tc tb ⟨n, rt, b, c⟩ σ H :=
  ⟨W, ⟨m0, h0⟩, hs⟩
theorem s_turn {m : Nat} {W : Nat → L2.St → Hp → Prop} (k : tb ⟨fun σ2 H2 => ∃ m', m' < m ∧ W m' σ2 H2, rt, n, fun σ2 H2 => ∃ m', m' < m ∧ W m' σ2 H2⟩ σ H) :
    ∃ N : L2.St → Hp → Prop, (∀ σ2 H2, N σ2 H2 → ∃ m', m' < m ∧ W m' σ2 H2) ∧ tb ⟨N, rt, n, N⟩ σ H := ⟨_, fun _ _ h => h, k⟩
theorem w_list (Pv : Nat → L2.St → Hp → Prop) (hx : SqL K H a xs) (h0 : Pv 0 σ H) (hl : ∀ i σ H, Pv i σ H → SqL K H a xs)
    (hs : ∀ i x σ H, xs[i]? = some x → Pv i σ H → g x σ H fun σ2 H2 => tb ⟨Pv (i + 1), rt, n, Pv (i + 1)⟩ σ2 H2) (hd : ∀ σ H, Pv xs.length σ H → n σ H) :
    ∃ p, V.ref a = .ref p ∧ (∃ xs, SqL K H p xs) ∧ FORJ (Itl K p) g tb ⟨n, rt, b, c⟩ σ H := ⟨a, rfl, ⟨xs, hx⟩, for_list Pv h0 (fun i σ H _ p => hl i σ H p) hs hd⟩
theorem w_tup (Pv : Nat → L2.St → Hp → Prop) (hx : SqT K H a xs) (h0 : Pv 0 σ H) (hl : ∀ i σ H, Pv i σ H → SqT K H a xs)
    (hs : ∀ i x σ H, xs[i]? = some x → Pv i σ H → g x σ H fun σ2 H2 => tb ⟨Pv (i + 1), rt, n, Pv (i + 1)⟩ σ2 H2) (hd : ∀ σ H, Pv xs.length σ H → n σ H) :
    ∃ p, V.ref a = .ref p ∧ (∃ xs, SqT K H p xs) ∧ FORJ (Itt K p) g tb ⟨n, rt, b, c⟩ σ H := ⟨a, rfl, ⟨xs, hx⟩, for_tup Pv h0 (fun i σ H _ p => hl i σ H p) hs hd⟩
theorem w_rng1 {j : Int} (Pv : Nat → L2.St → Hp → Prop) (hj : -(2 ^ 62) ≤ j ∧ j < 2 ^ 62) (h0 : Pv 0 σ H)
    (hs : ∀ (i : Nat) σ H, (i : Int) < j → Pv i σ H → g (.int (i : Int)) σ H fun σ2 H2 => tb ⟨Pv (i + 1), rt, n, Pv (i + 1)⟩ σ2 H2) (hd : ∀ σ H, Pv j.toNat σ H → n σ H) :
    ∃ j' : Int, [V.int j] = [.int j'] ∧ -(2 ^ 62) ≤ j' ∧ j' < 2 ^ 62 ∧ FORJ (Itr 0 j'.toNat) g tb ⟨n, rt, b, c⟩ σ H :=
  ⟨j, rfl, hj.1, hj.2, for_range (lo := 0) Pv h0 (fun i σ H hi p => by
    have e : (0 : Int) + (i : Int) = (i : Int) := Int.zero_add _
    rw [e]
    exact hs i σ H (by omega) p) hd⟩
theorem w_rng2 {lo j : Int} (Pv : Nat → L2.St → Hp → Prop) (hj : -(2 ^ 62) ≤ lo ∧ lo < 2 ^ 62 ∧ -(2 ^ 62) ≤ j ∧ j < 2 ^ 62) (h0 : Pv 0 σ H)
    (hs : ∀ (i : Nat) σ H, lo + (i : Int) < j → Pv i σ H → g (.int (lo + (i : Int))) σ H fun σ2 H2 => tb ⟨Pv (i + 1), rt, n, Pv (i + 1)⟩ σ2 H2) (hd : ∀ σ H, Pv (j - lo).toNat σ H → n σ H) :
    ∃ i' j' : Int, [V.int lo, V.int j] = [.int i', .int j'] ∧ (-(2 ^ 62) ≤ i' ∧ i' < 2 ^ 62 ∧ -(2 ^ 62) ≤ j' ∧ j' < 2 ^ 62) ∧ FORJ (Itr i' (j' - i').toNat) g tb ⟨n, rt, b, c⟩ σ H :=
  ⟨lo, j, rfl, hj, for_range (lo := lo) Pv h0 (fun i σ H hi p => hs i σ H (by omega) p) hd⟩
/-- over enumerate(a list): each turn's pair is a new tuple -/
theorem w_enum (Pv : Nat → L2.St → Hp → Prop) (hx : SqL K H a xs) (h0 : Pv 0 σ H) (hl : ∀ i σ H, Pv i σ H → SqL K H a xs)
    (hs : ∀ (i : Nat) x T σ H, xs[i]? = some x → Pv i σ H → H T = none → g (.ref T) σ (upd H T (.tup [.int (i : Int), x])) fun σ2 H2 => tb ⟨Pv (i + 1), rt, n, Pv (i + 1)⟩ σ2 H2) (hd : ∀ σ H, Pv xs.length σ H → n σ H) :
    ∃ p xs, [V.ref a] = [.ref p] ∧ SqL K H p xs ∧ FORJ (Ite K p) g tb ⟨n, rt, b, c⟩ σ H := by
  refine ⟨a, xs, rfl, hx, fun i m σ H => m = xs.length - i ∧ i ≤ xs.length ∧ Pv i σ H, ⟨xs.length, rfl, Nat.zero_le _, h0⟩, ?_⟩
  rintro i m σ H ⟨rfl, hi, p⟩
  have q := hl i σ H p
  by_cases hlt : i < xs.length
  · refine .inr ⟨⟨xs, xs[i], q, by simp [hlt]⟩, Pv (i + 1), fun σ' H' p' => ⟨xs.length - (i + 1), by omega, rfl, hlt, p'⟩, fun v H' y => ?_⟩
    obtain ⟨T, x, rfl, hT, rfl, hxx⟩ := y
    exact hs i x T σ H (hxx xs q) p hT
  · have e : i = xs.length := by omega
    subst e
    exact .inl ⟨⟨xs, q, Nat.le_refl _⟩, hd _ _ p⟩
/-! ### comprehensions: F says what holds behind i turns of what has been given (acc) and of what may be changed -/
def CP (G : Hp) (D : Addr) (F : Nat → List V → Hp → List (Addr × HO) → Prop) (i : Nat) (H : Hp) : Prop := ∃ acc G1 L1, Ex G G1 ∧ acc.length ≤ i ∧ F i acc G1 L1 ∧ Own G1 ((D, .lst acc) :: L1) H
def CE (G : Hp) (D : Addr) (F : Nat → List V → Hp → List (Addr × HO) → Prop) (i : Nat) (y : V) (H : Hp) : Prop := ∃ acc, H D = some (.lst acc) ∧ acc.length < sizeLine ∧ CP G D F (i + 1) (upd H D (.lst (acc ++ [y])))
theorem c_yes {F : Nat → List V → Hp → List (Addr × HO) → Prop} {D : Addr} {i : Nat} {acc : List V} {G1 : Hp} {L1 : List (Addr × HO)} {y : V} (S : Own G1 ((D, .lst acc) :: L1) H) (e : Ex G G1) (hl : acc.length ≤ i) (hi : i < 1000000) (f : F (i + 1) (acc ++ [y]) G1 L1) : CE G D F i y H :=
  ⟨acc, S.get0, Nat.lt_of_le_of_lt hl (Nat.lt_trans hi (by decide)), acc ++ [y], G1, L1, e, by rw [List.length_append]; exact Nat.succ_le_succ hl, f, S.put0⟩
theorem c_no {F : Nat → List V → Hp → List (Addr × HO) → Prop} {D : Addr} {i : Nat} {acc : List V} {G1 : Hp} {L1 : List (Addr × HO)} (S : Own G1 ((D, .lst acc) :: L1) H) (e : Ex G G1) (hl : acc.length ≤ i) (f : F (i + 1) acc G1 L1) : CP G D F (i + 1) H :=
  ⟨acc, G1, L1, e, Nat.le_succ_of_le hl, f, S⟩
theorem v_list (F : Nat → List V → Hp → List (Addr × HO) → Prop) (S : Own G L H) (hx : SqL K G a xs) (hz : xs.length ≤ 1000000) (h0 : F 0 [] G L)
    (hs : ∀ D i x acc G1 L1 H1, xs[i]? = some x → i < 1000000 → Ex G G1 → acc.length ≤ i → F i acc G1 L1 → Own G1 ((D, .lst acc) :: L1) H1 → g x (wipe σ vs) H1 fun σ2 H2 => wipe σ2 vs = wipe σ vs ∧ tt σ2 H2 fun b H3 =>
      if b = true then te σ2 H3 fun y H4 => CE G D F i y H4 else CP G D F (i + 1) H3)
    (hd : ∀ p acc G1 L1 H1, Ex G G1 → acc.length ≤ xs.length → F xs.length acc G1 L1 → Own G1 ((p, .lst acc) :: L1) H1 → Q (.ref p) H1) :
    ∃ p, V.ref a = .ref p ∧ (∃ xs, SqL K H p xs) ∧ LCJ (Itl K p) g tt te vs σ H Q :=
  ⟨a, rfl, ⟨xs, S.sl hx⟩, fun D hD => lc_list (K := K) (a := a) (xs := xs) (CP G D F) ⟨[], G, L, Ex.refl G, Nat.le_refl _, h0, S.lay hD⟩ (fun i H1 _ ⟨acc, G1, L1, e, _, _, S1⟩ => S1.sl (ex_l e hx))
    (fun i x H1 hi ⟨acc, G1, L1, e, hl, f, S1⟩ => hs D i x acc G1 L1 H1 hi (Nat.lt_of_lt_of_le (List.getElem?_eq_some_iff.mp hi).1 hz) e hl f S1) (fun H1 ⟨acc, G1, L1, e, hl, f, S1⟩ => hd D acc G1 L1 H1 e hl f S1)⟩
theorem v_tup (F : Nat → List V → Hp → List (Addr × HO) → Prop) (S : Own G L H) (hx : SqT K G a xs) (hz : xs.length ≤ 1000000) (h0 : F 0 [] G L)
    (hs : ∀ D i x acc G1 L1 H1, xs[i]? = some x → i < 1000000 → Ex G G1 → acc.length ≤ i → F i acc G1 L1 → Own G1 ((D, .lst acc) :: L1) H1 → g x (wipe σ vs) H1 fun σ2 H2 => wipe σ2 vs = wipe σ vs ∧ tt σ2 H2 fun b H3 =>
      if b = true then te σ2 H3 fun y H4 => CE G D F i y H4 else CP G D F (i + 1) H3)
    (hd : ∀ p acc G1 L1 H1, Ex G G1 → acc.length ≤ xs.length → F xs.length acc G1 L1 → Own G1 ((p, .lst acc) :: L1) H1 → Q (.ref p) H1) :
    ∃ p, V.ref a = .ref p ∧ (∃ xs, SqT K H p xs) ∧ LCJ (Itt K p) g tt te vs σ H Q :=
  ⟨a, rfl, ⟨xs, S.st hx⟩, fun D hD => lc_tup (K := K) (a := a) (xs := xs) (CP G D F) ⟨[], G, L, Ex.refl G, Nat.le_refl _, h0, S.lay hD⟩ (fun i H1 _ ⟨acc, G1, L1, e, _, _, S1⟩ => S1.st (ex_t e hx))
    (fun i x H1 hi ⟨acc, G1, L1, e, hl, f, S1⟩ => hs D i x acc G1 L1 H1 hi (Nat.lt_of_lt_of_le (List.getElem?_eq_some_iff.mp hi).1 hz) e hl f S1) (fun H1 ⟨acc, G1, L1, e, hl, f, S1⟩ => hd D acc G1 L1 H1 e hl f S1)⟩
theorem v_rng1 {j : Int} (F : Nat → List V → Hp → List (Addr × HO) → Prop) (S : Own G L H) (hj : 0 ≤ j ∧ j ≤ 1000000) (h0 : F 0 [] G L)
    (hs : ∀ D (i : Nat) acc G1 L1 H1, (i : Int) < j → i < 1000000 → Ex G G1 → acc.length ≤ i → F i acc G1 L1 → Own G1 ((D, .lst acc) :: L1) H1 → g (.int (i : Int)) (wipe σ vs) H1 fun σ2 H2 => wipe σ2 vs = wipe σ vs ∧ tt σ2 H2 fun b H3 =>
      if b = true then te σ2 H3 fun y H4 => CE G D F i y H4 else CP G D F (i + 1) H3)
    (hd : ∀ p acc G1 L1 H1, Ex G G1 → acc.length ≤ j.toNat → F j.toNat acc G1 L1 → Own G1 ((p, .lst acc) :: L1) H1 → Q (.ref p) H1) :
    ∃ j' : Int, [V.int j] = [.int j'] ∧ -(2 ^ 62) ≤ j' ∧ j' < 2 ^ 62 ∧ LCJ (Itr 0 j'.toNat) g tt te vs σ H Q :=
  ⟨j, rfl, by omega, by omega, fun D hD => lc_range (lo := 0) (n := j.toNat) (CP G D F) ⟨[], G, L, Ex.refl G, Nat.le_refl _, h0, S.lay hD⟩
    (fun i H1 hi ⟨acc, G1, L1, e, hl, f, S1⟩ => by
      have z : (0 : Int) + (i : Int) = (i : Int) := Int.zero_add _
      rw [z]
      exact hs D i acc G1 L1 H1 (by omega) (by omega) e hl f S1) (fun H1 ⟨acc, G1, L1, e, hl, f, S1⟩ => hd D acc G1 L1 H1 e hl f S1)⟩
theorem v_rng2 {lo j : Int} (F : Nat → List V → Hp → List (Addr × HO) → Prop) (S : Own G L H) (hj : -1000 ≤ lo ∧ lo ≤ 1000000 ∧ -1000 ≤ j ∧ j ≤ 900000) (h0 : F 0 [] G L)
    (hs : ∀ D (i : Nat) acc G1 L1 H1, lo + (i : Int) < j → i < 1000000 → Ex G G1 → acc.length ≤ i → F i acc G1 L1 → Own G1 ((D, .lst acc) :: L1) H1 → g (.int (lo + (i : Int))) (wipe σ vs) H1 fun σ2 H2 => wipe σ2 vs = wipe σ vs ∧ tt σ2 H2 fun b H3 =>
      if b = true then te σ2 H3 fun y H4 => CE G D F i y H4 else CP G D F (i + 1) H3)
    (hd : ∀ p acc G1 L1 H1, Ex G G1 → acc.length ≤ (j - lo).toNat → F (j - lo).toNat acc G1 L1 → Own G1 ((p, .lst acc) :: L1) H1 → Q (.ref p) H1) :
    ∃ i' j' : Int, [V.int lo, V.int j] = [.int i', .int j'] ∧ (-(2 ^ 62) ≤ i' ∧ i' < 2 ^ 62 ∧ -(2 ^ 62) ≤ j' ∧ j' < 2 ^ 62) ∧ LCJ (Itr i' (j' - i').toNat) g tt te vs σ H Q :=
  ⟨lo, j, rfl, ⟨by omega, by omega, by omega, by omega⟩, fun D hD => lc_range (lo := lo) (n := (j - lo).toNat) (CP G D F) ⟨[], G, L, Ex.refl G, Nat.le_refl _, h0, S.lay hD⟩
    (fun i H1 hi ⟨acc, G1, L1, e, hl, f, S1⟩ => hs D i acc G1 L1 H1 (by omega) (by omega) e hl f S1) (fun H1 ⟨acc, G1, L1, e, hl, f, S1⟩ => hd D acc G1 L1 H1 e hl f S1)⟩
theorem g_yes {Q : Bool → Hp → Prop} (k : Q true H) : tYes σ H Q := k
end
/-! ### tests -/
theorem if_tt {c : Bool} {A B : Prop} (e : c = true) (h : A) : if c = true then A else B := by rw [if_pos e]; exact h
theorem if_ff {c : Bool} {A B : Prop} (e : c = false) (h : B) : if c = true then A else B := by rw [if_neg (by rw [e]; exact Bool.false_ne_true)]; exact h
theorem if_2 {c : Bool} {A B : Prop} (h1 : c = true → A) (h2 : c = false → B) : if c = true then A else B := by
  cases c with
  | true => exact if_tt rfl (h1 rfl)
  | false => exact if_ff rfl (h2 rfl)
theorem dtrue' {p : Prop} [Decidable p] (h : p) : decide p = true := decide_eq_true h
theorem dfalse' {p : Prop} [Decidable p] (h : ¬p) : decide p = false := decide_eq_false h
theorem if_nt {A B : Prop} (h : B) : if (!true) = true then A else B := if_ff rfl h
theorem if_nf {A B : Prop} (h : A) : if (!false) = true then A else B := if_tt rfl h
theorem ntrue {p : Prop} [Decidable p] (h : p) : (!decide p) = false := by rw [dtrue' h]; rfl
theorem nfalse {p : Prop} [Decidable p] (h : ¬p) : (!decide p) = true := by rw [dfalse' h]; rfl
theorem dtrue {p : Prop} [Decidable p] (h : p) : decide p = true := decide_eq_true h
theorem dfalse {p : Prop} [Decidable p] (h : ¬p) : decide p = false := decide_eq_false h
theorem small {n : Nat} (h : n ≤ 10000000) : n ≤ sizeLine := Nat.le_trans h (by decide)
theorem smallL {n : Nat} (h : n ≤ 10000000) : n < sizeLine := Nat.lt_of_le_of_lt h (by decide)
section
variable {K : PySem.W.Frag} {G H : Hp} {L : List (Addr × HO)} {p : Addr} {xs : List V} {v : V} {Q : VK}
/-- a new list | a new tuple has been laid -/
theorem n_lst (S : Own G L H) (hz : xs.length ≤ 10000000) (k : ∀ p H1, H p = none → Own G ((p, .lst xs) :: L) H1 → Q (.ref p) H1) : NewL xs H Q :=
  ⟨small hz, fun p hp => k p _ hp (S.lay hp)⟩
/-- a new object stands still from now on -/
theorem Own.still {o : HO} (S : Own G L H) (hp : H p = none) : Own (upd G p o) L (upd H p o) ∧ Ex G (upd G p o) ∧ upd G p o p = some o :=
  ⟨⟨fun a u h => by
      by_cases e : a = p
      · subst e
        rw [upd_same] at h ⊢
        exact h
      · rw [upd_ne e] at h ⊢
        exact S.ex _ _ h, fun x hx => by
      have ne : x.1 ≠ p := fun e => S.fresh hp (e ▸ List.mem_map_of_mem hx)
      rw [upd_ne ne, upd_ne ne]
      exact S.at_ x hx, S.nd, S.nt⟩, Ex.new (fresh_back S.ex hp), upd_same⟩
theorem n_tup (S : Own G L H) (hz : xs.length ≤ 10000000) (k : ∀ p G1 H1, H p = none → Ex G G1 → Ex H H1 → G1 p = some (.tup xs) → Own G1 L H1 → Q (.ref p) H1) : NewT xs H Q :=
  ⟨small hz, fun p hp => k p _ _ hp (S.still hp).2.1 (Ex.new hp) (S.still hp).2.2 (S.still hp).1⟩
/-- a new list that is only read from now on -/
theorem n_lstG (S : Own G L H) (hz : xs.length ≤ 10000000) (k : ∀ p G1 H1, H p = none → Ex G G1 → Ex H H1 → G1 p = some (.lst xs) → Own G1 L H1 → Q (.ref p) H1) : NewL xs H Q :=
  ⟨small hz, fun p hp => k p _ _ hp (S.lay hp).freeze.2.1 (Ex.new hp) (S.lay hp).freeze.2.2 (S.lay hp).freeze.1⟩
/-- list(range(a, b)) -/
theorem n_rg {a b : Int} (S : Own G L H) (h : -1000 ≤ a ∧ a ≤ 1000000 ∧ -1000 ≤ b ∧ b ≤ 1000000) (k : ∀ p H1, H p = none → Own G ((p, .lst (rgV a b)) :: L) H1 → Q (.ref p) H1) : NewR a b H Q :=
  ⟨⟨by omega, by omega, by omega, by omega, by omega⟩, fun p hp => k p _ hp (S.lay hp)⟩
theorem n_rgG {a b : Int} (S : Own G L H) (h : -1000 ≤ a ∧ a ≤ 1000000 ∧ -1000 ≤ b ∧ b ≤ 1000000) (k : ∀ p G1 H1, H p = none → Ex G G1 → Ex H H1 → G1 p = some (.lst (rgV a b)) → Own G1 L H1 → Q (.ref p) H1) : NewR a b H Q :=
  ⟨⟨by omega, by omega, by omega, by omega, by omega⟩, fun p hp => k p _ _ hp (S.lay hp).freeze.2.1 (Ex.new hp) (S.lay hp).freeze.2.2 (S.lay hp).freeze.1⟩
theorem g_lrg {te : L2.St → Hp → (Int → Int → Hp → Prop) → Prop} {σ : L2.St} (k : te σ H fun a b H1 => NewR a b H1 Q) : tLstRg te σ H Q := k
theorem g_rg1 {ta : TE} {σ : L2.St} {R : Int → Int → Hp → Prop} (k : ta σ H fun x H1 => ∃ n, x = .int n ∧ R 0 n H1) : tRg1 ta σ H R := k
theorem g_rg2 {ta tb : TE} {σ : L2.St} {R : Int → Int → Hp → Prop} (k : ta σ H fun x H1 => tb σ H1 fun y H2 => ∃ i j, x = .int i ∧ y = .int j ∧ R i j H2) : tRg2 ta tb σ H R := k
theorem g_ex2I {i j : Int} {R : Int → Int → Prop} (k : R i j) : ∃ i' j', V.int i = .int i' ∧ V.int j = .int j' ∧ R i' j' := ⟨i, j, rfl, rfl, k⟩
/-- len(a list) -/
theorem n_len (h : SqL K H p xs) (k : Q (.int xs.length) H) : Evl.rLenS K [.ref p] H Q := ⟨p, xs, rfl, .inl h, k⟩
theorem n_lenT (h : SqT K H p xs) (k : Q (.int xs.length) H) : Evl.rLenS K [.ref p] H Q := ⟨p, xs, rfl, .inr h, k⟩
theorem n_int {i : Int} (k : Q (.int i) H) : rInt1 [.int i] H Q := .inl ⟨i, rfl, k⟩
theorem n_intB {b : Bool} (k : Q (.int (if b then 1 else 0)) H) : rInt1 [.bl b] H Q := .inr ⟨b, rfl, k⟩
theorem n_min {i j : Int} (k : Q (.int (min i j)) H) : rMin2 [.int i, .int j] H Q := ⟨i, j, rfl, by
  have e : (if j < i then j else i) = min i j := by split <;> omega
  rw [e]; exact k⟩
theorem n_max {i j : Int} (k : Q (.int (max i j)) H) : rMax2 [.int i, .int j] H Q := ⟨i, j, rfl, by
  have e : (if j > i then j else i) = max i j := by split <;> omega
  rw [e]; exact k⟩
/-- list(a list), tuple(a list) -/
theorem n_list (S : Own G L H) (h : SqL K H p xs) (k : ∀ p H1, H p = none → Own G ((p, .lst xs) :: L) H1 → Q (.ref p) H1) : Evl.rListS K [.ref p] H Q := ⟨p, xs, rfl, .inl h, fun p hp => k p _ hp (S.lay hp)⟩
theorem n_listT (S : Own G L H) (h : SqT K H p xs) (k : ∀ p H1, H p = none → Own G ((p, .lst xs) :: L) H1 → Q (.ref p) H1) : Evl.rListS K [.ref p] H Q := ⟨p, xs, rfl, .inr h, fun p hp => k p _ hp (S.lay hp)⟩
theorem n_tupL (S : Own G L H) (h : SqL K H p xs) (k : ∀ p G1 H1, H p = none → Ex G G1 → Ex H H1 → G1 p = some (.tup xs) → Own G1 L H1 → Q (.ref p) H1) : rTupS K [.ref p] H Q :=
  ⟨p, xs, rfl, .inl ⟨h, fun p hp => k p _ _ hp (S.still hp).2.1 (Ex.new hp) (S.still hp).2.2 (S.still hp).1⟩⟩
theorem n_isN (k : Q (.bl (decide (v = .non))) H) : rIsN v .non H Q := ⟨rfl, k⟩
theorem n_notN (k : Q (.bl (!decide (v = .non))) H) : rNotN v .non H Q := ⟨rfl, k⟩
/-- xs.append(v), the list at the head of what may be changed -/
theorem n_app (S : Own G ((p, .lst xs) :: L) H) (hz : xs.length ≤ 1000000) (k : ∀ H1, Own G ((p, .lst (xs ++ [v])) :: L) H1 → Q .non H1) : rAppend (.ref p) [v] H Q :=
  ⟨p, xs, v, rfl, rfl, S.get0, smallL (Nat.le_trans hz (by decide)), k _ S.put0⟩
theorem n_app1 {q : Addr} {o : HO} (S : Own G ((q, o) :: (p, .lst xs) :: L) H) (hz : xs.length ≤ 1000000) (k : ∀ H1, Own G ((q, o) :: (p, .lst (xs ++ [v])) :: L) H1 → Q .non H1) : rAppend (.ref p) [v] H Q :=
  ⟨p, xs, v, rfl, rfl, S.get1, smallL (Nat.le_trans hz (by decide)), k _ S.put1⟩
theorem n_app2 {q r : Addr} {o o2 : HO} (S : Own G ((r, o2) :: (q, o) :: (p, .lst xs) :: L) H) (hz : xs.length ≤ 1000000) (k : ∀ H1, Own G ((r, o2) :: (q, o) :: (p, .lst (xs ++ [v])) :: L) H1 → Q .non H1) : rAppend (.ref p) [v] H Q :=
  ⟨p, xs, v, rfl, rfl, S.get2, smallL (Nat.le_trans hz (by decide)), k _ S.put2⟩
/-- append to the j-th of what may be changed -/
theorem n_appM {j : Nat} (S : Own G L H) (h : L[j]? = some (p, .lst xs)) (hz : xs.length ≤ 1000000) (k : ∀ H1, Own G (L.set j (p, .lst (xs ++ [v]))) H1 → Q .non H1) : rAppend (.ref p) [v] H Q :=
  ⟨p, xs, v, rfl, rfl, S.getM (List.mem_of_getElem? h), smallL (Nat.le_trans hz (by decide)), k _ (S.putM h)⟩
theorem cutV_to (xs : List V) (i : Nat) : cutV xs none (some (i : Int)) = xs.take i := by
  unfold cutV
  rw [HT.sIx_none, HT.sIx_nat, List.drop_zero, Nat.sub_zero]
  by_cases h : i ≤ xs.length
  · rw [Nat.min_eq_left h]
  · rw [Nat.min_eq_right (by omega), List.take_length, List.take_of_length_le (by omega)]
theorem cutV_from (xs : List V) (i : Nat) : cutV xs (some (i : Int)) none = xs.drop i := by
  unfold cutV
  rw [HT.sIx_none, HT.sIx_nat]
  by_cases h : i ≤ xs.length
  · rw [Nat.min_eq_left h]
    exact List.take_of_length_le (by rw [List.length_drop]; omega)
  · rw [Nat.min_eq_right (by omega), List.drop_length, List.drop_of_length_le (by omega), List.take_nil]
theorem cutV_all (xs : List V) : cutV xs none none = xs := by
  unfold cutV
  rw [HT.sIx_none, HT.sIx_none, List.drop_zero, Nat.sub_zero, List.take_length]
/-- xs[lo:hi] of a list, read from now on -/
theorem n_sl {lo hi : Option Int} (S : Own G L H) (h : SqL K H p xs) (k : ∀ p G1 H1, H p = none → Ex G G1 → Ex H H1 → G1 p = some (.lst (cutV xs lo hi)) → Own G1 L H1 → Q (.ref p) H1) : rSlL K (.ref p) lo hi H Q :=
  ⟨p, xs, rfl, h, fun p hp => k p _ _ hp (S.still hp).2.1 (Ex.new hp) (S.still hp).2.2 (S.still hp).1⟩
theorem n_slL {lo hi : Option Int} (S : Own G L H) (h : SqL K H p xs) (k : ∀ p H1, H p = none → Own G ((p, .lst (cutV xs lo hi)) :: L) H1 → Q (.ref p) H1) : rSlL K (.ref p) lo hi H Q :=
  ⟨p, xs, rfl, h, fun p hp => k p _ hp (S.lay hp)⟩
theorem tyL (h : SqL K H p xs) : tyV K "list" (.ref p) H := .inl ⟨rfl, xs, h⟩
theorem Own.l0 (S : Own G ((p, .lst xs) :: L) H) : SqL K H p xs := SqL.of S.get0
theorem Own.l1 {q : Addr} {o : HO} (S : Own G ((q, o) :: (p, .lst xs) :: L) H) : SqL K H p xs := SqL.of S.get1
theorem Own.l2 {q r : Addr} {o o2 : HO} (S : Own G ((r, o2) :: (q, o) :: (p, .lst xs) :: L) H) : SqL K H p xs := SqL.of S.get2
end
/-! ### attributes -/
def GETF (K : PySem.W.Frag) (x : V) (f : Str) (H : Hp) (Q : VK) : Prop := ∃ a C dx fs v, x = .ref a ∧ H a = some (.ins C dx fs) ∧ Cls K C ∧ NoAttr K C f ∧ fs.lookup f = some v ∧ Q v H
def SETF (K : PySem.W.Frag) (x : V) (f : Str) (y : V) (H : Hp) (R : Hp → Prop) : Prop := ∃ a C dx fs, x = .ref a ∧ H a = some (.ins C dx fs) ∧ Cls K C ∧ NoAttr K C f ∧ fs.length < 1000 ∧ R (upd H a (.ins C dx (putF f y fs)))
section
variable {K : PySem.W.Frag} {σ : L2.St} {G H : Hp} {L : List (Addr × HO)} {ta tv : TE} {f : Str} {Q : VK} {n b c : L2.St → Hp → Prop} {rt : VK} {a C dx : Addr} {fs : List (Str × V)} {v y : V}
theorem g_fld (k : ta σ H fun x H1 => GETF K x f H1 Q) : tFld K ta f σ H Q := k
theorem s_fld (k : tv σ H fun y H1 => ta σ H1 fun x H2 => SETF K x f y H2 (n σ)) : sFld K ta tv f ⟨n, rt, b, c⟩ σ H := k
theorem n_fld (h : H a = some (.ins C dx fs)) (c : Cls K C) (n : NoAttr K C f) (l : fs.lookup f = some v) (k : Q v H) : GETF K (.ref a) f H Q := ⟨a, C, dx, fs, v, rfl, h, c, n, l, k⟩
theorem n_setF {R : Hp → Prop} (S : Own G ((a, .ins C dx fs) :: L) H) (c : Cls K C) (n : NoAttr K C f) (hl : fs.length < 1000) (k : ∀ H1, Own G ((a, .ins C dx (putF f y fs)) :: L) H1 → R H1) : SETF K (.ref a) f y H R := ⟨a, C, dx, fs, rfl, S.get0, c, n, hl, k _ S.put0⟩
end
/-! ### list + list, also of lists that are only known -/
def rCatL (K : PySem.W.Frag) : R2 := fun x y H Q => ∃ l b xs zs, x = .ref l ∧ y = .ref b ∧ SqL K H l xs ∧ SqL K H b zs ∧ xs.length + zs.length ≤ sizeLine ∧ ∀ p, H p = none → Q (.ref p) (upd H p (.lst (xs ++ zs)))
theorem op_catL {X : Cx} : OpR X (binaryOp .Add) (rCatL X.K) := by
  intro pins s σ H x y v u Q I rx ry h
  obtain ⟨l, b, xs, zs, rfl, rfl, hH, hB, hz, q⟩ := h
  cases rx
  cases ry
  obtain ⟨its, r, hl, h1⟩ := I.list hH
  obtain ⟨its2, r2, hb, h2⟩ := I.list hB
  obtain ⟨⟨cls, dd, data, sl⟩, ho, hc, n, hd⟩ := id hl.isList
  obtain ⟨⟨cls2, dd2, data2, sl2⟩, ho2, hc2, n2, hd2⟩ := id hb.isList
  simp only at hc hd hc2 hd2
  subst hc hd hc2 hd2
  have e : its.toArray ++ its2.toArray = (its ++ its2).toArray := by simp
  have hl1 := r.length
  have hl2 := r2.length
  refine concat_meets ⟨_, ho, rfl⟩ ⟨_, ho2, rfl⟩ noFill_list_add seq_list_add PySem.F.slot_list_add PySem.F.entry_list_add (PySem.F.args_list_add_2 _ _) (list_addW l b its.toArray its2.toArray n n2 dd dd2 sl sl2 (by simp; omega)) ⟨ho, ho2, ?_⟩
  rw [e]
  exact ⟨.ref _, _, I.lnew (t' := s.toks) (r.append r2) (by rw [List.length_append]; exact hz), rfl, q _ I.fresh⟩
theorem n_cat {K : PySem.W.Frag} {G H : Hp} {L : List (Addr × HO)} {l b : Addr} {xs zs : List V} {Q : VK} (S : Own G L H) (hx : SqL K H l xs) (hz : SqL K H b zs) (h : xs.length + zs.length ≤ 10000000) (k : ∀ p H1, H p = none → Own G ((p, .lst (xs ++ zs)) :: L) H1 → Q (.ref p) H1) : rCatL K (.ref l) (.ref b) H Q :=
  ⟨l, b, xs, zs, rfl, rfl, hx, hz, small h, fun p hp => k p _ hp (S.lay hp)⟩
theorem n_catG {K : PySem.W.Frag} {G H : Hp} {L : List (Addr × HO)} {l b : Addr} {xs zs : List V} {Q : VK} (S : Own G L H) (hx : SqL K H l xs) (hz : SqL K H b zs) (h : xs.length + zs.length ≤ 10000000) (k : ∀ p G1 H1, H p = none → Ex G G1 → Ex H H1 → G1 p = some (.lst (xs ++ zs)) → Own G1 L H1 → Q (.ref p) H1) : rCatL K (.ref l) (.ref b) H Q :=
  ⟨l, b, xs, zs, rfl, rfl, hx, hz, small h, fun p hp => k p _ _ hp (S.still hp).2.1 (Ex.new hp) (S.still hp).2.2 (S.still hp).1⟩
/-! ### methods, new instances -/
/-- the method m of the class at C -/
def Mth (P : Program) (w : World) (K : PySem.W.Frag) (mg : Str → Option Value) (base : Heap) (k : Nat) (C : Addr) (m : Str) (ps : List Str) (sp : Sp) : Prop :=
  ∃ (f : Addr) (fd : FuncData), Meth K C m f ∧ FnOk P w K mg base (L2.CX P w) k f fd ps sp ∧ Binds K fd ps []
/-- the class x at C, made by an __init__ that keeps sp -/
def Cnw (P : Program) (w : World) (K : PySem.W.Frag) (mg : Str → Option Value) (base : Heap) (k : Nat) (x : Str) (C : Addr) (ps : List Str) (sp : Sp) : Prop :=
  ∃ (f : Addr) (fd : FuncData), Mk K C f ∧ FnOk P w K mg base (L2.CX P w) k f fd ps sp ∧ mg x = some (.ref C) ∧ Binds K fd ps []
def INS (C : Addr) (m : Str) (x : V) (H : Hp) : Prop := ∃ a dx fs, x = .ref a ∧ H a = some (.ins C dx fs) ∧ fs.lookup m = none
def tMth (C : Addr) (m : Str) (sp : Sp) (E : XK) (ta : TE) (t : TA) : TE := fun σ H Q => ta σ H fun x H1 => INS C m x H1 ∧ t σ H1 fun vs H2 => sp (x :: vs) H2 Q E
def MAKE (C : Addr) (sp : Sp) (E : XK) (vs : List V) (H1 : Hp) (Q : VK) : Prop := ∀ x dx, H1 x = none → H1 dx = none → dx ≠ x → sp (.ref x :: vs) (upd (upd H1 dx (.own x)) x (.ins C dx [])) (fun v H2 => v = .non ∧ Q (.ref x) H2) E
def tNew (C : Addr) (sp : Sp) (E : XK) (t : TA) : TE := fun σ H Q => t σ H fun vs H1 => MAKE C sp E vs H1 Q
section
variable {X : Cx} {k : Nat} {C : Addr} {m x : Str} {ps : List Str} {sp : Sp} {E : XK} {o e : Expr} {es : List Expr} {ta : TE} {t : TA} {p apos pos : Pos}
theorem pe_mth {pl : Sem Bool} (he : PE X o ta) (M : Mth X.prog X.w X.K X.mg X.base k C m ps sp) (c : Cls X.K C) (hr : Room k X.A) (hx : Passes (L2.CX X.prog X.w) X E) (ha : PA X (e :: es) t)
    (ht : eval (.Call (.Attribute o m apos) (e :: es) [] pos) X.env = (do
      let ov ← eval o X.env
      standAt apos.atName
      let (f, first) ← holding [ov] (getMethod ov m pl)
      callWith pos f first (backTo pos (starEach (e :: es) X.env)) (backToKw pos (keywordEach [] X.env))) := by rfl)
    (hst : starEach (e :: es) X.env = (false, eval e X.env) :: starEach es X.env := by rfl) (hpl : (backTo pos (starEach es X.env)).any (·.1) = false := by rfl) :
    PE X (.Call (.Attribute o m apos) (e :: es) [] pos) (tMth C m sp E ta t) := by
  obtain ⟨f, fd, hm, F, hb⟩ := M
  have q : PE X (.Call (.Attribute o m apos) (e :: es) [] pos) (tMeth C m sp [] E ta t) := pe_meth (pl := pl) he c hm F hr hb .nil hx ha hst hpl ht
  refine ⟨fun pins s σ H Q I h => q.run pins s σ H Q I ?_⟩
  have e : ∀ x : V, (fun (vs : List V) (H1 : Hp) => sp (x :: (vs ++ [])) H1 Q E) = (fun vs H1 => sp (x :: vs) H1 Q E) := fun x => by
    funext vs H1
    rw [List.append_nil]
  have e2 : (fun (x : V) (H1 : Hp) => ∃ a dx fs, x = .ref a ∧ H1 a = some (.ins C dx fs) ∧ fs.lookup m = none ∧ t σ H1 fun vs H2 => sp (x :: (vs ++ [])) H2 Q E) = (fun x H1 => INS C m x H1 ∧ t σ H1 fun vs H2 => sp (x :: vs) H2 Q E) := by
    funext x H1
    rw [e x]
    exact propext ⟨fun ⟨a, dx, fs, h1, h2, h3, h4⟩ => ⟨⟨a, dx, fs, h1, h2, h3⟩, h4⟩, fun ⟨⟨a, dx, fs, h1, h2, h3⟩, h4⟩ => ⟨a, dx, fs, h1, h2, h3, h4⟩⟩
  show ta σ H fun x H1 => ∃ a dx fs, x = .ref a ∧ H1 a = some (.ins C dx fs) ∧ fs.lookup m = none ∧ t σ H1 fun vs H2 => sp (x :: (vs ++ [])) H2 Q E
  rw [e2]
  exact h
theorem pe_mth0 {pl : Sem Bool} (he : PE X o ta) (M : Mth X.prog X.w X.K X.mg X.base k C m ps sp) (c : Cls X.K C) (hr : Room k X.A) (hx : Passes (L2.CX X.prog X.w) X E)
    (ht : eval (.Call (.Attribute o m apos) [] [] pos) X.env = (do
      let ov ← eval o X.env
      standAt apos.atName
      let (f, first) ← holding [ov] (getMethod ov m pl)
      callWith pos f first (backTo pos (starEach [] X.env)) (backToKw pos (keywordEach [] X.env))) := by rfl) :
    PE X (.Call (.Attribute o m apos) [] [] pos) (tMth C m sp E ta tNil) := by
  obtain ⟨f, fd, hm, F, hb⟩ := M
  have q : PE X (.Call (.Attribute o m apos) [] [] pos) (tMeth C m sp [] E ta tNil) := pe_meth0 (pl := pl) he c hm F hr hb .nil hx ht
  refine ⟨fun pins s σ H Q I h => q.run pins s σ H Q I ?_⟩
  have e2 : (fun (x : V) (H1 : Hp) => ∃ a dx fs, x = .ref a ∧ H1 a = some (.ins C dx fs) ∧ fs.lookup m = none ∧ sp (x :: ([] ++ [])) H1 Q E) = (fun x H1 => INS C m x H1 ∧ sp (x :: []) H1 Q E) := by
    funext x H1
    exact propext ⟨fun ⟨a, dx, fs, h1, h2, h3, h4⟩ => ⟨⟨a, dx, fs, h1, h2, h3⟩, h4⟩, fun ⟨⟨a, dx, fs, h1, h2, h3⟩, h4⟩ => ⟨a, dx, fs, h1, h2, h3, h4⟩⟩
  show ta σ H fun x H1 => ∃ a dx fs, x = .ref a ∧ H1 a = some (.ins C dx fs) ∧ fs.lookup m = none ∧ sp (x :: ([] ++ [])) H1 Q E
  rw [e2]
  exact h
theorem pe_new (N : Cnw X.prog X.w X.K X.mg X.base k x C ps sp) (hr : Room (k + 1) X.A) (hx : Passes (L2.CX X.prog X.w) X E) (ha : PA X (e :: es) t) (hg : Gl X x := by rfl)
    (hdb : (x == ("__debug__" : Str)) = false := by decide) (he : starEach (e :: es) X.env = (false, eval e X.env) :: starEach es X.env := by rfl) (hpl : (backTo pos (starEach es X.env)).any (·.1) = false := by rfl) :
    PE X (.Call (.Name x p) (e :: es) [] pos) (tNew C sp E t) := by
  obtain ⟨f, fd, M, F, hm, hb⟩ := N
  have q : PE X (.Call (.Name x p) (e :: es) [] pos) (tMake C sp [] E t) := pe_make M F hr hg hm hb .nil hx ha hdb he hpl
  refine ⟨fun pins s σ H Q I h => q.run pins s σ H Q I ?_⟩
  have e2 : (fun (vs : List V) (H1 : Hp) => ∀ x dx, H1 x = none → H1 dx = none → dx ≠ x → sp (.ref x :: (vs ++ [])) (upd (upd H1 dx (.own x)) x (.ins C dx [])) (fun v H2 => v = .non ∧ Q (.ref x) H2) E) = (fun vs H1 => MAKE C sp E vs H1 Q) := by
    funext vs H1
    rw [List.append_nil] <;> rfl
  show t σ H fun vs H1 => ∀ x dx, H1 x = none → H1 dx = none → dx ≠ x → sp (.ref x :: (vs ++ [])) (upd (upd H1 dx (.own x)) x (.ins C dx [])) (fun v H2 => v = .non ∧ Q (.ref x) H2) E
  rw [e2]
  exact h
theorem g_mth {σ : L2.St} {H : Hp} {Q : VK} (k : ta σ H fun x H1 => INS C m x H1 ∧ t σ H1 fun vs H2 => sp (x :: vs) H2 Q E) : tMth C m sp E ta t σ H Q := k
theorem g_new {σ : L2.St} {H : Hp} {Q : VK} (k : t σ H fun vs H1 => MAKE C sp E vs H1 Q) : tNew C sp E t σ H Q := k
end
/-! ### len, == and != of instances -/
section
variable {prog : Program} {w : World} {A : Around} {E : Value → Shared → Prop} {s : Shared} {K : PySem.W.Frag} {x y C f L : Addr} {h₀ : Heap} {m : Str → Option Value} {ox : Obj} {od : Option Obj}
theorem ifBound_objNe {M : Model} {args : List Value} {Q : Option Value → Shared → Prop} (X : K.In s.heap) (I : PySem.W.InstAt s.heap x ox C od) (hs : PySem.W.findIn K (.ref C) "__ne__" = some (some (.builtin "object.__ne__")))
    (h : wpAny M A (call (.builtin "object.__ne__") (.ref x :: args)) (fun v => Q (some v)) E s) : wpAny M A (callSpecialIfBound? (.ref x) "__ne__" args) Q E s := by
  simp only [callSpecialIfBound?, bindSpecialIfBound?]
  refine wpAny_holding (wpAny_bind (wpAny_bind (wpAny_bind (I.type.here ((PySem.W.looks_findIn X hs).here ?_)))))
  refine wpAny_bind (wpAny_askSetting (wpAny_ite ?_))
  have fin : wpAny M A (call (.builtin "object.__ne__") ([.ref x] ++ args) >>= fun v => pure (some v)) Q E s := wpAny_bind (wpAny_mono h (fun v s' h' => wpAny_pure h') fun _ _ h' => h')
  split
  · exact wpAny_bind (wpAny_of_eq (PySem.F.cmp_object.ne.bind _) (wpAny_pure (by exact fin)))
  · exact wpAny_tryCatch (wpAny_bind (wpAny_of_eq (PySem.F.cmp_object.ne.bind _) (wpAny_pure (by exact fin))))
theorem entry_objNe (X : K.In s.heap) (I : PySem.W.InstAt s.heap x ox C od) (hs : PySem.W.findIn K (.ref C) "__eq__" = some (some (.ref f))) (hf : PySem.W.isFn K (.ref f) = true) (hu : A.units < cLine) {Q : Fin → Shared → Prop}
    (hcall : wpAny (model prog w) A (call (.ref f) [.ref x, .ref y]) (fun v s' => ∃ b, v = .bool b ∧ Q (.done (.ret (.bool (!b)))) s') E s) :
    wpAny (model prog w) A (Builtin.«object.__ne__» ⟨[.ref x, .ref y], []⟩) Q E s := by
  unfold Builtin.«object.__ne__»
  repeat (first
    | with_reducible refine wpAny_cRoomFor hu ?_
    | (refine wpAny_bind (m := callSpecialIfBound? (.ref x) (Str.ofString "__eq__") [.ref y])
        (PySem.W.ifBound_K X I hs hf (wpAny_mono hcall (fun r s' hr => by
          obtain ⟨b, rfl, hq⟩ := hr
          repeat (first | exact hq | exact wpAny_pure hq | exact wpAny_truthy_bool hq | (refine wpAny_bind (m := truthy (.bool _)) (wpAny_truthy_bool ?_)) | wp_step)) fun _ _ e => e)))
    | wp_step)
theorem ne_K {tb : Value} {Q : Value → Shared → Prop} (hu : A.units + 1 < cLine) (Fm : Fr h₀ L s.heap m) (X₀ : K.In h₀) (I : PySem.W.InstAt s.heap x ox C od) (hb : PySem.W.Looks (model prog w) s.heap (typeOf (.ref y)) tb) (hn : PySem.W.notFirst K C tb = true)
    (hne : PySem.W.findIn K (.ref C) "__ne__" = some (some (.builtin "object.__ne__"))) (hm : PySem.W.mroIn K C (.type "object") = some true)
    (hs : PySem.W.findIn K (.ref C) "__eq__" = some (some (.ref f))) (hf : PySem.W.isFn K (.ref f) = true)
    (h : wpAny (model prog w) A.in1 (call (.ref f) [.ref x, .ref y]) (fun v s' => ∃ b, v = .bool b ∧ Q (.bool (!b)) s') E s) : wpAny (model prog w) A (richCompare .NotEq (.ref x) (.ref y)) Q E s := by
  have X := X₀.keeps Fm.keep
  have one : wpAny (model prog w) A (tryCompare (.ref x) (cmpInfo .NotEq).2.1 (.ref y)) (fun r s' => ∃ v, r = some v ∧ Q v s') E s := by
    rw [cmpInfo_NotEq]
    unfold tryCompare
    refine wpAny_bind (ifBound_objNe X I hne (wpAny_call (codeAny_call_builtin PySem.F.cmp_object.ne.plain PySem.F.cmpEntry_ne (PySem.W.check_slot PySem.F.cmpKind_ne PySem.F.cmpSplit_ne (I.type.andThen (PySem.W.looks_mroIn X hm)) (PySem.F.cmpArgs_ne _ _)
      (entry_objNe (A := A.in1) X I hs hf (show A.in1.units < cLine from hu) (wpAny_mono h (fun v s' hv => ?_) fun _ _ e => e))))))
    obtain ⟨b, rfl, hq⟩ := hv
    first | exact ⟨b, rfl, wpAny_pure ⟨_, rfl, hq⟩⟩ | exact ⟨b, rfl, wpAny_pure (wpAny_pure ⟨_, rfl, hq⟩)⟩ | exact ⟨b, rfl, ⟨_, rfl, hq⟩⟩
  unfold richCompare
  simp only [oneThing_ref]
  refine wpAny_holding (wpAny_bind (wpAny_cRoomFor (Nat.lt_of_succ_lt hu) ?_))
  refine wpAny_bind (I.type.here (wpAny_bind (hb.here ?_)))
  split
  · rename_i q
    have e : PySem.W.subIn K tb (.ref C) = some false := by
      rcases Bool.or_eq_true_iff.mp hn with e | e
      · rw [beq_iff_eq.mp e] at q; simp at q
      · exact beq_iff_eq.mp e
    refine wpAny_bind ((PySem.W.looks_subIn X e).here ?_)
    simp only [Bool.false_eq_true, if_false]
    refine wpAny_bind (wpAny_mono one (fun r s' z => ?_) fun _ _ e => e)
    obtain ⟨v, rfl, hq⟩ := z
    exact wpAny_pure hq
  · refine wpAny_bind (wpAny_pure ?_)
    simp only [Bool.false_eq_true, if_false]
    refine wpAny_bind (wpAny_mono one (fun r s' z => ?_) fun _ _ e => e)
    obtain ⟨v, rfl, hq⟩ := z
    exact wpAny_pure hq
end
end NX

namespace NX
open PySem PySem.Spec PyProof.Rows L2
/-! ### rules with the fragment named: for bodies of comprehensions -/
section
variable {X : Cx} {K : PySem.W.Frag}
theorem call_lenK (e : X.K = K := by rfl) : CallR X (.builtin "len") (Evl.rLenS K) := e ▸ call_lenN
theorem call_listK (e : X.K = K := by rfl) : CallR X (.type "list") (Evl.rListS K) := e ▸ call_listN
theorem call_tupK (e : X.K = K := by rfl) : CallR X (.type "tuple") (rTupS K) := e ▸ call_tupN
theorem call_isiK' (e : X.K = K := by rfl) : CallR X (.builtin "isinstance") (rIsi K) := e ▸ call_isi
theorem cr_sortedIK (e : X.K = K := by rfl) : CallR X (.builtin "sorted") (rSortedI K) := e ▸ cr_sortedI
theorem cr_sortedPOK (e : X.K = K := by rfl) : CallR X (.builtin "sorted") (rSortedPO K) := e ▸ cr_sortedPO
theorem cr_sumK (hc : X.calm = true) (e : X.K = K := by rfl) : CallR X (.builtin "sum") (rSum K) := e ▸ cr_sum hc
theorem cr_maxK (hc : X.calm = true) (e : X.K = K := by rfl) : CallR X (.builtin "max") (rMax K) := e ▸ cr_max hc
theorem cr_minK (hc : X.calm = true) (e : X.K = K := by rfl) : CallR X (.builtin "min") (rMin K) := e ▸ cr_min hc
theorem cr_allK (hc : X.calm = true) (e : X.K = K := by rfl) : CallR X (.builtin "all") (rAll K) := e ▸ cr_all hc
theorem ix_listK (e : X.K = K := by rfl) : IxR X (rIxL K) := e ▸ ix_list
theorem ix_tupK (e : X.K = K := by rfl) : IxR X (rIxT K) := e ▸ ix_tup
theorem sl_listK (e : X.K = K := by rfl) : SlR X (rSlL K) := e ▸ sl_list
theorem sl_tupAK (e : X.K = K := by rfl) : SlR X (rSlA K) := e ▸ sl_tupA
theorem op_in_seqK (e : X.K = K := by rfl) : OpR X (compareOp .In) (rIn K false) := e ▸ op_in_seq
theorem op_notIn_seqK (e : X.K = K := by rfl) : OpR X (compareOp .NotIn) (rIn K true) := e ▸ op_notIn_seq
theorem op_eqDK (hu : X.A.units + 64 < cLine) (e : X.K = K := by rfl) : OpR X (compareOp .Eq) (rEqD K) := e ▸ op_eqD hu
theorem op_neDK (hu : X.A.units + 64 < cLine) (e : X.K = K := by rfl) : OpR X (compareOp .NotEq) (rNeD K) := e ▸ op_neD hu
theorem op_inDK (hu : X.A.units + 65 < cLine) (e : X.K = K := by rfl) : OpR X (compareOp .In) (rInD K) := e ▸ op_inD hu
theorem op_notInDK (hu : X.A.units + 65 < cLine) (e : X.K = K := by rfl) : OpR X (compareOp .NotIn) (rNotInD K) := e ▸ op_notInD hu
theorem op_catLK (e : X.K = K := by rfl) : OpR X (binaryOp .Add) (rCatL K) := e ▸ op_catL
theorem op_catAK (e : X.K = K := by rfl) : OpR X (binaryOp .Add) (rCatA K) := e ▸ op_catA
theorem op_repTK (e : X.K = K := by rfl) : OpR X (binaryOp .Mult) (rRepT K) := e ▸ op_repT
theorem mt_indexK (e : X.K = K := by rfl) : MtR X "list.index" (rIndex K) := e ▸ mt_index
theorem pe_fldK {e : Expr} {ta : TE} {f : Str} {pos : Pos} (he : PE X e ta) (hb : attributeBase e f X.env (eval e X.env) = eval e X.env) (h : X.K = K := by rfl) : PE X (.Attribute e f pos) (tFld K ta f) := h ▸ pe_fld he hb
theorem pi_listK {tg l : Expr} {tl : TE} (hl : PE X l tl) (h : X.K = K := by rfl) : PI X tg l (iList K tl) := h ▸ pi_list hl
theorem pi_tupK {tg l : Expr} {tl : TE} (hl : PE X l tl) (h : X.K = K := by rfl) : PI X tg l (iTup K tl) := h ▸ pi_tup hl
theorem pg_tupK {es : List Expr} {k : Nat} {t : TGs} {n : Nat} {pos : Pos} (hc : X.calm = true) (h : PGs X es t) (e : X.K = K := by rfl)
    (hn : (assignEach es X.env).length = n := by rfl) (hst : (assignEach es X.env).findIdx? (·.1) = none := by rfl) : PG X (.Tuple es k pos) (gTup K n t) := e ▸ pg_tup hc h hn hst
theorem pe_bmK {o e : Expr} {es : List Expr} {to : TE} {t : TA} {name : Str} {apos cpos : Pos} {T id : String} {r : V → List V → Hp → VK → Prop} (pa : PlainAttrs T) (slot : Slot T name id) (hty : typeOf (.builtin id) = pure (.type "method_descriptor")) (hm : MtR X id r) (ho : PE X o to) (ha : PA X (e :: es) t)
    (h : X.K = K := by rfl) (hbase : attributeBase o name X.env (eval o X.env) = eval o X.env := by rfl)
    (hfew : ((backTo cpos (starEach (e :: es) X.env)).all (fun x => !x.1) && (backToKw cpos (keywordEach [] X.env)).all (fun x => x.1.isSome)
      && decide ((e :: es).length + ([] : List Keyword).length + (if ([] : List Keyword).isEmpty then 0 else 1) < 30)) = true := by rfl)
    (hline : (apos.endLine == cpos.line) = true := by rfl) (hs : starEach (e :: es) X.env = (false, eval e X.env) :: starEach es X.env := by rfl) (hplain : (backTo cpos (starEach es X.env)).any (·.1) = false := by rfl) :
    PE X (.Call (.Attribute o name apos) (e :: es) [] cpos) (tBM K T r to t) := h ▸ pe_bm pa slot hty hm ho ha hbase hfew hline hs hplain
end
end NX

namespace NX
open PySem PySem.Spec PyProof.Rows L2
open Evl (Ex ex_l ex_t fresh_back)
/-! ### lists of pairs of numbers -/
def isPr (H : Hp) (x : V) (q : Int × Int) : Prop := ∃ t, x = .ref t ∧ H t = some (.tup [.int q.1, .int q.2])
abbrev Lks (H : Hp) : List V → List (Int × Int) → Prop := Paired (isPr H)
theorem Lks.mono {G H : Hp} (e : Ex G H) {xs : List V} {ps : List (Int × Int)} (h : Lks G xs ps) : Lks H xs ps := Paired.mapP h fun _ _ ⟨t, a, b⟩ => ⟨t, a, e _ _ b⟩
theorem pr_snoc {α β : Type} {F : α → β → Prop} : ∀ {xs : List α} {ys : List β} {a : α} {b : β}, Paired F xs ys → F a b → Paired F (xs ++ [a]) (ys ++ [b])
  | _, _, _, _, .nil, h => .cons h .nil
  | _, _, _, _, .cons r t, h => .cons r (pr_snoc t h)
theorem pr_len {α β : Type} {F : α → β → Prop} {xs : List α} {ys : List β} (h : Paired F xs ys) : xs.length = ys.length := Paired.length h
theorem pr_get {α β : Type} {F : α → β → Prop} : ∀ {xs : List α} {ys : List β} {i : Nat} {a : α}, Paired F xs ys → xs[i]? = some a → ∃ b, ys[i]? = some b ∧ F a b
  | _, _, _, _, .nil, e => by simp at e
  | _, _, 0, _, .cons r _, e => by simp at e; subst e; exact ⟨_, rfl, r⟩
  | _, _, i + 1, _, .cons _ t, e => by
    obtain ⟨b, h1, h2⟩ := pr_get (i := i) t (by simpa using e)
    exact ⟨b, by simpa using h1, h2⟩
theorem take_snoc {α : Type} : ∀ {l : List α} {i : Nat} {x : α}, l[i]? = some x → l.take (i + 1) = l.take i ++ [x]
  | [], i, x, h => by simp at h
  | a :: l, 0, x, h => by
    have e : a = x := Option.some.inj h
    subst e
    rfl
  | a :: l, i + 1, x, h => by
    have ih := take_snoc (l := l) (i := i) (x := x) h
    show a :: l.take (i + 1) = a :: l.take i ++ [x]
    rw [ih]
    rfl
theorem get_map {α β : Type} {f : α → β} {l : List α} {i : Nat} {y : β} (h : (l.map f)[i]? = some y) : ∃ x, l[i]? = some x ∧ y = f x := by
  rw [List.getElem?_map] at h
  cases e : l[i]? with
  | none => rw [e] at h; cases h
  | some x => rw [e] at h; exact ⟨x, rfl, (Option.some.inj h).symm⟩
/-- range(a, b) -/
def rgI (a b : Int) : List Int := (List.range (b - a).toNat).map fun (i : Nat) => a + (i : Int)
theorem rgV_eq (a b : Int) : rgV a b = (rgI a b).map V.int := by
  unfold rgV rgI
  rw [List.map_map]
  rfl
theorem mem_rgI {a b k : Int} (h : k ∈ rgI a b) : a ≤ k ∧ k < b := by
  obtain ⟨i, hi, rfl⟩ := List.mem_map.mp h
  have := List.mem_range.mp hi
  omega
theorem pr_app {α β : Type} {F : α → β → Prop} : ∀ {xs xs' : List α} {ys ys' : List β}, Paired F xs ys → Paired F xs' ys' → Paired F (xs ++ xs') (ys ++ ys')
  | _, _, _, _, .nil, h => h
  | _, _, _, _, .cons r t, h => .cons r (pr_app t h)
end NX

/-! pairs in order; neighbours: plain Lean -/
namespace NX
abbrev Pr := Int × Int
def leP (x y : Pr) : Bool := decide (x.1 < y.1 ∨ (x.1 = y.1 ∧ x.2 ≤ y.2))
theorem leP_iff {x y : Pr} : leP x y = true ↔ (x.1 < y.1 ∨ (x.1 = y.1 ∧ x.2 ≤ y.2)) := by unfold leP; exact decide_eq_true_iff
theorem leP_total (x y : Pr) : leP x y = true ∨ leP y x = true := by
  rw [leP_iff, leP_iff]; omega
theorem leP_anti {x y : Pr} (h : leP x y = true) (h' : leP y x = true) : x = y := by
  rw [leP_iff] at h h'
  obtain ⟨a, b⟩ := x; obtain ⟨c, d⟩ := y
  simp only at h h'
  have h1 : a = c := by omega
  have h2 : b = d := by omega
  rw [h1, h2]
theorem leP_trans {x y z : Pr} (h : leP x y = true) (h' : leP y z = true) : leP x z = true := by
  rw [leP_iff] at *; omega
def insP (x : Pr) : List Pr → List Pr
  | [] => [x]
  | y :: l => if leP x y then x :: y :: l else y :: insP x l
def sortP : List Pr → List Pr
  | [] => []
  | x :: l => insP x (sortP l)
theorem insP_perm (x : Pr) : ∀ l, (insP x l).Perm (x :: l)
  | [] => List.Perm.refl _
  | y :: l => by
    unfold insP
    split
    · exact List.Perm.refl _
    · exact ((insP_perm x l).cons y).trans (List.Perm.swap x y l)
theorem sortP_perm : ∀ l, (sortP l).Perm l
  | [] => List.Perm.refl _
  | x :: l => (insP_perm x _).trans ((sortP_perm l).cons x)
abbrev Up (l : List Pr) : Prop := l.Pairwise fun x y => leP x y = true
theorem insP_up (x : Pr) : ∀ l, Up l → Up (insP x l)
  | [], _ => List.pairwise_singleton _ _
  | y :: l, h => by
    unfold insP
    split
    · rename_i c
      refine List.pairwise_cons.mpr ⟨fun z hz => ?_, h⟩
      rcases List.mem_cons.mp hz with rfl | hz
      · exact c
      · exact leP_trans c ((List.pairwise_cons.mp h).1 z hz)
    · rename_i c
      have c' : leP y x = true := (leP_total x y).resolve_left c
      refine List.pairwise_cons.mpr ⟨fun z hz => ?_, insP_up x l (List.pairwise_cons.mp h).2⟩
      rcases List.mem_cons.mp ((insP_perm x l).mem_iff.mp hz) with rfl | hz
      · exact c'
      · exact (List.pairwise_cons.mp h).1 z hz
theorem sortP_up : ∀ l, Up (sortP l)
  | [] => List.Pairwise.nil
  | x :: l => insP_up x _ (sortP_up l)
theorem up_uniq : ∀ {l m : List Pr}, Up l → Up m → l.Perm m → l = m
  | [], m, _, _, h => (List.Perm.nil_eq h)
  | x :: l, [], _, _, h => absurd h.length_eq (by simp)
  | x :: l, y :: m, hl, hm, h => by
    have hx : x ∈ y :: m := h.mem_iff.mp List.mem_cons_self
    have hy : y ∈ x :: l := h.mem_iff.mpr List.mem_cons_self
    have e : x = y := by
      rcases List.mem_cons.mp hx with e | hx
      · exact e
      · rcases List.mem_cons.mp hy with e | hy
        · exact e.symm
        · exact leP_anti ((List.pairwise_cons.mp hl).1 y hy) ((List.pairwise_cons.mp hm).1 x hx)
    subst e
    rw [up_uniq (List.pairwise_cons.mp hl).2 (List.pairwise_cons.mp hm).2 h.cons_inv]
theorem sortP_eq {l m : List Pr} (h : Up l) (p : l.Perm m) : l = sortP m := up_uniq h (sortP_up m) (p.trans (sortP_perm m).symm)
theorem sortP_congr {l m : List Pr} (p : l.Perm m) : sortP l = sortP m := up_uniq (sortP_up l) (sortP_up m) (((sortP_perm l).trans p).trans (sortP_perm m).symm)
theorem sortP_id {l : List Pr} (h : Up l) : sortP l = l := (sortP_eq h (List.Perm.refl l)).symm
theorem sortP_len (l : List Pr) : (sortP l).length = l.length := (sortP_perm l).length_eq
theorem mem_sortP {l : List Pr} {q : Pr} : q ∈ sortP l ↔ q ∈ l := (sortP_perm l).mem_iff
/-- the neighbours of i, in the order of the links -/
def nb (ks : List Pr) (i : Int) : List Int := ks.filterMap fun q => if q.1 = i then some q.2 else if q.2 = i then some q.1 else none
theorem nb_app (ks ls : List Pr) (i : Int) : nb (ks ++ ls) i = nb ks i ++ nb ls i := by unfold nb; rw [List.filterMap_append]
theorem nb_one (q : Pr) (i : Int) : nb [q] i = if q.1 = i then [q.2] else if q.2 = i then [q.1] else [] := by
  show (([q] : List Pr).filterMap fun q => if q.1 = i then some q.2 else if q.2 = i then some q.1 else none) = _
  rw [List.filterMap_cons]
  by_cases h : q.1 = i
  · simp [h]
  · by_cases h2 : q.2 = i
    · simp [h, h2]
    · simp [h, h2]
theorem mem_nb {ks : List Pr} {i j : Int} : j ∈ nb ks i ↔ (i, j) ∈ ks ∨ (j, i) ∈ ks ∧ j ≠ i := by
  unfold nb
  rw [List.mem_filterMap]
  constructor
  · rintro ⟨⟨a, b⟩, hq, h⟩
    simp only at h
    by_cases h1 : a = i
    · rw [if_pos h1] at h
      cases h
      subst h1
      exact .inl hq
    · rw [if_neg h1] at h
      by_cases h2 : b = i
      · rw [if_pos h2] at h
        cases h
        subst h2
        exact .inr ⟨hq, h1⟩
      · rw [if_neg h2] at h
        cases h
  · rintro (h | ⟨h, ne⟩)
    · exact ⟨(i, j), h, by simp⟩
    · exact ⟨(j, i), h, by simp [ne]⟩
/-- a network's links: each the smaller station first -/
def Okl (n : Nat) (ks : List Pr) : Prop := ∀ q ∈ ks, 0 ≤ q.1 ∧ q.1 < q.2 ∧ q.2 < (n : Int)
theorem mem_nb' {n : Nat} {ks : List Pr} (h : Okl n ks) {i j : Int} : j ∈ nb ks i ↔ (i, j) ∈ ks ∨ (j, i) ∈ ks := by
  rw [mem_nb]
  constructor
  · rintro (a | a)
    · exact .inl a
    · exact .inr a.1
  · rintro (a | a)
    · exact .inl a
    · exact .inr ⟨a, by have := h _ a; simp only at this; omega⟩
theorem nb_sym {n : Nat} {ks : List Pr} (h : Okl n ks) {i j : Int} : j ∈ nb ks i ↔ i ∈ nb ks j := by
  rw [mem_nb' h, mem_nb' h]
  exact ⟨fun a => a.symm, fun a => a.symm⟩
theorem nb_rng {n : Nat} {ks : List Pr} (h : Okl n ks) {i j : Int} (m : j ∈ nb ks i) : 0 ≤ j ∧ j < n ∧ j ≠ i ∧ 0 ≤ i ∧ i < n := by
  rw [mem_nb' h] at m
  rcases m with m | m
  · have := h _ m; simp only at this; omega
  · have := h _ m; simp only at this; omega
theorem Okl.sort {n : Nat} {ks : List Pr} (h : Okl n ks) : Okl n (sortP ks) := fun q hq => h q (mem_sortP.mp hq)
/-- the neighbours of a sorted list of links are in ascending order -/
theorem nb_up {n : Nat} : ∀ {ks : List Pr}, Okl n ks → Up ks → ks.Nodup → ∀ i, (nb ks i).Pairwise (· < ·)
  | [], _, _, _, _ => List.Pairwise.nil
  | q :: ks, h, u, d, i => by
    have h' : Okl n ks := fun q hq => h q (List.mem_cons_of_mem _ hq)
    have u' := List.pairwise_cons.mp u
    have d' := List.nodup_cons.mp d
    have ih := nb_up h' u'.2 d'.2 i
    have e : nb (q :: ks) i = nb [q] i ++ nb ks i := nb_app [q] ks i
    rw [e, nb_one]
    have hq := h q List.mem_cons_self
    obtain ⟨a, b⟩ := q
    simp only at hq ⊢
    by_cases h1 : a = i
    · rw [if_pos h1]
      refine List.pairwise_cons.mpr ⟨fun z hz => ?_, ih⟩
      subst h1
      rcases (mem_nb' h').mp hz with m | m
      · have c := leP_iff.mp (u'.1 _ m)
        simp only at c
        have ne : b ≠ z := fun z' => by subst z'; exact d'.1 m
        omega
      · have c := leP_iff.mp (u'.1 _ m)
        have c2 := h' _ m
        simp only at c c2
        omega
    · rw [if_neg h1]
      by_cases h2 : b = i
      · rw [if_pos h2]
        refine List.pairwise_cons.mpr ⟨fun z hz => ?_, ih⟩
        subst h2
        rcases (mem_nb' h').mp hz with m | m
        · have c := h' _ m
          have c2 := leP_iff.mp (u'.1 _ m)
          simp only at c c2
          omega
        · have c := leP_iff.mp (u'.1 _ m)
          simp only at c
          have ne : a ≠ z := fun z' => by subst z'; exact d'.1 m
          omega
      · rw [if_neg h2]
        exact ih
theorem nb_nodup {n : Nat} {ks : List Pr} (h : Okl n ks) (u : Up ks) (d : ks.Nodup) (i : Int) : (nb ks i).Nodup :=
  (nb_up h u d i).imp fun {a b} (c : a < b) => by omega
/-- not more neighbours than stations -/
theorem up_len : ∀ {l : List Int} {lo hi : Int}, l.Pairwise (· < ·) → (∀ x ∈ l, lo ≤ x ∧ x < hi) → l = [] ∨ (l.length : Int) ≤ hi - lo
  | [], _, _, _, _ => .inl rfl
  | x :: l, lo, hi, h, b => by
    have h' := List.pairwise_cons.mp h
    have bx := b x List.mem_cons_self
    refine .inr ?_
    rcases up_len (lo := x + 1) (hi := hi) h'.2 (fun y hy => ⟨by have := h'.1 y hy; omega, (b y (List.mem_cons_of_mem _ hy)).2⟩) with e | e
    · subst e
      show ((0 + 1 : Nat) : Int) ≤ _
      omega
    · rw [List.length_cons]
      omega
theorem I_len {n : Nat} {ks : List Pr} (h : Okl n ks) (u : Up ks) (d : ks.Nodup) (i : Int) : (nb ks i).length ≤ n := by
  rcases up_len (lo := 0) (hi := (n : Int)) (nb_up h u d i) (fun x hx => by have := nb_rng h hx; omega) with e | e
  · rw [e]; exact Nat.zero_le _
  · omega
end NX

namespace NX
/-! ### chains and tables, no program in sight -/
def cge (ns : List Int) (j : Int) : Nat := ns.countP fun x => decide (j ≤ x)
/-- k of the numbers are at least 1, 2 .. k, each another one -/
def Has (ns : List Int) (k : Int) : Prop := ∀ j : Int, 1 ≤ j → j ≤ k → k - j + 1 ≤ (cge ns j : Int)
def IsCh (ns : List Int) (g : Int) : Prop := 0 ≤ g ∧ ∀ k : Int, k ≤ g ↔ Has ns k
theorem Has.down {ns : List Int} {k l : Int} (h : Has ns k) (e : l ≤ k) : Has ns l := fun j h1 h2 => by have := h j h1 (by omega); omega
theorem IsCh.uniq {ns : List Int} {g g' : Int} (h : IsCh ns g) (h' : IsCh ns g') : g = g' := by
  have h1 := (h'.2 g).mpr ((h.2 g).mp (Int.le_refl _))
  have h2 := (h.2 g').mpr ((h'.2 g').mp (Int.le_refl _))
  omega
theorem cge_perm {ns ms : List Int} (p : ns.Perm ms) (j : Int) : cge ns j = cge ms j := p.countP_eq _
theorem IsCh.perm {ns ms : List Int} {g : Int} (h : IsCh ns g) (p : ns.Perm ms) : IsCh ms g :=
  ⟨h.1, fun k => (h.2 k).trans ⟨fun a j h1 h2 => by rw [← cge_perm p]; exact a j h1 h2, fun a j h1 h2 => by rw [cge_perm p]; exact a j h1 h2⟩⟩
theorem cge_app (ns ms : List Int) (j : Int) : cge (ns ++ ms) j = cge ns j + cge ms j := List.countP_append ..
theorem cge_one (x j : Int) : cge [x] j = if j ≤ x then 1 else 0 := by unfold cge; simp
theorem cge_cons (x : Int) (ns : List Int) (j : Int) : cge (x :: ns) j = cge [x] j + cge ns j := cge_app [x] ns j
theorem cge_len (ns : List Int) (j : Int) : cge ns j ≤ ns.length := List.countP_le_length
theorem IsCh.nil : IsCh [] 0 := ⟨Int.le_refl _, fun k => ⟨fun h j h1 h2 => by omega, fun h => by
  by_cases c : k ≤ 0
  · exact c
  · have := h k (by omega) (Int.le_refl _)
    unfold cge at this
    simp at this⟩⟩
theorem IsCh.snoc {ns : List Int} {g x : Int} (h : IsCh ns g) (hx : ∀ y ∈ ns, y ≤ x) : IsCh (ns ++ [x]) (if x > g then g + 1 else g) := by
  obtain ⟨h0, h⟩ := h
  by_cases c : x > g
  · rw [if_pos c]
    refine ⟨by omega, fun k => ⟨fun hk j h1 h2 => ?_, fun hk => ?_⟩⟩
    · rw [cge_app, cge_one, if_pos (by omega)]
      by_cases e : j ≤ k - 1
      · have := (h (k - 1)).mp (by omega) j h1 e
        omega
      · omega
    · have : Has ns (k - 1) := fun j h1 h2 => by
        have := hk j h1 (by omega)
        rw [cge_app, cge_one] at this
        split at this <;> omega
      have := (h (k - 1)).mpr this
      omega
  · rw [if_neg c]
    refine ⟨h0, fun k => ⟨fun hk j h1 h2 => ?_, fun hk => ?_⟩⟩
    · have := (h k).mp hk j h1 h2
      rw [cge_app]
      omega
    · by_cases e : k ≤ g
      · exact e
      · have := hk.down (show g + 1 ≤ k by omega) (g + 1) (by omega) (Int.le_refl _)
        rw [cge_app, cge_one, if_neg (by omega)] at this
        have z : cge ns (g + 1) = 0 := by
          unfold cge
          refine List.countP_eq_zero.mpr fun y hy => ?_
          have := hx y hy
          simp
          omega
        rw [z] at this
        omega
theorem IsCh.le_len {ns : List Int} {g : Int} (h : IsCh ns g) : g ≤ (ns.length : Int) := by
  by_cases c : g ≤ 0
  · omega
  · have := (h.2 g).mp (Int.le_refl _) 1 (Int.le_refl _) (by omega)
    have z := cge_len ns 1
    omega
/-- more and greater numbers: a longer chain -/
theorem cge_mono {α : Type} {f g : α → Int} : ∀ {l m : List α}, l.Sublist m → (∀ x ∈ l, f x ≤ g x) → ∀ j, cge (l.map f) j ≤ cge (m.map g) j
  | _, _, .slnil, _, j => Nat.le_refl _
  | _, _, .cons a s, h, j => by
    have := cge_mono s h j
    rw [List.map_cons]
    rw [cge_cons]
    omega
  | _, _, .cons₂ a s, h, j => by
    have := cge_mono s (fun x hx => h x (List.mem_cons_of_mem _ hx)) j
    rw [List.map_cons, List.map_cons]
    rw [cge_cons (f a), cge_cons (g a), cge_one, cge_one]
    have := h a List.mem_cons_self
    split <;> split <;> omega
theorem IsCh.mono {α : Type} {f g : α → Int} {l m : List α} {c d : Int} (s : l.Sublist m) (h : ∀ x ∈ l, f x ≤ g x) (hc : IsCh (l.map f) c) (hd : IsCh (m.map g) d) : c ≤ d :=
  (hd.2 c).mpr fun j h1 h2 => by
    have := (hc.2 c).mp (Int.le_refl _) j h1 h2
    have := cge_mono s h j
    omega
/-- a value that is smaller somewhere: a station that shows it -/
theorem cge_less {α : Type} {f g : α → Int} {j : Int} : ∀ {l m : List α}, l.Sublist m → cge (m.map g) j < cge (l.map f) j → ∃ x ∈ l, g x < j ∧ j ≤ f x
  | _, _, .slnil, h => absurd h (Nat.lt_irrefl _)
  | _, _, .cons a s, h => by
    rw [List.map_cons, cge_cons (g a)] at h
    exact cge_less s (by omega)
  | _, _, .cons₂ a s, h => by
    rw [List.map_cons, List.map_cons] at h
    rw [cge_cons (f a), cge_cons (g a), cge_one, cge_one] at h
    by_cases c : g a < j ∧ j ≤ f a
    · exact ⟨a, List.mem_cons_self, c⟩
    · obtain ⟨x, hx, hh⟩ := cge_less (f := f) (g := g) s (j := j) (by split at h <;> split at h <;> omega)
      exact ⟨x, List.mem_cons_of_mem _ hx, hh⟩
/-- a table: each station's number by those of its neighbours; V, N: stations, neighbours -/
def Tab {α : Type} (V : α → Prop) (N : α → List α) (t : α → Int) : Prop := ∀ v, V v → IsCh ((N v).map t) (t v - 1)
/-- tables compared: b's stations are sent into a's, their neighbours (but for the order) among the neighbours there -/
theorem tab_le {α β : Type} {V : α → Prop} {V' : β → Prop} {N : α → List α} {N' : β → List β} {a : α → Int} {b : β → Int} (ha : Tab V N a) (hb : Tab V' N' b) (φ : β → α) (hV : ∀ v, V' v → V (φ v)) (hN' : ∀ v, V' v → ∀ u ∈ N' v, V' u)
    (hN : ∀ v, V' v → ∃ m : List α, m.Perm (N (φ v)) ∧ ((N' v).map φ).Sublist m) : ∀ v, V' v → b v ≤ a (φ v) := by
  have key : ∀ (n : Nat) v, V' v → (a (φ v)).toNat = n → b v ≤ a (φ v) := by
    intro n
    induction n using Nat.strongRecOn with
    | ind n ih =>
      intro v hv hn
      by_cases c : b v ≤ a (φ v)
      · exact c
      · have h1 := ha _ (hV v hv)
        have h2 := hb v hv
        have no : ¬ Has ((N (φ v)).map a) (a (φ v)) := fun z => by
          have := (h1.2 _).mpr z
          omega
        have yes : Has ((N' v).map b) (a (φ v)) := (h2.2 _).mp (by omega)
        obtain ⟨m, hm, hs⟩ := hN v hv
        have : ∃ j : Int, 1 ≤ j ∧ j ≤ a (φ v) ∧ (cge ((N (φ v)).map a) j : Int) < a (φ v) - j + 1 := Classical.byContradiction fun z => no fun j h1 h2 => Classical.byContradiction fun y => z ⟨j, h1, h2, by omega⟩
        obtain ⟨j, hj1, hj2, hlt⟩ := this
        have hy := yes j hj1 hj2
        have hm' : cge ((N (φ v)).map a) j = cge (m.map a) j := (cge_perm (hm.map a) j).symm
        -- as values: b on N' against a along φ
        have : ∃ u ∈ N' v, a (φ u) < j ∧ j ≤ b u := by
          have hlt' : cge (m.map a) j < cge ((N' v).map b) j := by omega
          have sub : cge (((N' v).map φ).map a) j ≤ cge (m.map a) j := by
            have := cge_mono (f := a) (g := a) hs (fun _ _ => Int.le_refl _) j
            exact this
          rw [List.map_map] at sub
          exact cge_less (f := b) (g := a ∘ φ) (List.Sublist.refl (N' v)) (by omega)
        obtain ⟨u, hu, hu1, hu2⟩ := this
        have hvu := hN' v hv u hu
        have := ih (a (φ u)).toNat (by omega) u hvu rfl
        omega
  exact fun v hv => key _ v hv rfl
end NX

namespace NX
open PySem PySem.Spec PyProof.Rows L2
open Evl (Ex ex_l ex_t fresh_back)
/-! ### lists of whole numbers -/
theorem dp_ints {K : PySem.W.Frag} {H : Hp} : ∀ ns : List Int, DpAll K H (ns.map V.int) (ns.map PyData.int)
  | [] => .nil
  | n :: ns => .cons (.int n) (dp_ints ns)
theorem lay_ints : ∀ ns : List Int, PyData.canLayAll0 (ns.map PyData.int) = true
  | [] => by rw [List.map_nil]; unfold PyData.canLayAll0; rfl
  | n :: ns => by
    rw [List.map_cons]
    unfold PyData.canLayAll0
    rw [lay_ints ns]
    simp only [PyData.canLay0, Bool.and_self]
theorem depth_ints : ∀ ns : List Int, PyData.depthAll (ns.map PyData.int) = 0
  | [] => by rw [List.map_nil]; unfold PyData.depthAll; rfl
  | n :: ns => by
    rw [List.map_cons]
    unfold PyData.depthAll
    rw [depth_ints ns]
    simp [PyData.depth]
theorem shaped_ints (ns : List Int) : SeqAt.shaped (.list (ns.map PyData.int)) = true := by
  unfold SeqAt.shaped
  rw [Bool.and_eq_true]
  refine ⟨?_, decide_eq_true ?_⟩
  · simp only [PyData.canLay0]
    exact lay_ints ns
  · simp only [PyData.depth]
    rw [depth_ints]
    omega
theorem shaped_intsT (ns : List Int) : SeqAt.shaped (.tuple (ns.map PyData.int)) = true := by
  unfold SeqAt.shaped
  rw [Bool.and_eq_true]
  refine ⟨?_, decide_eq_true ?_⟩
  · simp only [PyData.canLay0]
    exact lay_ints ns
  · simp only [PyData.depth]
    rw [depth_ints]
    omega
theorem eqvAll_ints : ∀ ns ms : List Int, PyData.eqvAll (ns.map PyData.int) (ms.map PyData.int) = decide (ns = ms)
  | [], [] => by simp [PyData.eqvAll]
  | [], q :: qs => by simp [PyData.eqvAll]
  | p :: ps, [] => by simp [PyData.eqvAll]
  | p :: ps, q :: qs => by
    rw [List.map_cons, List.map_cons, PyData.eqvAll, eqvAll_ints ps qs, Bool.eq_iff_iff]
    simp [PyData.eqv]
theorem eqv_ints (ns ms : List Int) : PyData.eqv (.list (ns.map PyData.int)) (.list (ms.map PyData.int)) = decide (ns = ms) := by
  rw [PyData.eqv]; exact eqvAll_ints ns ms
theorem eqv_intsT (ns ms : List Int) : PyData.eqv (.tuple (ns.map PyData.int)) (.tuple (ms.map PyData.int)) = decide (ns = ms) := by
  rw [PyData.eqv]; exact eqvAll_ints ns ms
section
variable {K : PySem.W.Frag} {G H : Hp} {L : List (Addr × HO)} {p q : Addr} {xs : List V} {v : V} {Q : VK} {ns ms : List Int}
theorem n_neIL (h1 : SqL K H p (ns.map V.int)) (h2 : SqL K H q (ms.map V.int)) (k : Q (.bl (!decide (ns = ms))) H) : rNeD K (.ref p) (.ref q) H Q :=
  ⟨_, _, .lst h1 (dp_ints ns), .lst h2 (dp_ints ms), shaped_ints ns, shaped_ints ms, by rw [eqv_ints]; exact k⟩
theorem n_eqIL (h1 : SqL K H p (ns.map V.int)) (h2 : SqL K H q (ms.map V.int)) (k : Q (.bl (decide (ns = ms))) H) : rEqD K (.ref p) (.ref q) H Q :=
  ⟨_, _, .lst h1 (dp_ints ns), .lst h2 (dp_ints ms), shaped_ints ns, shaped_ints ms, by rw [eqv_ints]; exact k⟩
theorem n_neIT (h1 : SqT K H p (ns.map V.int)) (h2 : SqT K H q (ms.map V.int)) (k : Q (.bl (!decide (ns = ms))) H) : rNeD K (.ref p) (.ref q) H Q :=
  ⟨_, _, .tup h1 (dp_ints ns), .tup h2 (dp_ints ms), shaped_intsT ns, shaped_intsT ms, by rw [eqv_intsT]; exact k⟩
theorem n_eqIT (h1 : SqT K H p (ns.map V.int)) (h2 : SqT K H q (ms.map V.int)) (k : Q (.bl (decide (ns = ms))) H) : rEqD K (.ref p) (.ref q) H Q :=
  ⟨_, _, .tup h1 (dp_ints ns), .tup h2 (dp_ints ms), shaped_intsT ns, shaped_intsT ms, by rw [eqv_intsT]; exact k⟩
/-- sorted(a list of numbers), read from now on -/
theorem n_sortI (S : Own G L H) (h : SqL K H p (ns.map V.int)) (k : ∀ (ms : List Int) q G1 H1, ms.Perm ns → ms.Pairwise (· ≤ ·) → H q = none → Ex G G1 → Ex H H1 → G1 q = some (.lst (ms.map V.int)) → Own G1 L H1 → Q (.ref q) H1) : rSortedI K [.ref p] H Q :=
  ⟨p, ns, rfl, h, fun ms q h1 h2 hq => k ms q _ _ h1 h2 hq (S.still hq).2.1 (Ex.new hq) (S.still hq).2.2 (S.still hq).1⟩
/-! ### results that are new -/
def Ret (o : HO) (H : Hp) (Q : VK) : Prop := ∀ p H', H p = none → Ex H H' → H' p = some o → Q (.ref p) H'
theorem n_retO {o : HO} (S : Own G L H) (ht : noTup o = true) (k : ∀ p H1, H p = none → Ex H H1 → Own G ((p, o) :: L) H1 → Q (.ref p) H1) : Ret o H Q :=
  fun p H' hp e h => k p H' hp e (S.new e hp h ht)
theorem n_retG {o : HO} (S : Own G L H) (k : ∀ p G1 H1, H p = none → Ex G G1 → Ex H H1 → G1 p = some o → Own G1 L H1 → Q (.ref p) H1) : Ret o H Q :=
  fun p H' hp e h => by
    obtain ⟨S1, e1, e2⟩ := S.absorb e
    exact k p _ H' hp e1 e (e2 _ _ ((nw_new hp).trans h)) S1
theorem Own.pure (S : Own G [] H) : Ex G H := S.ex
end
/-- what stood still may be changed from now on -/
theorem Own.thaw {G H : Hp} {L : List (Addr × HO)} {p : Addr} {o : HO} (S : Own G L H) (h : G p = some o) (ht : noTup o = true := by rfl) : Own (cut G [(p, o)]) ((p, o) :: L) H ∧ ∀ a u, a ≠ p → G a = some u → cut G [(p, o)] a = some u :=
  ⟨⟨fun a u e => by
      by_cases m : a ∈ ([(p, o)] : List (Addr × HO)).map Prod.fst
      · rw [cut_in m] at e; cases e
      · rw [cut_out m] at e; exact S.ex _ _ e, fun x hx => by
      rcases List.mem_cons.mp hx with rfl | hx
      · exact ⟨cut_in (by simp), S.ex _ _ h⟩
      · have z := S.at_ x hx
        refine ⟨?_, z.2⟩
        have ne : x.1 ≠ p := fun e => by rw [e, h] at z; cases z.1
        rw [cut_out (by simpa using ne)]
        exact z.1, by
      rw [List.map_cons, List.nodup_cons]
      refine ⟨fun m => ?_, S.nd⟩
      obtain ⟨x, hx, e⟩ := List.mem_map.mp m
      have z := (S.at_ x hx).1
      rw [e, h] at z
      exact (nomatch z), fun x hx => by
      rcases List.mem_cons.mp hx with rfl | hx
      · exact ht
      · exact S.nt x hx⟩, fun a u ne e => by rw [cut_out (by simpa using ne)]; exact e⟩
/-! ### one number of a list -/
def tv (t : List Int) (j : Int) : Int := t.getD j.toNat 0
theorem tv_nat (t : List Int) (i : Nat) : tv t (i : Int) = t.getD i 0 := by unfold tv; rw [Int.toNat_natCast]
theorem tv_get {t : List Int} {i : Nat} {x : Int} (h : t[i]? = some x) : tv t (i : Int) = x := by rw [tv_nat, List.getD_eq_getElem?_getD, h] <;> rfl
theorem get_tv {t : List Int} {i : Nat} (h : i < t.length) : t[i]? = some (tv t (i : Int)) := by
  rw [tv_nat, List.getD_eq_getElem?_getD, List.getElem?_eq_getElem h] <;> rfl
theorem at_tv {t : List Int} {j : Int} (h0 : 0 ≤ j) (h : j < (t.length : Int)) : atI (t.map V.int) j = some (.int (tv t j)) := by
  obtain ⟨i, rfl⟩ : ∃ i : Nat, j = (i : Int) := ⟨j.toNat, by omega⟩
  exact atI_nat (by rw [List.getElem?_map, get_tv (by omega)] <;> rfl)
theorem tv_app1 {t : List Int} {x : Int} {j : Int} (h : j < (t.length : Int)) (h0 : 0 ≤ j) : tv (t ++ [x]) j = tv t j := by
  unfold tv
  rw [List.getD_eq_getElem?_getD, List.getD_eq_getElem?_getD, List.getElem?_append_left (by omega)]
theorem tv_app2 {t : List Int} {x : Int} : tv (t ++ [x]) (t.length : Int) = x := tv_get (by simp)
theorem tv_ext {s t : List Int} (hl : s.length = t.length) (h : ∀ i : Nat, i < s.length → tv s (i : Int) = tv t (i : Int)) : s = t := by
  refine List.ext_getElem? fun i => ?_
  by_cases c : i < s.length
  · rw [get_tv c, get_tv (by omega), h i c]
  · rw [List.getElem?_eq_none (by omega), List.getElem?_eq_none (by omega)]
theorem tv_out {t : List Int} {j : Int} (h : (t.length : Int) ≤ j) : tv t j = 0 := by
  unfold tv
  rw [List.getD_eq_getElem?_getD, List.getElem?_eq_none (by omega)] <;> rfl
theorem tv_cons (x : Int) (t : List Int) (i : Nat) : tv (x :: t) ((i + 1 : Nat) : Int) = tv t (i : Int) := by
  rw [tv_nat, tv_nat] <;> rfl
theorem tv_zero (x : Int) (t : List Int) : tv (x :: t) 0 = x := rfl
theorem sum_le : ∀ {s t : List Int}, s.length = t.length → (∀ i : Nat, i < s.length → tv s (i : Int) ≤ tv t (i : Int)) → s.sum ≤ t.sum ∧ (s ≠ t → s.sum < t.sum)
  | [], [], _, _ => ⟨Int.le_refl _, fun h => absurd rfl h⟩
  | [], _ :: _, h, _ => absurd h (by simp)
  | _ :: _, [], h, _ => absurd h (by simp)
  | a :: s, b :: t, hl, h => by
    have ih := sum_le (s := s) (t := t) (by simpa using hl) fun i hi => by
      have := h (i + 1) (by simp; omega)
      rw [tv_cons, tv_cons] at this
      exact this
    have h0 := h 0 (by simp)
    have h0 : a ≤ b := h0
    rw [List.sum_cons, List.sum_cons]
    refine ⟨by omega, fun ne => ?_⟩
    by_cases c : s = t
    · have : a ≠ b := fun e => ne (by rw [e, c])
      have := ih.1
      omega
    · have := ih.2 c
      omega
theorem sum_nn : ∀ {s : List Int}, (∀ i : Nat, i < s.length → 0 ≤ tv s (i : Int)) → 0 ≤ s.sum
  | [], _ => Int.le_refl _
  | a :: s, h => by
    have ih := sum_nn (s := s) fun i hi => by
      have := h (i + 1) (by simp; omega)
      rw [tv_cons] at this
      exact this
    have h0 : 0 ≤ a := h 0 (by simp)
    rw [List.sum_cons]
    omega
theorem rep_flat (m : Nat) (x : V) : (List.replicate m [x]).flatten = List.replicate m x := by
  induction m with
  | zero => rfl
  | succ m ih => rw [List.replicate_succ, List.flatten_cons, ih, List.replicate_succ] <;> rfl
theorem tv_rep {m i : Nat} {x : Int} (h : i < m) : tv (List.replicate m x) (i : Int) = x := tv_get (by rw [List.getElem?_replicate, if_pos h])
/-- [x] * m -/
theorem n_rep {H G : Hp} {L : List (Addr × HO)} {p : Addr} {x : Int} {m : Int} {Q : VK} (S : Own G ((p, .lst [.int x]) :: L) H) (h0 : 0 ≤ m) (hz : m ≤ 100000) (k : ∀ q G1 H1, H q = none → Ex G G1 → Ex H H1 → G1 q = some (.lst ((List.replicate m.toNat x).map V.int)) → Own G1 L H1 → Q (.ref q) H1) : rRep (.ref p) (.int m) H Q :=
  ⟨p, m, _, rfl, rfl, S.get0, by omega, by omega, small (by simp; omega), fun q hq => by
    have T := S.forget.still (o := .lst (List.replicate m.toNat [V.int x]).flatten) hq
    refine k q _ _ hq T.2.1 (Ex.new hq) ?_ T.1
    rw [T.2.2, rep_flat, List.map_replicate]⟩
end NX

namespace NX
/-! ### renamed, without: what becomes of the links -/
def mmP (a b : Int) : Pr := (min a b, max a b)
def renL (ns : List Int) (ks : List Pr) : List Pr := ks.map fun q => mmP (tv ns q.1) (tv ns q.2)
/-- new numbers of n stations -/
def IsNames (n : Nat) (ns : List Int) : Prop := ns.length = n ∧ ns.Nodup ∧ ∀ x ∈ ns, 0 ≤ x ∧ x < (n : Int)
theorem tv_mem {t : List Int} {j : Int} (h0 : 0 ≤ j) (h : j < (t.length : Int)) : tv t j ∈ t := by
  obtain ⟨i, rfl⟩ : ∃ i : Nat, j = (i : Int) := ⟨j.toNat, by omega⟩
  exact List.mem_of_getElem? (get_tv (by omega))
theorem tv_inj {t : List Int} (h : t.Nodup) {i j : Int} (hi : 0 ≤ i ∧ i < (t.length : Int)) (hj : 0 ≤ j ∧ j < (t.length : Int)) (e : tv t i = tv t j) : i = j := by
  obtain ⟨a, rfl⟩ : ∃ a : Nat, i = (a : Int) := ⟨i.toNat, by omega⟩
  obtain ⟨b, rfl⟩ : ∃ b : Nat, j = (b : Int) := ⟨j.toNat, by omega⟩
  have ha := get_tv (t := t) (i := a) (by omega)
  have hb := get_tv (t := t) (i := b) (by omega)
  obtain ⟨la, ea⟩ := List.getElem?_eq_some_iff.mp ha
  obtain ⟨lb, eb⟩ := List.getElem?_eq_some_iff.mp hb
  have := (List.getElem_inj h).mp (ea.trans (e.trans eb.symm))
  omega
theorem IsNames.rng {n : Nat} {ns : List Int} (h : IsNames n ns) {j : Int} (h0 : 0 ≤ j) (hj : j < (n : Int)) : 0 ≤ tv ns j ∧ tv ns j < (n : Int) := h.2.2 _ (tv_mem h0 (by rw [h.1]; exact hj))
theorem IsNames.inj {n : Nat} {ns : List Int} (h : IsNames n ns) {i j : Int} (hi : 0 ≤ i ∧ i < (n : Int)) (hj : 0 ≤ j ∧ j < (n : Int)) (e : tv ns i = tv ns j) : i = j := tv_inj h.2.1 (by rw [h.1]; exact hi) (by rw [h.1]; exact hj) e
theorem ren_ok {n : Nat} {ns : List Int} {ks : List Pr} (h : IsNames n ns) (ok : Okl n ks) : Okl n (renL ns ks) := fun q hq => by
  obtain ⟨p, hp, rfl⟩ := List.mem_map.mp hq
  have hb := ok p hp
  have h1 := h.rng (j := p.1) hb.1 (by omega)
  have h2 := h.rng (j := p.2) (by omega) hb.2.2
  have ne : tv ns p.1 ≠ tv ns p.2 := fun e => by
    have := h.inj ⟨hb.1, by omega⟩ ⟨by omega, hb.2.2⟩ e
    omega
  unfold mmP
  simp only
  omega
theorem nd_map {α β : Type} {f : α → β} : ∀ {l : List α}, l.Nodup → (∀ x ∈ l, ∀ y ∈ l, f x = f y → x = y) → (l.map f).Nodup
  | [], _, _ => List.Pairwise.nil
  | a :: l, h, inj => by
    have h' := List.nodup_cons.mp h
    rw [List.map_cons, List.nodup_cons]
    refine ⟨fun m => ?_, nd_map h'.2 fun x hx y hy => inj x (List.mem_cons_of_mem _ hx) y (List.mem_cons_of_mem _ hy)⟩
    obtain ⟨b, hb, e⟩ := List.mem_map.mp m
    have := inj b (List.mem_cons_of_mem _ hb) a List.mem_cons_self e
    rw [this] at hb
    exact h'.1 hb
theorem nd_filter {α : Type} {p : α → Bool} {l : List α} (h : l.Nodup) : (l.filter p).Nodup := h.sublist List.filter_sublist
theorem mm_eq {a b c d : Int} (h : mmP a b = mmP c d) : (a = c ∧ b = d) ∨ (a = d ∧ b = c) := by
  unfold mmP at h
  have h1 := congrArg Prod.fst h
  have h2 := congrArg Prod.snd h
  simp only at h1 h2
  omega
theorem ren_nd {n : Nat} {ns : List Int} {ks : List Pr} (h : IsNames n ns) (ok : Okl n ks) (nd : ks.Nodup) : (renL ns ks).Nodup := nd_map nd fun x hx y hy e => by
  have bx := ok x hx
  have by_ := ok y hy
  rcases mm_eq e with ⟨e1, e2⟩ | ⟨e1, e2⟩
  · have a := h.inj ⟨bx.1, by omega⟩ ⟨by_.1, by omega⟩ e1
    have b := h.inj ⟨by omega, bx.2.2⟩ ⟨by omega, by_.2.2⟩ e2
    exact Prod.ext a b
  · have a := h.inj ⟨bx.1, by omega⟩ ⟨by omega, by_.2.2⟩ e1
    have b := h.inj ⟨by omega, bx.2.2⟩ ⟨by_.1, by omega⟩ e2
    omega
def shf (s x : Int) : Int := x - (if s < x then 1 else 0)
theorem shf_inj {s x y : Int} (hx : x ≠ s) (hy : y ≠ s) (e : shf s x = shf s y) : x = y := by
  unfold shf at e
  split at e <;> split at e <;> omega
def woF (s : Int) (ks : List Pr) : List Pr := ks.filter fun q => !decide (s = q.1 ∨ s = q.2)
def woL (s : Int) (ks : List Pr) : List Pr := (woF s ks).map fun q => (shf s q.1, shf s q.2)
theorem mem_woF {s : Int} {ks : List Pr} {q : Pr} : q ∈ woF s ks ↔ q ∈ ks ∧ q.1 ≠ s ∧ q.2 ≠ s := by
  unfold woF
  rw [List.mem_filter]
  simp only [Bool.not_eq_true', decide_eq_false_iff_not, not_or]
  exact ⟨fun h => ⟨h.1, fun e => h.2.1 e.symm, fun e => h.2.2 e.symm⟩, fun h => ⟨h.1, fun e => h.2.1 e.symm, fun e => h.2.2 e.symm⟩⟩
theorem wo_ok {n : Nat} {s : Int} {ks : List Pr} (hs : 0 ≤ s ∧ s < (n : Int)) (ok : Okl n ks) : Okl (n - 1) (woL s ks) := fun q hq => by
  obtain ⟨p, hp, rfl⟩ := List.mem_map.mp hq
  obtain ⟨hp, n1, n2⟩ := mem_woF.mp hp
  have hb := ok p hp
  simp only
  unfold shf
  split <;> split <;> omega
theorem wo_nd {s : Int} {ks : List Pr} (nd : ks.Nodup) : (woL s ks).Nodup := nd_map (nd_filter nd) fun x hx y hy e => by
  obtain ⟨_, a1, a2⟩ := mem_woF.mp hx
  obtain ⟨_, b1, b2⟩ := mem_woF.mp hy
  have h1 := congrArg Prod.fst e
  have h2 := congrArg Prod.snd e
  exact Prod.ext (shf_inj a1 b1 h1) (shf_inj a2 b2 h2)
theorem wo_len {s : Int} {ks : List Pr} : (woL s ks).length ≤ ks.length := by
  unfold woL woF
  rw [List.length_map]
  exact List.length_filter_le ..
theorem ren_len {ns : List Int} {ks : List Pr} : (renL ns ks).length = ks.length := List.length_map ..
end NX

namespace NX
open PySem PySem.Spec PySem.Calls PyProof.Rows L2
open Evl (Ex ex_l ex_t fresh_back)
/-! ### min and max of a tuple of numbers -/
section
variable {prog : Program} {w : World} {A : Around} {E : Value → Shared → Prop} {s : Shared} {l : Addr} {its : List Value} {ns : List Int} {Q : Value → Shared → Prop}
theorem best_of {f : Nat → Nat → Bool} (ht : s.heap.IsTuple l its.toArray) {c : Addr} {h' : Heap}
    (hk : ∀ b o, b ∉ [s.heap.objs.size] → (s.heap.push { cls := .type "tuple_iterator", data := .fields #[.ref l, .int 0 0] }).get? b = some o → h'.get? b = some o) : ∀ b o, s.heap.get? b = some o → h'.get? b = some o := fun b o e =>
  hk b o (fun m => Nat.lt_irrefl _ ((List.mem_singleton.mp m) ▸ Heap.lt_size e)) (Heap.get?_push_of_some _ e)
theorem fp_ok (ht : s.heap.IsTuple l its.toArray) : ∀ b ∈ [s.heap.objs.size, l], b < (s.heap.push { cls := .type "tuple_iterator", data := .fields #[.ref l, .int 0 0] }).objs.size := fun b hb => by
  have hl : l < s.heap.objs.size := by obtain ⟨_, e, _⟩ := ht; exact Heap.lt_size e
  rw [Heap.size_push]
  simp only [List.mem_cons, List.not_mem_nil, or_false] at hb
  rcases hb with rfl | rfl
  · exact Nat.lt_succ_self _
  · exact Nat.lt_succ_of_lt hl
theorem minT_raw (hh : A.handled = none) (ht : s.heap.IsTuple l its.toArray) (hi : IntsAre its ns) (hne : 0 < ns.length)
    (h : ∀ h' tk M t', (∀ b o, s.heap.get? b = some o → h'.get? b = some o) → M ∈ ns → (∀ a, a ∈ ns → M ≤ a) → Q (.int M t') { s with heap := h', toks := tk }) : wpAny (model prog w) A (call (.builtin "min") [.ref l]) Q E s := by
  have hl : l ≠ s.heap.objs.size := by obtain ⟨_, e, _⟩ := ht; exact Nat.ne_of_lt (Heap.lt_size e)
  have fp := fp_ok ht
  have ht0 := ht
  obtain ⟨xs, e⟩ := (hi.allInts).items
  have hn : numsOf (intItems xs).toList = ns := e ▸ hi.numsOf
  rw [nums_intItems] at hn
  rw [e] at ht
  subst hn
  have hsz : 0 < (intItems xs).size := by unfold intItems; simpa using hne
  refine call_min_walk (wpAny_pyIter_tuple ht ⟨_, _, _, _, _, _, _, rfl, Walks.tuple (A := A.in1) hh _ l hl (intItems xs), ⟨⟨_, Heap.get?_push_size _ rfl, rfl, rfl⟩, ht.push _⟩, fp, hsz, CmpOf.ints_lt (numAt xs) (fun _ _ => intItems_at), fun v h' tk hP hk => ?_⟩)
  obtain ⟨t, rfl⟩ := intItems_at hP
  have hsz2 : (intItems xs).size = xs.size := by unfold intItems; simp
  rw [hsz2] at hsz ⊢
  have hb := argBest_lt (numAt xs) (xs.size - 1)
  refine h h' tk _ t (best_of (f := fun _ _ => true) (c := l) ht0 hk) ?_ fun a ha => ?_
  · rw [numAt_eq]
    refine PySem.getD_mem ?_
    rw [List.length_map, Array.length_toList]
    have := hb.1
    omega
  · obtain ⟨j, hj, rfl⟩ := mem_getD ha
    have hj2 : j < xs.size := by simpa using hj
    have := hb.2 j (by omega)
    rw [← numAt_eq]
    exact this
theorem maxT_raw (hh : A.handled = none) (ht : s.heap.IsTuple l its.toArray) (hi : IntsAre its ns) (hne : 0 < ns.length)
    (h : ∀ h' tk M t', (∀ b o, s.heap.get? b = some o → h'.get? b = some o) → M ∈ ns → (∀ a, a ∈ ns → a ≤ M) → Q (.int M t') { s with heap := h', toks := tk }) : wpAny (model prog w) A (call (.builtin "max") [.ref l]) Q E s := by
  have hl : l ≠ s.heap.objs.size := by obtain ⟨_, e, _⟩ := ht; exact Nat.ne_of_lt (Heap.lt_size e)
  have fp := fp_ok ht
  have ht0 := ht
  obtain ⟨xs, e⟩ := (hi.allInts).items
  have hn : numsOf (intItems xs).toList = ns := e ▸ hi.numsOf
  rw [nums_intItems] at hn
  rw [e] at ht
  subst hn
  have hsz : 0 < (intItems xs).size := by unfold intItems; simpa using hne
  refine call_max_walk (wpAny_pyIter_tuple ht ⟨_, _, _, _, _, _, _, rfl, Walks.tuple (A := A.in1) hh _ l hl (intItems xs), ⟨⟨_, Heap.get?_push_size _ rfl, rfl, rfl⟩, ht.push _⟩, fp, hsz, CmpOf.ints_gt (numAt xs) (fun _ _ => intItems_at), fun v h' tk hP hk => ?_⟩)
  obtain ⟨t, rfl⟩ := intItems_at hP
  have hsz2 : (intItems xs).size = xs.size := by unfold intItems; simp
  rw [hsz2] at hsz ⊢
  have hb := argBest_gt (numAt xs) (xs.size - 1)
  refine h h' tk _ t (best_of (f := fun _ _ => true) (c := l) ht0 hk) ?_ fun a ha => ?_
  · rw [numAt_eq]
    refine PySem.getD_mem ?_
    rw [List.length_map, Array.length_toList]
    have := hb.1
    omega
  · obtain ⟨j, hj, rfl⟩ := mem_getD ha
    have hj2 : j < xs.size := by simpa using hj
    have := hb.2 j (by omega)
    rw [← numAt_eq]
    exact this
end
def rMinT (K : PySem.W.Frag) : List V → Hp → VK → Prop := fun vs H Q => ∃ (a : Addr) (ns : List Int), vs = [V.ref a] ∧ SqT K H a (ns.map V.int) ∧ 0 < ns.length ∧ ∀ m, m ∈ ns → (∀ y, y ∈ ns → m ≤ y) → Q (.int m) H
def rMaxT (K : PySem.W.Frag) : List V → Hp → VK → Prop := fun vs H Q => ∃ (a : Addr) (ns : List Int), vs = [V.ref a] ∧ SqT K H a (ns.map V.int) ∧ 0 < ns.length ∧ ∀ m, m ∈ ns → (∀ y, y ∈ ns → y ≤ m) → Q (.int m) H
section
variable {X : Cx} {K : PySem.W.Frag}
theorem cr_minT (hc : X.calm = true) (e : X.K = K := by rfl) : CallR X (.builtin "min") (rMinT K) := by
  subst e
  intro pins s σ H vs us Q I r h
  obtain ⟨a, ns, rfl, hs, hne, q⟩ := h
  obtain ⟨its, rv, ht, _⟩ := I.tuple hs
  rw [Vals.ref1 r]
  exact minT_raw (I.ok.hd hc) ht rv.ints hne fun h' tk m t' hk h1 h2 => ⟨.int _, H, I.kept hk, ⟨_, rfl⟩, q m h1 h2⟩
theorem cr_maxT (hc : X.calm = true) (e : X.K = K := by rfl) : CallR X (.builtin "max") (rMaxT K) := by
  subst e
  intro pins s σ H vs us Q I r h
  obtain ⟨a, ns, rfl, hs, hne, q⟩ := h
  obtain ⟨its, rv, ht, _⟩ := I.tuple hs
  rw [Vals.ref1 r]
  exact maxT_raw (I.ok.hd hc) ht rv.ints hne fun h' tk m t' hk h1 h2 => ⟨.int _, H, I.kept hk, ⟨_, rfl⟩, q m h1 h2⟩
end
theorem n_minT2 {K : PySem.W.Frag} {H : Hp} {t : Addr} {a b : Int} {Q : VK} (h : H t = some (.tup [.int a, .int b])) (k : Q (.int (min a b)) H) : rMinT K [.ref t] H Q :=
  ⟨t, [a, b], rfl, SqT.of h, Nat.succ_pos _, fun m hm hy => by
    have h1 := hy a (by simp)
    have h2 := hy b (by simp)
    simp only [List.mem_cons, List.not_mem_nil, or_false] at hm
    have e : m = min a b := by omega
    rw [e]
    exact k⟩
theorem n_maxT2 {K : PySem.W.Frag} {H : Hp} {t : Addr} {a b : Int} {Q : VK} (h : H t = some (.tup [.int a, .int b])) (k : Q (.int (max a b)) H) : rMaxT K [.ref t] H Q :=
  ⟨t, [a, b], rfl, SqT.of h, Nat.succ_pos _, fun m hm hy => by
    have h1 := hy a (by simp)
    have h2 := hy b (by simp)
    simp only [List.mem_cons, List.not_mem_nil, or_false] at hm
    have e : m = max a b := by omega
    rw [e]
    exact k⟩
/-! ### set(a list of numbers) -/
/-- an empty set -/
def eSet (w : World) : Obj := { cls := .type "set", dict := none, data := .set #[] 0 (.fresh 0 0 (!w.params.followText "set-order")) }
def lIt (l : Addr) : Obj := { cls := .type "list_iterator", data := .fields #[.ref l, .int 0 0] }
section
variable {P : Program} {w : World} {A : Around} {E : Value → Shared → Prop} {s : Shared}
theorem setL_init {l : Addr} {items : Array Value} (ns : List Int) (hh : A.handled = none) (hl : s.heap.IsList l items) (hit : IntsAre items.toList ns) (hb : ns.length + 1 < scanBound) {R : Value → Shared → Prop}
    (h : ∀ (h' : Heap) (tk c : Nat), SetR w h' s.heap.objs.size (fun j => decide (j ∈ ns)) c → c ≤ ns.length → (∀ b o, s.heap.get? b = some o → h'.get? b = some o) → R .none { s with heap := h', toks := tk }) :
    wpAny (model P w) A (Builtin.«set.__init__» ⟨[.ref s.heap.objs.size, .ref l], []⟩) (fun r s' => ∃ v, r = .done (.ret v) ∧ R v s') E { s with heap := s.heap.push (eSet w) } := by
  have hisz : items.size = ns.length := by
    rw [← Array.length_toList]
    exact IntsAre.length hit
  have hlS : l < s.heap.objs.size := by obtain ⟨_, e, _⟩ := hl; exact Heap.lt_size e
  have hS : (s.heap.push (eSet w)).get? s.heap.objs.size = some (eSet w) := Heap.get?_push_size _ rfl
  have hl1 : (s.heap.push (eSet w)).IsList l items := hl.push _
  have hz1 : (s.heap.push (eSet w)).objs.size = s.heap.objs.size + 1 := Heap.size_push ..
  obtain ⟨ol, hol, hcl, nl, hdl⟩ := hl1
  obtain ⟨oc, od, odt, osl⟩ := ol
  simp only at hcl hdl
  subst hcl; subst hdl
  have hl1 : (s.heap.push (eSet w)).IsList l items := hl.push _
  have q1 := F.sub_list_set
  have q2 := F.sub_list_frozenset
  have q3 : (Value.type "list" == Value.type "dict") = false := by decide
  have hS' := hS
  unfold eSet at hS' hol
  have hh3 : A.in1.handled = none := hh
  unfold Builtin.«set.__init__»; unfold noKeywords Builtin.Frozenset.updateFrom
  generalize hPI : pyIter = PI
  unfold eSet
  wp_walk
  subst hPI
  have hneI : l ≠ (s.heap.push (eSet w)).objs.size := by
    rw [hz1]
    exact Nat.ne_of_lt (Nat.lt_succ_of_lt hlS)
  have hSf : s.heap.objs.size ∉ [(s.heap.push (eSet w)).objs.size, l] := fun m => by
    rw [hz1] at m
    simp only [List.mem_cons, List.not_mem_nil, or_false] at m
    rcases m with m | m
    · exact absurd m (by omega)
    · exact absurd m (Nat.ne_of_gt hlS)
  have hval : ∀ (i : Nat) (v : Value), items[i]? = some v → ∃ k t, ns[i]? = some k ∧ v = .int k t := fun i v hv => by
    obtain ⟨lt, _⟩ := Array.getElem?_eq_some_iff.mp hv
    rw [hisz] at lt
    obtain ⟨t, e⟩ := IntsAre.int_at hit i v ((Array.getElem?_toList ..).trans hv)
    have z : ns[i]? = some (ns.getD i 0) := by rw [List.getD_eq_getElem?_getD, List.getElem?_eq_getElem lt] <;> rfl
    exact ⟨_, t, z, e⟩
  have hp2 : ((s.heap.push (eSet w)).push (lIt l)).get? s.heap.objs.size = some (eSet w) := Heap.get?_push_of_some _ hS
  refine wpAny_pyIter_list hl1 (wpAny_bind (wpAny_runValue (set_update_ints ((Walks.list (A := A.in1) hh _ l hneI items).toS) s.heap.objs.size hSf ns hisz hb hval (items.size - 0) 0 _ rfl (Nat.zero_le _) ⟨⟨_, Heap.get?_push_size _ rfl, rfl, rfl⟩, hl1.push _⟩
    ⟨0, Nat.le_refl 0, setR_new_at hp2⟩ fun s' c hm hc hR => ?_)))
  obtain ⟨h1, g1, d1, k1, o1⟩ := s'
  have z1 : g1 = s.gens := hm.gens
  have z2 : d1 = s.drawn := hm.drawn
  have z3 : o1 = s.os := hm.os
  subst z1; subst z2; subst z3
  refine wpAny_pure (wpAny_pure ⟨_, rfl, h h1 k1 c hR (by rw [← hisz]; exact hc) fun b o e => ?_⟩)
  have lt := Heap.lt_size e
  have kk := hm.heap b o
  refine kk (fun m => ?_) (Heap.get?_push_of_some _ (Heap.get?_push_of_some _ e))
  simp only [List.mem_cons, List.not_mem_nil, or_false] at m
  rcases m with m | m
  · exact absurd m (Nat.ne_of_lt lt)
  · rw [hz1] at m
    exact absurd m (Nat.ne_of_lt (Nat.lt_succ_of_lt lt))
/-- set(a list of numbers) -/
theorem setL_call {l : Addr} {items : Array Value} (ns : List Int) {Q : Value → Shared → Prop} (hh : A.handled = none) (hl : s.heap.IsList l items) (hit : IntsAre items.toList ns) (hb : ns.length + 1 < scanBound)
    (h : ∀ (h' : Heap) (tk c : Nat), SetR w h' s.heap.objs.size (fun j => decide (j ∈ ns)) c → c ≤ ns.length → (∀ b o, s.heap.get? b = some o → h'.get? b = some o) → Q (.ref s.heap.objs.size) { s with heap := h', toks := tk }) :
    wpAny (model P w) A (call (.type "set") [.ref l]) Q E s := by
  have k1 := F.called_set.mro
  have k2 := F.called_set.made
  have k3 := F.called_set.sub
  have k4 := F.called_set.notType
  have k5 := F.called_set.canCreate
  have k6 := F.typeCall_set_1 (.ref l)
  have k7 := F.called_set.init.lookup
  have k8 := F.called_set.init.bind (.ref s.heap.objs.size)
  obtain ⟨c0, tl, k1⟩ := k1
  refine wpAny_call (codeAny_of_tree ?_); show wpAny _ _ (callAny (.type "set") _) _ _ _; refine wpAny_pure ⟨Code.quiet_builtin _ (by decide +kernel), codeAny_builtin F.entry_type_call ?_⟩; rw [Around.under_plain (weight_type_call_type "set" [.ref l] []) rfl]
  repeat any_goals (first | assumption | wp_step)
  refine codeAny_mono (code_set_led1 (.ref l) (E := E) (Q₁ := fun obj s₁ => obj = .ref s.heap.objs.size ∧ s₁ = { s with heap := s.heap.push (eSet w) }) ⟨rfl, rfl⟩) fun r s₁ hr => ?_
  have hT : Shared.TypeIs { s with heap := s.heap.push (eSet w) } (.ref s.heap.objs.size) "set" := ⟨_, Heap.get?_push_size _ rfl, rfl⟩
  match r, hr with
  | .error e, hr => exact hr
  | .ok .next, hr => exact hr.elim
  | .ok .brk, hr => exact hr.elim
  | .ok .cont, hr => exact hr.elim
  | .ok (.ret obj), hr =>
    obtain ⟨rfl, rfl⟩ := hr
    repeat any_goals (first | assumption | wp_step)
    refine codeAny_mono (codeAny_call_builtin (R := wants (fun r s₂ => r = .none ∧ ∃ h' tk c, s₂ = { s with heap := h', toks := tk } ∧ SetR w h' s.heap.objs.size (fun j => decide (j ∈ ns)) c ∧ c ≤ ns.length ∧ (∀ b o, s.heap.get? b = some o → h'.get? b = some o)) E)
      F.called_set.init.plain F.entry_set_init (check_set_init_1 hT (wpAny_mono (setL_init (R := fun r s₂ => r = .none ∧ ∃ h' tk c, s₂ = { s with heap := h', toks := tk } ∧ SetR w h' s.heap.objs.size (fun j => decide (j ∈ ns)) c ∧ c ≤ ns.length ∧ (∀ b o, s.heap.get? b = some o → h'.get? b = some o)) ns (A := _) (by exact hh) hl hit hb fun h' tk c R1 hc hk => ⟨rfl, h', tk, c, rfl, R1, hc, hk⟩) (fun fin s' hf => ?_) fun _ _ z => z))) fun r₂ s₂ h2 => ?_
    · obtain ⟨v, rfl, hv⟩ := hf
      exact hv
    · match r₂, h2 with
      | .error e, h2 => exact h2
      | .ok .next, h2 => exact h2.elim
      | .ok .brk, h2 => exact h2.elim
      | .ok .cont, h2 => exact h2.elim
      | .ok (.ret v), h2 =>
        obtain ⟨rfl, h', tk, c, rfl, R1, hc, hk⟩ := h2
        repeat any_goals (first | assumption | wp_step)
        exact h _ _ _ R1 hc hk
end
def rSetOf (K : PySem.W.Frag) (w : World) : List V → Hp → VK → Prop := fun vs H Q => ∃ (a : Addr) (ns : List Int), vs = [V.ref a] ∧ SqL K H a (ns.map V.int) ∧ ns.length + 1 < scanBound ∧ ∀ p c, H p = none → c ≤ ns.length → Q (.ref p) (upd H p (SetO w p (fun j => decide (j ∈ ns)) c))
theorem cr_setL {X : Cx} {K : PySem.W.Frag} (hc : X.calm = true) (e : X.K = K := by rfl) : CallR X (.type "set") (rSetOf K X.w) := by
  subst e
  intro pins s σ H vs us Q I r h
  obtain ⟨a, ns, rfl, hs, hb, q⟩ := h
  obtain ⟨its, rv, hl, _⟩ := I.list hs
  rw [Vals.ref1 r]
  refine setL_call ns (I.ok.hd hc) hl.isList (by simpa using rv.ints) hb fun h' tk c R1 hc' hk => ?_
  have lt := R1.lt
  exact ⟨.ref _, _, I.laid (t' := tk) hk (Nat.le_refl _) (setO_new R1), rfl, q _ c (I.hok.fresh (Nat.le_refl _)) hc'⟩
/-- sorted(set(a list)) -/
theorem n_setL {K : PySem.W.Frag} {w : World} {G H : Hp} {L : List (Addr × HO)} {p : Addr} {ns : List Int} {Q : VK} (S : Own G L H) (h : SqL K H p (ns.map V.int)) (hb : ns.length < 60)
    (k : ∀ q c H1, H q = none → c ≤ ns.length → Own G ((q, SetO w q (fun j => decide (j ∈ ns)) c) :: L) H1 → Q (.ref q) H1) : rSetOf K w [.ref p] H Q :=
  ⟨p, ns, rfl, h, by unfold scanBound; omega, fun q c hq hc => k q c _ hq hc (S.lay hq)⟩
theorem n_sortSet {w : World} {G H : Hp} {L : List (Addr × HO)} {p : Addr} {ns : List Int} {c : Nat} {Q : VK} (S : Own G ((p, SetO w p (fun j => decide (j ∈ ns)) c) :: L) H) (hb : c < 64)
    (k : ∀ (ms : List Int) q G1 H1, ms.Pairwise (· < ·) → (∀ x, x ∈ ms ↔ x ∈ ns) → H q = none → Ex G G1 → Ex H H1 → G1 q = some (.lst (ms.map V.int)) → Own G1 L H1 → Q (.ref q) H1) : rSortedSet w [.ref p] H Q :=
  ⟨p, _, c, rfl, S.get0, hb, fun ms q h1 h2 h3 hq => by
    have T := S.forget.still (o := .lst (ms.map V.int)) hq
    exact k ms q _ _ h1 (fun x => by rw [h2, decide_eq_true_eq]) hq T.2.1 (Ex.new hq) T.2.2 T.1⟩
end NX

namespace NX
open PySem PySem.Spec PyProof.Rows L2
open Evl (Ex ex_l ex_t fresh_back)
/-! ### exceptions of own classes with one field -/
/-- the base class's name, at C0: its __init__ is ValueError's -/
structure BaseC (K : PySem.W.Frag) (C0 : Addr) : Prop where
  rd : PySem.W.readsIn K C0 (.type "type") = true
  ga : PySem.W.specialIn K (.ref C0) "__getattribute__" = some (some (.builtin "type.__getattribute__"))
  vV : PySem.W.findCls K (.ref C0) (.type "type") "__init__" = some (.val (.builtin "ValueError.__init__"))
section
variable {X : Cx} {e : Expr} {es : List Expr} {ta : TA} {p1 p2 pos : Pos} {x : Str} {C0 : Addr}
theorem pe_oeinit {K : PySem.W.Frag} {pl : Sem Bool} (hm : X.mg x = some (.ref C0)) (B : BaseC X.K C0) (ha : PA X (e :: es) ta) (hK : X.K = K := by rfl) (hg : Gl X x := by rfl) (hdb : (x == ("__debug__" : Str)) = false := by decide)
    (hc : eval (.Call (.Attribute (.Name x p1) "__init__" p2) (e :: es) [] pos) X.env = (do
      let ov ← eval (.Name x p1) X.env
      standAt p2.atName
      let (f, first) ← holding [ov] (getMethod ov "__init__" pl)
      callWith pos f first (backTo pos (starEach (e :: es) X.env)) (backToKw pos (keywordEach [] X.env))) := by rfl)
    (he : starEach (e :: es) X.env = (false, eval e X.env) :: starEach es X.env := by rfl) (hpl : (backTo pos (starEach es X.env)).any (·.1) = false := by rfl) :
    PE X (.Call (.Attribute (.Name x p1) "__init__" p2) (e :: es) [] pos) (tVeI K ta) := by
  subst hK
  refine ⟨fun pins s σ H Q I h => ?_⟩
  refine PySem.W.methodCall_KW (ld_glob I hg hm ?_ hdb) hc
  refine PySem.W.method_cls I.kIn B.ga (PySem.W.cls_value I.kIn B.rd B.vV (by decide +kernel) ?_)
  refine PyProof.Rows.callWith_method1 (thn (ha.run pos pins _ σ H _ (I.tok _) h) fun us s1 ⟨vs, H1, I1, r1, a, C, ws, ev, hl, T, ea, q⟩ => ?_) he hpl
  subst ev
  cases r1 with
  | @cons _ u1 _ ur ra rw1 =>
    obtain rfl : u1 = Value.ref a := ra
    have hlen := Paired.length rw1
    exact oinit_ok T I1 ea (by rw [sizeLine_eq]; omega) fun s' J => ⟨.non, H1, J, rfl, q⟩
end
def spExInit (K : PySem.W.Frag) (C : Addr) (f : Str) : Sp := fun vs H Q _ => ∃ (a : Addr) (v : V), vs = [.ref a, v] ∧ H a = some (exo a C none) ∧ OexC K C ∧ ∀ dx, H dx = none → dx ≠ a → Q .non (upd (upd H dx (exd dx [(f, v)])) a (exo a C (some dx)))
/-- the class x at C: raised with one value, kept as the field f -/
def Exn (P : Program) (w : World) (K : PySem.W.Frag) (mg : Str → Option Value) (base : Heap) (x : Str) (C : Addr) (f : Str) : Prop :=
  ∃ (fI : Addr) (fd : FuncData), mg x = some (.ref C) ∧ OexC K C ∧ PySem.W.findIn K (.ref C) "__init__" = some (some (.ref fI)) ∧ PySem.W.typeIn K (.ref fI) = some (.type "function") ∧ FnOk P w K mg base (L2.CX P w) 1 fI fd ["self", f] (spExInit K C f) ∧ Binds K fd ["self", f] []
def RAISE (K : PySem.W.Frag) (C : Addr) (f : Str) (W : WX) (σ : L2.St) (vs : List V) (H1 : Hp) : Prop := vs.length ≤ 1000 ∧ ∀ a, H1 a = none → spExInit K C f (.ref a :: (vs ++ [])) (upd H1 a (exo a C none))
  (fun v H2 => v = .non ∧ ∃ (d : Addr) (fs : List (Str × V)), H2 a = some (exo a C (some d)) ∧ H2 d = some (exd d fs) ∧ H1 d = none ∧ W (.ref C) (some d) σ (upd (del H2 a) d (.xd fs))) (fun _ _ _ => False)
def tRaiseE (K : PySem.W.Frag) (C : Addr) (f : Str) (W : WX) (ta : TA) : TS := fun _ σ H => ta σ H fun vs H1 => RAISE K C f W σ vs H1
theorem s_raiseE {K : PySem.W.Frag} {C : Addr} {f : Str} {W : WX} {ta : TA} {D : Ends} {σ : L2.St} {H : Hp} (k : ta σ H fun vs H1 => RAISE K C f W σ vs H1) : tRaiseE K C f W ta D σ H := k
theorem n_raise {K : PySem.W.Frag} {C : Addr} {f : Str} {W : WX} {σ : L2.St} {v : V} {H1 : Hp} (T : OexC K C) (k : ∀ d H2, H1 d = none → Ex H1 H2 → H2 d = some (.xd [(f, v)]) → W (.ref C) (some d) σ H2) : RAISE K C f W σ [v] H1 :=
  ⟨by simp, fun a ha => ⟨a, v, rfl, upd_same, T, fun dx hdx ne => by
    have hd1 : H1 dx = none := by rw [upd_ne ne] at hdx; exact hdx
    refine ⟨rfl, dx, [(f, v)], upd_same, ?_, hd1, ?_⟩
    · rw [upd_ne ne, upd_same]
    · have z : upd (del (upd (upd (upd H1 a (exo a C none)) dx (exd dx [(f, v)])) a (exo a C (some dx))) a) dx (.xd [(f, v)]) = upd H1 dx (.xd [(f, v)]) := by
        funext b
        by_cases h1 : b = dx
        · rw [h1, upd_same, upd_same]
        · rw [upd_ne h1, upd_ne h1]
          by_cases h2 : b = a
          · rw [h2, del_same, ha]
          · rw [del_ne h2, upd_ne h2, upd_ne h1, upd_ne h2]
      rw [z]
      exact k dx _ hd1 (Ex.new hd1) upd_same⟩⟩
theorem ps_raiseE {X : Cx} {K : PySem.W.Frag} {W : WX} {x : Str} {C : Addr} {f : Str} {e : Expr} {ta : TA} {p pos pos2 : Pos} (hc : X.calm = true) (tk : Takes X W) (N : Exn X.prog X.w X.K X.mg X.base x C f) (hr : Room 2 X.A) (ha : PA X [e] ta) (hK : X.K = K := by rfl) (hg : Gl X x := by rfl)
    (hdb : (x == ("__debug__" : Str)) = false := by decide) (hst : starEach [e] X.env = (false, eval e X.env) :: starEach [] X.env := by rfl) (hpl : (backTo pos (starEach [] X.env)).any (·.1) = false := by rfl) :
    PS X (.Raise (some (.Call (.Name x p) [e] [] pos)) none pos2) (tRaiseE K C f W ta) := by
  subst hK
  obtain ⟨fI, fd, hm, T, iC, tI, F, hb⟩ := N
  exact ps_raise (pos := pos2) hc tk (pmk_oex (pos := pos) (p := p) T iC tI F hr hb .nil (fun _ _ _ _ _ _ _ h => by
    obtain ⟨_, _, _, _, _, _, _, _, _, _, _, _, z⟩ := h
    exact z.elim) hg hm ha hdb hst hpl)
theorem Exn.oex {P : Program} {w : World} {K : PySem.W.Frag} {mg : Str → Option Value} {base : Heap} {x : Str} {C : Addr} {f : Str} (N : Exn P w K mg base x C f) : OexC K C := let ⟨_, _, _, T, _⟩ := N; T
/-! ### the body of an __init__ -/
def tVeI' (K : PySem.W.Frag) (ta : TA) : TE := tVeI K ta
theorem n_vei {K : PySem.W.Frag} {σ : L2.St} {H : Hp} {ta : TA} {Q : VK} (k : ta σ H fun vs H1 => ∃ (a C : Addr) (ws : List V), vs = .ref a :: ws ∧ ws.length ≤ 1000 ∧ OexC K C ∧ H1 a = some (exo a C none) ∧ Q .non H1) : tVeI K ta σ H Q := k
/-! ### calls that may raise, in a try -/
theorem pe_calS {X : Cx} {k : Nat} {ps : List Str} {sp : Sp} {E : L2.St → XK} {x : Str} {p pos : Pos} {e : Expr} {es : List Expr} {t : TA} (C : Cal X.prog X.w X.K X.mg X.base k x ps [] sp) (hr : Room k X.A) (hx : ∀ σ, PassesAt (L2.CX X.prog X.w) X σ (E σ)) (ha : PA X (e :: es) t) (hg : Gl X x := by rfl) (hdb : (x == ("__debug__" : Str)) = false := by decide)
    (he : starEach (e :: es) X.env = (false, eval e X.env) :: starEach es X.env := by rfl) (hpl : (backTo pos (starEach es X.env)).any (·.1) = false := by rfl) : PE X (.Call (.Name x p) (e :: es) [] pos) (tCallS sp E t) := by
  obtain ⟨f, fd, ds, F, hm, hk, hb, hd⟩ := C
  cases hd
  exact pe_callS F hr hg hm hk hb hx ha hdb he hpl
theorem g_calS {sp : Sp} {E : L2.St → XK} {tr : TA} {σ : L2.St} {H : Hp} {Q : VK} (k : tr σ H fun vs H1 => sp vs H1 Q (E σ)) : tCallS sp E tr σ H Q := k
/-- the way out of a def: E -/
theorem passE {X : Cx} {W : WX} {E : XK} (tk : Takes X W) (hW : ∀ cls d σ H, E cls d H → W cls d σ H) : Passes (L2.CX X.prog X.w) X E := passes_call tk hW
/-! ### what except clauses ask -/
theorem n_as {K : PySem.W.Frag} {c : Value} {i : Nat} {ts : Addr → Value → Option Addr → TS} {Wout : WX} {D : Ends} {cls : Value} {d : Option Addr} {σ : L2.St} {H : Hp} (he : PySem.W.exmOne K cls c = some true)
    (k : ∀ a, H a = none → ts a cls d { nx := fun σ' H' => D.nx (σ'.set i none) H', rt := D.rt, bk := fun σ' H' => D.bk (σ'.set i none) H', ct := fun σ' H' => D.ct (σ'.set i none) H' } (σ.set i (some (.ref a))) H) : wAs K c i ts Wout D cls d σ H :=
  ⟨true, he, fun _ => k, fun z => by cases z⟩
theorem pe_xfK {X : Cx} {K : PySem.W.Frag} {a C : Addr} {oe : Obj} {cls : Value} {d : Option Addr} {pn : List (Addr × Obj)} {e : Expr} {te : TE} {pos : Pos} {n : Str} (T : XfC X.K C) (hno : PySem.W.findIn X.K (.ref C) n = some none)
    (hz : Zc cls d oe) (hf : ∃ vs, oe.data = .fields vs) (he : PE (X.suite a ((a, oe) :: pn)) e te) (hb : attributeBase e n X.env (eval e X.env) = eval e X.env := by rfl) :
    PE (X.suite a ((a, oe) :: pn)) (.Attribute e n pos) (tXf a cls d C n te) := pe_xf T hno hz hf he hb
def XFLD (a : Addr) (cls : Value) (d : Option Addr) (C : Addr) (f : Str) (Q : VK) (x : V) (H1 : Hp) : Prop := x = .ref a ∧ cls = .ref C ∧ ∃ (dd : Addr) (fs : List (Str × V)) (v : V), d = some dd ∧ H1 dd = some (.xd fs) ∧ fs.lookup f = some v ∧ Q v H1
theorem g_xf {a : Addr} {cls : Value} {d : Option Addr} {C : Addr} {f : Str} {te : TE} {σ : L2.St} {H : Hp} {Q : VK} (k : te σ H (XFLD a cls d C f Q)) : tXf a cls d C f te σ H Q := k
theorem n_xf {a d C : Addr} {f : Str} {v : V} {Q : VK} {H : Hp} (h : H d = some (.xd [(f, v)])) (k : Q v H) : XFLD a (.ref C) (some d) C f Q (.ref a) H := ⟨rfl, rfl, d, [(f, v)], v, rfl, h, by simp [List.lookup], k⟩
theorem nw_tup' {H H' : Hp} {t : Addr} {xs : List V} (e : Ex H H') (h : H' t = some (.tup xs)) : nw H H' t = some (.tup xs) := by
  cases q : H t with
  | none => rw [nw_new q]; exact h
  | some o =>
    have z := e _ _ q
    rw [h] at z
    cases z
    rw [nw_tup q rfl]
    exact h
def OST (K : PySem.W.Frag) (f : Str) (D : Ends) (σ : L2.St) (y x : V) (H2 : Hp) : Prop := ∃ a C : Addr, x = .ref a ∧ OexC K C ∧ PySem.W.findIn K (.ref C) f = some none ∧
  ((H2 a = some (exo a C none) ∧ ∀ dx, H2 dx = none → dx ≠ a → D.nx σ (upd (upd H2 dx (exd dx [(f, y)])) a (exo a C (some dx)))) ∨
    ∃ (dx : Addr) (fs : List (Str × V)), H2 a = some (exo a C (some dx)) ∧ H2 dx = some (exd dx fs) ∧ fs.length ≤ 900 ∧ D.nx σ (upd H2 dx (exd dx ((f, y) :: fs))))
theorem s_ost {K : PySem.W.Frag} {f : Str} {to te : TE} {D : Ends} {σ : L2.St} {H : Hp} (k : te σ H fun y H1 => to σ H1 fun x H2 => OST K f D σ y x H2) : tOst K f to te D σ H := k
end NX

namespace NX
open PySem PySem.Spec PyProof.Rows L2
open Evl (Ex ex_l ex_t fresh_back)
open RZ (ItzT iZipA)
/-! ### zip of two tuples, in a comprehension -/
theorem g_iZipA {K : PySem.W.Frag} {tr : TA} {σ : L2.St} {H : Hp} {R : It → Hp → Prop} (k : tr σ H fun vs H1 => ∃ a b xs ys, vs = [.ref a, .ref b] ∧ ((SqL K H1 a xs ∧ SqL K H1 b ys ∧ R (Itz K a b) H1) ∨ (SqT K H1 a xs ∧ SqT K H1 b ys ∧ R (ItzT K a b) H1))) : iZipA K tr σ H R := k
theorem v_zipT {K : PySem.W.Frag} {σ : L2.St} {G H : Hp} {L : List (Addr × HO)} {te : TE} {tt : TT} {g : TG} {vs : List Nat} {Q : VK} {a b : Addr} {xs ys : List V} (F : Nat → List V → Hp → List (Addr × HO) → Prop) (S : Own G L H) (hx : SqT K G a xs) (hy : SqT K G b ys) (hxy : xs.length = ys.length) (hz : xs.length ≤ 1000000) (h0 : F 0 [] G L)
    (hs : ∀ D i x y T acc G1 L1 H1, xs[i]? = some x → ys[i]? = some y → i < 1000000 → Ex G G1 → acc.length ≤ i → F i acc G1 L1 → Own G1 ((D, .lst acc) :: L1) H1 → H1 T = none → g (.ref T) (wipe σ vs) (upd H1 T (.tup [x, y])) fun σ2 H2 => wipe σ2 vs = wipe σ vs ∧ tt σ2 H2 fun b H3 =>
      if b = true then te σ2 H3 fun y H4 => CE G D F i y H4 else CP G D F (i + 1) H3)
    (hd : ∀ p acc G1 L1 H1, Ex G G1 → acc.length ≤ xs.length → F xs.length acc G1 L1 → Own G1 ((p, .lst acc) :: L1) H1 → Q (.ref p) H1) :
    ∃ a' b' xs' ys', [V.ref a, V.ref b] = [.ref a', .ref b'] ∧ ((SqL K H a' xs' ∧ SqL K H b' ys' ∧ LCJ (Itz K a' b') g tt te vs σ H Q) ∨ (SqT K H a' xs' ∧ SqT K H b' ys' ∧ LCJ (ItzT K a' b') g tt te vs σ H Q)) := by
  refine ⟨a, b, xs, ys, rfl, .inr ⟨S.st hx, S.st hy, fun D hD => ⟨fun i m H => m = xs.length - i ∧ i ≤ xs.length ∧ CP G D F i H, ⟨_, rfl, Nat.zero_le _, [], G, L, Ex.refl G, Nat.le_refl _, h0, S.lay hD⟩, ?_⟩⟩⟩
  rintro i m H1 ⟨rfl, hi, acc, G1, L1, e, hl, f, S1⟩
  have qx := S1.st (ex_t e hx)
  have qy := S1.st (ex_t e hy)
  by_cases c : i < xs.length
  · have gx : xs[i]? = some xs[i] := List.getElem?_eq_getElem c
    have gy : ys[i]? = some (ys[i]'(by omega)) := List.getElem?_eq_getElem (by omega)
    refine .inr ⟨⟨xs, ys, _, _, qx, qy, gx, gy⟩, fun H' => CP G D F (i + 1) H', fun H' p => ⟨xs.length - (i + 1), by omega, rfl, c, p⟩, fun v H' hv => ?_⟩
    obtain ⟨T, x, y, rfl, hT, rfl, h1, h2⟩ := hv
    exact hs D i x y T acc G1 L1 H1 (h1 xs qx) (h2 ys qy) (by omega) e hl f S1 hT
  · have ei : i = xs.length := by omega
    subst ei
    exact .inl ⟨⟨xs, ys, qx, qy, .inl (Nat.le_refl _)⟩, hd D acc G1 L1 H1 e hl f S1⟩
end NX

local macro_rules | `(tactic| walk_at "go1") => `(tactic| first
  | with_reducible refine NX.s_seq ?_
  | with_reducible refine NX.s_asg ?_
  | with_reducible refine NX.s_name ?_
  | with_reducible refine NX.s_ret ?_
  | with_reducible refine NX.s_if ?_
  | with_reducible refine NX.s_next ?_
  | with_reducible refine NX.s_drop ?_
  | with_reducible refine NX.s_brk ?_
  | with_reducible refine NX.s_cont ?_
  | with_reducible refine NX.s_par ?_
  | with_reducible refine NX.s_two ?_
  | with_reducible refine NX.s_sub ?_
  | with_reducible refine NX.s_gcons ?_
  | with_reducible refine NX.s_gnil ?_
  | with_reducible refine NX.g_c ?_
  | ((with_reducible refine' NX.g_var ?gv ?gk); (case gv => exact rfl))
  | with_reducible refine NX.g_op ?_
  | with_reducible refine NX.g_un ?_
  | with_reducible refine NX.g_U ?_
  | with_reducible refine NX.g_I0 ?_
  | with_reducible refine NX.g_cb ?_
  | with_reducible refine NX.g_call ?_
  | with_reducible refine NX.g_cal ?_
  | with_reducible refine NX.g_calN ?_
  | with_reducible refine NX.g_nil ?_
  | with_reducible refine NX.g_cons ?_
  | with_reducible refine NX.g_test ?_
  | with_reducible refine NX.g_B ?_
  | with_reducible refine NX.g_bl ?_
  | with_reducible refine NX.g_exV ?_
  | with_reducible refine NX.g_exI ?_
  | with_reducible refine NX.g_and ?_
  | with_reducible refine NX.g_or ?_
  | with_reducible refine NX.g_not ?_
  | with_reducible refine NX.g_andV ?_
  | with_reducible refine NX.g_orV ?_
  | with_reducible refine NX.g_notV ?_
  | with_reducible refine NX.g_if ?_
  | with_reducible refine NX.g_chain ?_
  | with_reducible refine NX.g_chain3 ?_
  | with_reducible refine NX.g_tup ?_
  | with_reducible refine NX.g_lst ?_
  | with_reducible refine NX.g_sl ?_
  | with_reducible refine NX.g_noPart ?_
  | with_reducible refine NX.g_part ?_
  | with_reducible refine NX.g_bm ?_
  | with_reducible refine NX.g_bm0 ?_
  | with_reducible refine NX.g_eqI ?_
  | with_reducible refine NX.g_neI ?_
  | with_reducible refine NX.g_eqB ?_
  | with_reducible refine NX.g_neB ?_
  | with_reducible refine NX.s_ipI ?_
  | ((with_reducible refine' NX.s_aug ?gv ?gk); (case gv => exact rfl))
  | with_reducible refine NX.s_for ?_
  | with_reducible refine NX.g_lc ?_
  | with_reducible refine NX.g_iList ?_
  | with_reducible refine NX.g_iTup ?_
  | with_reducible refine NX.g_iRng1 ?_
  | with_reducible refine NX.g_iRng2 ?_
  | with_reducible refine NX.g_iEnum ?_
  | with_reducible refine NX.g_yes ?_
  | with_reducible refine NX.n_int ?_
  | with_reducible refine NX.n_intB ?_
  | with_reducible refine NX.n_min ?_
  | with_reducible refine NX.n_max ?_
  | with_reducible refine NX.n_isN ?_
  | with_reducible refine NX.n_notN ?_
  | with_reducible refine NX.g_lrg ?_
  | with_reducible refine NX.g_rg1 ?_
  | with_reducible refine NX.g_rg2 ?_
  | with_reducible refine NX.g_ex2I ?_
  | with_reducible refine NX.g_mth ?_
  | with_reducible refine NX.g_new ?_
  | with_reducible refine NX.g_fld ?_
  | with_reducible refine NX.s_fld ?_
  | with_reducible refine NX.if_nt ?_
  | with_reducible refine NX.if_nf ?_
  | with_reducible refine L2.iteT ?_
  | with_reducible refine L2.iteF ?_)
local macro_rules | `(tactic| walk_at "go") => `(tactic| repeat (walk_at "go1"))

/-! the text by places -/
namespace NX
open PySem PySem.Spec PyProof.Rows L2
def top (i : Nat) : Stmt := PySem.Challenge.pw_nextchannel_k50_links_added_and_removed.main.body.getD i (.Pass ⟨0, 0, 0, 0⟩)
/-- what the top leaves of built-ins and constants -/
structure Txt (mg : Str → Option Value) : Prop where
  n_all : mg "all" = none
  n_bool : mg "bool" = none
  n_enumerate : mg "enumerate" = none
  n_int : mg "int" = none
  n_isinstance : mg "isinstance" = none
  n_len : mg "len" = none
  n_list : mg "list" = none
  n_max : mg "max" = none
  n_min : mg "min" = none
  n_range : mg "range" = none
  n_set : mg "set" = none
  n_sorted : mg "sorted" = none
  n_tuple : mg "tuple" = none
  n_zip : mg "zip" = none
  m_MAX_STATIONS : ∃ t, mg "MAX_STATIONS" = some (.int 60 t)
end NX

namespace NX
open PySem PySem.Spec PyProof.Rows L2
open Evl (Ex ex_l ex_t fresh_back)
abbrev s_is_int : Stmt := top 7
theorem sc_is_int : FnScope ["value"] ["value"] (defScope s_is_int) := ⟨rfl, rfl, rfl, by decide +kernel, rfl, by decide +kernel, by decide +kernel⟩
/-- the types of the values that the law hands around -/
def okTy (t : String) : Bool := t == "int" || t == "bool" || t == "str" || t == "NoneType" || t == "list" || t == "tuple" || t == "dict"
/-- x is of the built-in type t -/
def IsT (K : PySem.W.Frag) (H : Hp) (x : V) (t : String) : Prop := TyX K H x (.type t) ∧ okTy t = true
theorem IsT.int {K : PySem.W.Frag} {H : Hp} {i : Int} : IsT K H (.int i) "int" := ⟨.base (.int i), by decide +kernel⟩
/-- is_int(x): whether x is an int and no bool -/
def spIsInt (K : PySem.W.Frag) : Sp := fun vs H Q _ => ∃ x t, vs = [x] ∧ IsT K H x t ∧ Q (.bl (t == "int")) H
theorem g_isint {K : PySem.W.Frag} {H : Hp} {Q : VK} {E : XK} {i : Int} (k : Q (.bl true) H) : spIsInt K [.int i] H Q E := ⟨_, _, rfl, IsT.int, k⟩
theorem kit_int {t : String} (h : okTy t = true) : kitB t "int" = some (t == "int" || t == "bool") ∧ kitB t "bool" = some (t == "bool") ∧ kitB t "tuple" = some (t == "tuple") ∧ kitB t "list" = some (t == "list") := by
  unfold okTy at h
  simp only [Bool.or_eq_true, beq_iff_eq] at h
  rcases h with (((((h | h) | h) | h) | h) | h) | h <;> subst h <;> exact ⟨by decide +kernel, by decide +kernel, by decide +kernel, by decide +kernel⟩
section
variable {P : Program} {w : World} {K : PySem.W.Frag} {mg : Str → Option Value} {base : Heap}
theorem ok_is_int {f : Addr} {fd : FuncData} (F : Fun K "is_int" "is_int" s_is_int f fd) (T : Txt mg) : FnOk P w K mg base CX0 1 f fd ["value"] (spIsInt K) := by
  refine F.ok sc_is_int (fun vs H Q E h => ?_) (fun cdv A outer s H vs Q E hr h => ?_)
  · obtain ⟨x, t, rfl, _⟩ := h
    rfl
  · obtain ⟨x, t, rfl, ⟨ty, ok⟩, k⟩ := h
    obtain ⟨k1, k2, _, _⟩ := kit_int ok
    refine ⟨_, (pss_one (ps_ret (pe_and (pe_callB call_isi (by rfl) T.n_isinstance (by decide +kernel) (pa_cons (pv 0) (pa_cons (pe_bltn (v := .ty "int") (by rfl) T.n_int (by decide +kernel) rfl) pa_nil))) (pe_one (pe_not (pe_callB call_isi (by rfl) T.n_isinstance (by decide +kernel) (pa_cons (pv 0) (pa_cons (pe_bltn (v := .ty "bool") (by rfl) T.n_bool (by decide +kernel) rfl) pa_nil)))))))), ?_⟩
    walk_at "go"
    refine ⟨x, _, _, _, _, rfl, .ty _, ty, kit_ty k1, ?_⟩
    walk_at "go"
    by_cases c : t = "int"
    · subst c
      refine iteT ?_
      walk_at "go"
      refine ⟨x, _, _, _, _, rfl, .ty _, ty, kit_ty k2, ?_⟩
      walk_at "go"
      exact k
    · by_cases c2 : t = "bool"
      · subst c2
        refine iteT ?_
        walk_at "go"
        refine ⟨x, _, _, _, _, rfl, .ty _, ty, kit_ty k2, ?_⟩
        walk_at "go"
        exact k
      · have e : (t == "int" || t == "bool") = false := by simp [c, c2]
        have e2 : (t == "int") = false := by simp [c]
        rw [e]
        refine iteF ?_
        rw [e2] at k
        exact k
end
end NX

namespace NX
open PySem PySem.Spec PyProof.Rows L2
open Evl (Ex ex_l ex_t fresh_back)
/-! ### pairs as data -/
def pd (q : Pr) : PyData := .tuple [.int q.1, .int q.2]
theorem dp_pr {K : PySem.W.Frag} {H : Hp} {x : V} {q : Pr} (h : isPr H x q) : Dp K H x (pd q) := by
  obtain ⟨t, rfl, ht⟩ := h
  exact .tup (SqT.of ht) (.cons (.int _) (.cons (.int _) .nil))
theorem dp_lks {K : PySem.W.Frag} {H : Hp} : ∀ {xs : List V} {ps : List Pr}, Lks H xs ps → DpAll K H xs (ps.map pd)
  | _, _, .nil => .nil
  | _, _, .cons r t => .cons (dp_pr r) (dp_lks t)
theorem lay_lks : ∀ ps : List Pr, PyData.canLayAll0 (ps.map pd) = true
  | [] => by rw [List.map_nil]; unfold PyData.canLayAll0; rfl
  | q :: ps => by
    rw [List.map_cons]
    unfold PyData.canLayAll0
    rw [lay_lks ps]
    show (PyData.canLay0 (.tuple [.int q.1, .int q.2]) && true) = true
    simp only [PyData.canLay0, PyData.canLayAll0, Bool.and_self]
theorem depth_lks : ∀ ps : List Pr, PyData.depthAll (ps.map pd) ≤ 1
  | [] => by rw [List.map_nil]; unfold PyData.depthAll; omega
  | q :: ps => by
    rw [List.map_cons]
    unfold PyData.depthAll
    have h := depth_lks ps
    have e : PyData.depth (pd q) = 1 := by
      show PyData.depth (.tuple [.int q.1, .int q.2]) = 1
      simp [PyData.depth, PyData.depthAll]
    rw [e]
    omega
theorem shaped_lks (ps : List Pr) : SeqAt.shaped (.list (ps.map pd)) = true := by
  unfold SeqAt.shaped
  have h := depth_lks ps
  rw [Bool.and_eq_true]
  refine ⟨?_, decide_eq_true ?_⟩
  · simp only [PyData.canLay0]
    exact lay_lks ps
  · simp only [PyData.depth]
    omega
theorem shaped_pd (q : Pr) : SeqAt.shaped (pd q) = true := by
  unfold SeqAt.shaped pd
  simp [PyData.canLay0, PyData.canLayAll0, PyData.depth, PyData.depthAll]
theorem eqv_pd (z q : Pr) : PyData.eqv (pd z) (pd q) = decide (z = q) := by
  unfold pd
  simp only [PyData.eqv, PyData.eqvAll, Bool.and_true]
  obtain ⟨a, b⟩ := z; obtain ⟨c, d⟩ := q
  rw [Bool.eq_iff_iff]
  simp
theorem any_pd (ps : List Pr) (q : Pr) : ((ps.map pd).any fun z => PyData.eqv z (pd q)) = decide (q ∈ ps) := by
  rw [List.any_map, Bool.eq_iff_iff, List.any_eq_true]
  simp only [Function.comp, eqv_pd, decide_eq_true_eq]
  exact ⟨fun ⟨x, hx, e⟩ => e ▸ hx, fun h => ⟨q, h, rfl⟩⟩
theorem eqvAll_lks : ∀ ps qs : List Pr, PyData.eqvAll (ps.map pd) (qs.map pd) = decide (ps = qs)
  | [], [] => by simp [PyData.eqvAll]
  | [], q :: qs => by simp [PyData.eqvAll]
  | p :: ps, [] => by simp [PyData.eqvAll]
  | p :: ps, q :: qs => by
    rw [List.map_cons, List.map_cons, PyData.eqvAll, eqv_pd, eqvAll_lks ps qs, Bool.eq_iff_iff]
    simp
theorem eqv_lks (ps qs : List Pr) : PyData.eqv (.list (ps.map pd)) (.list (qs.map pd)) = decide (ps = qs) := by
  rw [PyData.eqv]; exact eqvAll_lks ps qs
/-- the pair that a tuple holds -/
def kOf (H : Hp) (x : V) : Pr := match x with
  | .ref t => (match H t with
    | some (.tup [.int i, .int j]) => (i, j)
    | _ => (0, 0))
  | _ => (0, 0)
theorem kOf_pr {H : Hp} {x : V} {q : Pr} (h : isPr H x q) : kOf H x = q := by
  obtain ⟨t, rfl, ht⟩ := h
  unfold kOf
  simp only [ht]
theorem lks_k {H : Hp} : ∀ {xs : List V} {ps : List Pr}, Lks H xs ps → xs.map (kOf H) = ps ∧ ∀ x ∈ xs, isPr H x (kOf H x)
  | _, _, .nil => ⟨rfl, fun _ h => nomatch h⟩
  | _, _, .cons r t => by
    obtain ⟨h1, h2⟩ := lks_k t
    refine ⟨by rw [List.map_cons, kOf_pr r, h1], fun x hx => ?_⟩
    rcases List.mem_cons.mp hx with rfl | hx
    · rw [kOf_pr r]; exact r
    · exact h2 x hx
theorem lks_of {H : Hp} : ∀ {ys : List V}, (∀ x ∈ ys, isPr H x (kOf H x)) → Lks H ys (ys.map (kOf H))
  | [], _ => .nil
  | y :: ys, h => .cons (h y List.mem_cons_self) (lks_of fun x hx => h x (List.mem_cons_of_mem _ hx))
/-- sorted(links) -/
theorem n_sortP {K : PySem.W.Frag} {G H : Hp} {L : List (Addr × HO)} {a : Addr} {xs : List V} {ps : List Pr} {Q : VK} {G0 : Hp} (S : Own G L H) (hx : SqL K H a xs) (e0 : Ex G0 H) (hl : Lks G0 xs ps)
    (k : ∀ p ys G1 H1, H p = none → Ex G G1 → Ex H H1 → G1 p = some (.lst ys) → Lks G0 ys (sortP ps) → Own G1 L H1 → Q (.ref p) H1) : rSortedPO K [.ref a] H Q := by
  obtain ⟨h1, h2⟩ := lks_k hl
  refine ⟨a, xs, kOf G0, rfl, hx, fun x m => ?_, fun ys p hs hb hp => ?_⟩
  · obtain ⟨t, e, ht⟩ := h2 x m
    exact ⟨t, e, e0 _ _ ht⟩
  · have hy : Lks G0 ys (ys.map (kOf G0)) := lks_of fun x m => h2 x (hb.perm.mem_iff.mp m)
    have e : ys.map (kOf G0) = sortP ps := by
      refine sortP_eq ?_ ?_
      · refine List.pairwise_map.mpr (hs.imp fun {x y} (c : ltP (kOf G0) y x = false) => ?_)
        have z := SrtO.lexB_no.mp c
        rw [leP_iff]
        omega
      · rw [← h1]
        exact hb.perm.map _
    rw [e] at hy
    exact k p ys _ _ hp (S.still hp).2.1 (Ex.new hp) (S.still hp).2.2 hy (S.still hp).1
/-! ### a network in the heap -/
def NF (kp np : Addr) : List (Str × V) := putF "near" (.ref np) (putF "kept" (.ref kp) [])
theorem nf_near (kp np : Addr) : (NF kp np).lookup ("near" : Str) = some (.ref np) := by unfold NF; rw [lookup_putF, if_pos rfl]
theorem nf_kept (kp np : Addr) : (NF kp np).lookup ("kept" : Str) = some (.ref kp) := by
  unfold NF
  rw [lookup_putF, if_neg (by decide +kernel), lookup_putF, if_pos rfl]
theorem nf_no (kp np : Addr) {m : Str} (h1 : ¬ m = "near") (h2 : ¬ m = "kept") : (NF kp np).lookup m = none := by
  unfold NF
  rw [lookup_putF, if_neg h1, lookup_putF, if_neg h2]
  all_goals rfl
/-- what stands at a network's addresses -/
structure NetO (C : Addr) (H : Hp) (a : Addr) (dx kp np : Addr) (xs : List V) (nps : List Addr) (n : Nat) (ks : List Pr) : Prop where
  ins : H a = some (.ins C dx (NF kp np))
  kept : H kp = some (.lst xs)
  lks : Lks H xs ks
  near : H np = some (.lst (nps.map V.ref))
  len : nps.length = n
  each : ∀ (i : Nat) (p : Addr), nps[i]? = some p → H p = some (.lst ((nb ks (i : Int)).map V.int))
structure NetAt (C : Addr) (H : Hp) (a : Addr) (n : Nat) (ks : List Pr) : Prop where
  at_ : ∃ dx kp np xs nps, NetO C H a dx kp np xs nps n ks
  ok : Okl n ks
  up : Up ks
  nd : ks.Nodup
  sz : 1 ≤ n ∧ n ≤ 60
theorem NetO.mono {C : Addr} {G H : Hp} {a dx kp np : Addr} {xs : List V} {nps : List Addr} {n : Nat} {ks : List Pr} (h : NetO C G a dx kp np xs nps n ks) (e : Ex G H) : NetO C H a dx kp np xs nps n ks :=
  ⟨e _ _ h.ins, e _ _ h.kept, h.lks.mono e, e _ _ h.near, h.len, fun i p q => e _ _ (h.each i p q)⟩
theorem NetAt.mono {C : Addr} {G H : Hp} {a : Addr} {n : Nat} {ks : List Pr} (h : NetAt C G a n ks) (e : Ex G H) : NetAt C H a n ks :=
  ⟨let ⟨dx, kp, np, xs, nps, o⟩ := h.at_; ⟨dx, kp, np, xs, nps, o.mono e⟩, h.ok, h.up, h.nd, h.sz⟩
/-- what the text says of the class -/
structure NetC (K : PySem.W.Frag) (C : Addr) : Prop where
  cl : Cls K C
  nK : NoAttr K C "kept"
  nN : NoAttr K C "near"
  ha : PySem.W.findIn K (.ref C) "__class__" = some (some (.builtin "object.__class__"))
  hn : PySem.W.specialIn K (.builtin "object.__class__") "__get__" = some (some (.builtin "getset_descriptor.__get__"))
  ht : PySem.W.takesIn K (.builtin "object.__class__") = some true
  hm : PySem.W.mroIn K C (.type "object") = some true
  kit : PySem.W.kitOne K (.ref C) (.ref C) = some true
  ne : PySem.W.findIn K (.ref C) "__ne__" = some (some (.builtin "object.__ne__"))
end NX

namespace NX
open PySem PySem.Spec PyProof.Rows L2
open Evl (Ex ex_l ex_t fresh_back)
theorem IsT.tup {K : PySem.W.Frag} {H : Hp} {t : Addr} {xs : List V} (h : H t = some (.tup xs)) : IsT K H (.ref t) "tuple" := ⟨.base (.tup h), by decide +kernel⟩
theorem IsT.lst {K : PySem.W.Frag} {H : Hp} {t : Addr} {xs : List V} (h : H t = some (.lst xs)) : IsT K H (.ref t) "list" := ⟨.base (.lst h), by decide +kernel⟩
theorem n_isiTup {K : PySem.W.Frag} {H : Hp} {t : Addr} {xs : List V} {Q : VK} (h : H t = some (.tup xs)) (k : Q (.bl true) H) : rIsi K [.ref t, .ty "tuple"] H Q := ⟨_, _, _, _, _, rfl, .ty _, .base (.tup h), kit_ty (by decide +kernel), k⟩
theorem n_isiLst {K : PySem.W.Frag} {H : Hp} {t : Addr} {xs : List V} {Q : VK} (h : H t = some (.lst xs)) (k : Q (.bl true) H) : rIsi K [.ref t, .ty "list"] H Q := ⟨_, _, _, _, _, rfl, .ty _, .base (.lst h), kit_ty (by decide +kernel), k⟩
abbrev s_is_link : Stmt := top 8
theorem sc_is_link : FnScope ["value", "stations", "part"] ["value", "stations"] (defScope s_is_link) := ⟨rfl, rfl, rfl, by decide +kernel, rfl, by decide +kernel, by decide +kernel⟩
def spIsLink : Sp := fun vs H Q _ => ∃ (t : Addr) (a b n : Int), vs = [.ref t, .int n] ∧ H t = some (.tup [.int a, .int b]) ∧ (0 ≤ a ∧ a < b ∧ b < n) ∧ ∀ H', Ex H H' → Q (.bl true) H'
section
variable {P : Program} {w : World} {K : PySem.W.Frag} {mg : Str → Option Value} {base : Heap}
theorem ok_is_link {f : Addr} {fd : FuncData} (F : Fun K "is_link" "is_link" s_is_link f fd) (T : Txt mg) (c_is_int : Cal P w K mg base 1 "is_int" ["value"] [] (spIsInt K)) : FnOk P w K mg base CX0 2 f fd ["value", "stations"] spIsLink := by
  refine F.ok sc_is_link (fun vs H Q E h => ?_) (fun cdv A outer s H vs Q E hr h => ?_)
  · obtain ⟨t, a, b, n, rfl, _⟩ := h
    rfl
  · obtain ⟨t, a, b, n, rfl, ht, hb, k⟩ := h
    refine ⟨_, (pss_cons (ps_if (PW.pt (pw_or (pt_not (pt_val (pe_callB call_isi (by rfl) T.n_isinstance (by decide +kernel) (pa_cons (pv 0) (pa_cons (pe_bltn (v := .ty "tuple") (by rfl) T.n_tuple (by decide +kernel) rfl) pa_nil))))) (pw_or (pt_cmpR op_ne (pe_callB call_lenN (by rfl) T.n_len (by decide +kernel) (pa_cons (pv 0) pa_nil)) pe_int (nomark _)) (pw_or1 (pt_not (pt_val (pe_callB (cr_all rfl) (by rfl) T.n_all (by decide +kernel) (pa_cons (pe_lc (own := [("part", 2)]) (by rfl) sc_is_link.nd (pi_tup (pv 0)) (blkOk_by (own := [("part", 2)]) (N := ["value", "stations", "part"]) (sc := defScope s_is_link) (by decide +kernel)) (fun _ _ _ _ _ => (pg_name (i := 2) sc_is_link.nd rfl (Or.inl rfl))) (fun _ _ _ _ _ => pts_nil) (fun _ _ _ _ _ => (pe_cal c_is_int (hr.mono (by first | decide | omega)) passN (pa_cons (pv 2) pa_nil)))) pa_nil)))))))) (pss_one (ps_ret pe_bl)) pss_nil)
      (pss_one (ps_ret (pe_chain3 op_le op_lt op_lt pe_int (pe_ix ix_tup (pv 0) pe_int (fun _ _ => rfl)) (pe_ix ix_tup (pv 0) pe_int (fun _ _ => rfl)) (pv 1))))), ?_⟩
    walk_at "go"
    refine n_isiTup ht ?_
    walk_at "go"
    refine n_lenT (SqT.of ht) ?_
    walk_at "go"
    refine if_ff (by rfl) ?_
    walk_at "go"
    refine v_tup (xs := [.int a, .int b]) (fun i acc G' L' => G' = H ∧ L' = [] ∧ acc = List.replicate i (.bl true)) (Own.start H) (SqT.of ht) (by show 2 ≤ 1000000; decide) ⟨rfl, rfl, rfl⟩ ?_ ?_
    · rintro D i x acc G1 L1 H1 hx hi e hl ⟨rfl, rfl, rfl⟩ S
      obtain ⟨z, rfl⟩ : ∃ z : Int, x = .int z := by
        match i, hx with
        | 0, hx => exact ⟨a, (Option.some.inj hx).symm⟩
        | 1, hx => exact ⟨b, (Option.some.inj hx).symm⟩
        | i + 2, hx => simp at hx
      walk_at "go"
      refine ⟨rfl, ?_⟩
      walk_at "go"
      refine g_isint ?_
      exact c_yes S e hl hi ⟨rfl, rfl, List.replicate_succ'.symm⟩
    · rintro p acc G1 L1 H1 e hl ⟨rfl, rfl, rfl⟩ S
      walk_at "go"
      refine ⟨p, [true, true], rfl, S.l0, ?_⟩
      walk_at "go"
      refine if_ff (by rfl) ?_
      walk_at "go"
      refine g_ixT (i := 0) (S.st (SqT.of ht)) rfl ?_
      walk_at "go"
      refine if_tt (dtrue hb.1) ?_
      walk_at "go"
      refine g_ixT (i := 1) (S.st (SqT.of ht)) rfl ?_
      walk_at "go"
      refine if_tt (dtrue hb.2.1) ?_
      walk_at "go"
      rw [dtrue hb.2.2]
      exact k _ S.ex
end
end NX

namespace NX
open PySem PySem.Spec PyProof.Rows L2
open Evl (Ex ex_l ex_t fresh_back)
/-! ### lists of lists: near -/
def nearL (nps : List Addr) (g : Nat → List Int) : List (Addr × HO) := nps.zipIdx.map fun x => (x.1, .lst ((g x.2).map V.int))
theorem nearL_get {nps : List Addr} {g : Nat → List Int} {i : Nat} {p : Addr} (h : nps[i]? = some p) : (nearL nps g)[i]? = some (p, .lst ((g i).map V.int)) := by
  unfold nearL
  rw [List.getElem?_map, List.getElem?_zipIdx, h]
  simp
theorem nearL_none {nps : List Addr} {g : Nat → List Int} {i : Nat} (h : nps[i]? = none) : (nearL nps g)[i]? = none := by
  unfold nearL
  rw [List.getElem?_map, List.getElem?_zipIdx, h]
  simp
theorem nearL_set {nps : List Addr} {g g' : Nat → List Int} {i : Nat} {p : Addr} (h : nps[i]? = some p) (hg : ∀ j, j ≠ i → g' j = g j) : (nearL nps g).set i (p, .lst ((g' i).map V.int)) = nearL nps g' := by
  refine List.ext_getElem? fun j => ?_
  by_cases c : i = j
  · subst c
    have hl : i < (nearL nps g).length := (List.getElem?_eq_some_iff.mp (nearL_get h)).1
    rw [List.getElem?_set_self hl, nearL_get h]
  · rw [List.getElem?_set_ne c]
    cases q : nps[j]? with
    | none => rw [nearL_none q, nearL_none q]
    | some r => rw [nearL_get q, nearL_get q, hg j (Ne.symm c)]
theorem nearL_snoc (nps : List Addr) (p : Addr) (g : Nat → List Int) : nearL (nps ++ [p]) g = nearL nps g ++ [(p, .lst ((g nps.length).map V.int))] := by
  unfold nearL
  rw [List.zipIdx_append, List.map_append]
  simp
theorem nearL_len (nps : List Addr) (g : Nat → List Int) : (nearL nps g).length = nps.length := by unfold nearL; simp
theorem nb_one_n {n : Nat} {q : Pr} {a b : Nat} (ha : q.1 = (a : Int)) (hb : q.2 = (b : Int)) (hne : a ≠ b) (ks : List Pr) (j : Nat) :
    nb (ks ++ [q]) (j : Int) = if j = a then nb ks (j : Int) ++ [(b : Int)] else if j = b then nb ks (j : Int) ++ [(a : Int)] else nb ks (j : Int) := by
  rw [nb_app, nb_one, ha, hb]
  by_cases h1 : j = a
  · subst h1; simp
  · have h1' : ¬ (a : Int) = (j : Int) := by omega
    rw [if_neg h1', if_neg h1]
    by_cases h2 : j = b
    · subst h2; simp
    · have h2' : ¬ (b : Int) = (j : Int) := by omega
      rw [if_neg h2', if_neg h2, List.append_nil]
theorem pr_take {α β : Type} {F : α → β → Prop} : ∀ {xs : List α} {ys : List β}, Paired F xs ys → ∀ i, Paired F (xs.take i) (ys.take i)
  | _, _, _, 0 => .nil
  | _, _, .nil, i + 1 => .nil
  | _, _, .cons r t, i + 1 => .cons r (pr_take t i)
theorem nodup_take {α : Type} {l : List α} (h : l.Nodup) {i : Nat} {q : α} (e : l[i]? = some q) : q ∉ l.take i := fun m => by
  obtain ⟨j, hj, e2⟩ := List.mem_iff_getElem.mp m
  have hj' : j < i ∧ j < l.length := by rw [List.length_take] at hj; omega
  have e3 : l[j]? = some q := by rw [← e2, List.getElem_take, List.getElem?_eq_getElem hj'.2]
  obtain ⟨h1, q1⟩ := List.getElem?_eq_some_iff.mp e
  obtain ⟨h2, q2⟩ := List.getElem?_eq_some_iff.mp e3
  have z := (List.getElem_inj h).mp (q1.trans q2.symm)
  omega
theorem perm_mid {α : Type} (a b c : α) (l : List α) : (b :: c :: (l ++ [a])).Perm (a :: b :: c :: l) :=
  ((List.perm_append_singleton a (b :: c :: l)))
abbrev s_Network___init__ : Stmt := inClass (top 9) 0
theorem sc_Network___init__ : FnScope ["self", "stations", "links", "index", "link", "one", "other", "station"] ["self", "stations", "links"] (defScope s_Network___init__) := ⟨rfl, rfl, rfl, by decide +kernel, rfl, by decide +kernel, by decide +kernel⟩
def spInit (C : Addr) : Sp := fun vs H Q _ => ∃ (x lp dx : Addr) (n : Nat) (xs : List V) (ps : List Pr) (G : Hp), vs = [.ref x, .int (n : Int), .ref lp] ∧ Own G [(x, .ins C dx [])] H ∧ G lp = some (.lst xs) ∧ Lks G xs ps ∧
  Okl n ps ∧ ps.Nodup ∧ 1 ≤ n ∧ n ≤ 60 ∧ ps.length ≤ 10000 ∧ ∀ H', Ex G H' → NetAt C (nw G H') x n (sortP ps) → Q .non H'
section
variable {P : Program} {w : World} {K : PySem.W.Frag} {mg : Str → Option Value} {base : Heap}
theorem ok_init {f C : Addr} {fd : FuncData} (F : Fun K "__init__" "Network.__init__" s_Network___init__ f fd) (T : Txt mg) (N : NetC K C) (c_is_int : Cal P w K mg base 1 "is_int" ["value"] [] (spIsInt K))
    (c_is_link : Cal P w K mg base 2 "is_link" ["value", "stations"] [] spIsLink) : FnOk P w K mg base CX0 3 f fd ["self", "stations", "links"] (spInit C) := by
  refine F.ok sc_Network___init__ (fun vs H Q E h => ?_) (fun cdv A outer s H vs Q E hr h => ?_)
  · obtain ⟨x, lp, dx, n, xs, ps, G, rfl, _⟩ := h
    rfl
  · obtain ⟨x, lp, dx, n, xs, ps, G, rfl, S0, hlp, hl, hok, hnd, h1, h60, hz, k⟩ := h
    have hu65 : ∀ X : Cx, X.A = A.deeper (envOfC "Network.__init__" (defScope s_Network___init__) s.heap.objs.size f cdv) → X.A.units + 65 < cLine := fun X e => by rw [e]; have := hr.un; omega
    refine ⟨_, (pss_cons (ps_if (PW.pt (pw_or (pt_not (pt_val (pe_cal c_is_int (hr.mono (by first | decide | omega)) passN (pa_cons (pv 1) pa_nil)))) (pw_or (pt_not (pt_chain op_le op_le pe_int (pv 1) (pe_cst (by rfl) T.m_MAX_STATIONS))) (pw_or1 (pt_not (pt_val (pe_callB call_isi (by rfl) T.n_isinstance (by decide +kernel) (pa_cons (pv 2) (pa_cons (pe_bltn (v := .ty "list") (by rfl) T.n_list (by decide +kernel) rfl) pa_nil))))))))) (pss_one ps_never) pss_nil)
      (pss_cons (ps_for PassesOwn.never rfl (pi_enum (by rfl) T.n_enumerate (pa_cons (pv 2) pa_nil)) (pg_tup (n := 2) rfl (pgs_cons (pg_name (i := 3) sc_Network___init__.nd rfl (Or.inl rfl)) (pgs_cons (pg_name (i := 4) sc_Network___init__.nd rfl (Or.inl rfl)) pgs_nil))) (pss_one (ps_if (PW.pt (pw_or (pt_not (pt_val (pe_cal c_is_link (hr.mono (by first | decide | omega)) passN (pa_cons (pv 4) (pa_cons (pv 1) pa_nil))))) (pw_or1 (pt_cmpR (op_inD (hu65 _ rfl)) (pv 4) (pe_slice sl_list (pv 2) po_none (po_some (pv 3))) rfl)))) (pss_one ps_never) pss_nil)))
      (pss_cons (ps_fld (pv 0) (pe_callB cr_sortedPO (by rfl) T.n_sorted (by decide +kernel) (pa_cons (pv 2) pa_nil)) rfl)
      (pss_cons (ps_fld (pv 0) (pe_lc (own := [("station", 7)]) (by rfl) sc_Network___init__.nd (pi_range1 (by rfl) T.n_range (pa_cons (pv 1) pa_nil)) (blkOk_by (own := [("station", 7)]) (N := ["self", "stations", "links", "index", "link", "one", "other", "station"]) (sc := defScope s_Network___init__) (by decide +kernel)) (fun _ _ _ _ _ => (pg_name (i := 7) sc_Network___init__.nd rfl (Or.inl rfl))) (fun _ _ _ _ _ => pts_nil) (fun _ _ _ _ _ => (pe_lst pa_nil))) rfl)
      (pss_one (ps_for PassesOwn.never rfl (pi_list (pe_fld (pv 0) rfl)) (pg_tup (n := 2) rfl (pgs_cons (pg_name (i := 5) sc_Network___init__.nd rfl (Or.inl rfl)) (pgs_cons (pg_name (i := 6) sc_Network___init__.nd rfl (Or.inl rfl)) pgs_nil))) (pss_cons (ps_expr (pe_bm PySem.F.plainAttrs_list PySem.F.slot_list_append PySem.F.type_list_append mt_append (pe_ix ix_list (pe_fld (pv 0) rfl) (pv 5) (fun _ _ => rfl)) (pa_cons (pv 6) pa_nil)))
      (pss_one (ps_expr (pe_bm PySem.F.plainAttrs_list PySem.F.slot_list_append PySem.F.type_list_append mt_append (pe_ix ix_list (pe_fld (pv 0) rfl) (pv 6) (fun _ _ => rfl)) (pa_cons (pv 5) pa_nil))))))))))), ?_⟩
    walk_at "go"
    refine g_isint ?_
    walk_at "go"
    refine if_tt (dtrue (by omega)) ?_
    walk_at "go"
    refine if_ff (ntrue (by omega)) ?_
    walk_at "go"
    refine n_isiLst (S0.ex _ _ hlp) ?_
    walk_at "go"
    refine w_enum (fun i σ' H' => (∃ x1 x2 x3 x4 x5, σ' = [some (.ref x), some (.int (n : Int)), some (.ref lp), x1, x2, x3, x4, x5]) ∧ ∃ G', Ex G G' ∧ Own G' [(x, .ins C dx [])] H') (SqL.of (S0.ex _ _ hlp)) ⟨⟨_, _, _, _, _, rfl⟩, G, Ex.refl G, S0⟩ (fun i σ' H' ⟨_, G', e, S⟩ => SqL.of (S.ex _ _ (e _ _ hlp))) ?_ ?_
    · rintro i y T σ' H' hy ⟨⟨x1, x2, x3, x4, x5, rfl⟩, G', e, S⟩ hT
      obtain ⟨q, hq, t, rfl, ht⟩ := pr_get hl hy
      have hb := hok q (List.mem_of_getElem? hq)
      have S1 := (S.still (o := .tup [.int (i : Int), .ref t]) hT).1
      have e1 := e.trans (S.still (o := .tup [.int (i : Int), .ref t]) hT).2.1
      refine s_gtup (SqT.of upd_same) rfl ?_
      walk_at "go"
      refine ⟨t, q.1, q.2, n, rfl, S1.ex _ _ (e1 _ _ ht), hb, fun H2 e2 => ?_⟩
      have S2 := S1.grow e2
      walk_at "go"
      refine n_sl S2 (SqL.of (S2.ex _ _ (e1 _ _ hlp))) fun p G3 H3 _ e3 _ hp S3 => ?_
      have e13 := e1.trans e3
      rw [cutV_to] at hp
      have hlt : Lks G (xs.take i) (ps.take i) := by
        have z := hl
        exact pr_take z i
      refine ⟨pd q, (ps.take i).map pd, dp_pr ⟨t, rfl, S3.ex _ _ (e13 _ _ ht)⟩, .lst (SqL.of (S3.ex _ _ hp)) (dp_lks (hlt.mono (e13.trans S3.ex))), shaped_pd q, shaped_lks _, ?_⟩
      rw [any_pd, dfalse (nodup_take hnd hq)]
      walk_at "go"
      exact ⟨⟨_, _, _, _, _, rfl⟩, G3, e13, S3⟩
    · rintro σ' H' ⟨⟨x1, x2, x3, x4, x5, rfl⟩, G1, e1, S1⟩
      walk_at "go"
      refine n_sortP S1 (SqL.of (S1.ex _ _ (e1 _ _ hlp))) (e1.trans S1.ex) hl fun kp ys G2 H2 hkp e2 e2' hk2 hl2 S2 => ?_
      walk_at "go"
      refine n_setF S2 N.cl N.nK (by decide) fun H3 S3 => ?_
      walk_at "go"
      refine v_rng1 (j := (n : Int)) (fun i acc G' L' => G' = G2 ∧ ∃ nps : List Addr, nps.length = i ∧ acc = nps.map V.ref ∧ L' = (x, .ins C dx (putF "kept" (.ref kp) [])) :: nearL nps fun _ => []) S3 (by omega) ⟨rfl, [], rfl, rfl, rfl⟩ ?_ ?_
      · rintro D i acc G' L' H4 hi hi' e4 hl4 ⟨rfl, nps, rfl, rfl, rfl⟩ S4
        walk_at "go"
        refine ⟨rfl, ?_⟩
        walk_at "go"
        refine n_lst S4 (by decide) fun p H5 hp S5 => ?_
        refine c_yes (acc := nps.map V.ref) (L1 := (x, .ins C dx (putF "kept" (.ref kp) [])) :: nearL (nps ++ [p]) fun _ => []) (S5.perm ?_) e4 (by rw [List.length_map]; exact Nat.le_refl _) hi' ⟨rfl, nps ++ [p], by rw [List.length_append]; rfl, by rw [List.map_append] <;> rfl, rfl⟩
        rw [nearL_snoc]
        exact (perm_mid _ _ _ _)
      · rintro np acc G' L' H4 e4 _ ⟨rfl, nps, hlen, rfl, rfl⟩ S4
        have hlen : nps.length = n := by omega
        walk_at "go"
        refine n_setF S4.swap N.cl N.nN (by show 1 < 1000; decide) fun H5 S5 => ?_
        obtain ⟨S6, e6, hnp⟩ := S5.swap.freeze
        have hnG : Ex G (upd G' np (.lst (nps.map V.ref))) := (e1.trans e2).trans e6
        generalize upd G' np (.lst (nps.map V.ref)) = G6 at S6 e6 hnp hnG
        have hkp6 := e6 _ _ hk2
        walk_at "go"
        refine n_fld S6.get0 N.cl N.nK (nf_kept kp np) ?_
        refine w_list (xs := ys) (fun i σ' H' => (∃ x1 x2 x3 x4 x5, σ' = [some (.ref x), some (.int (n : Int)), some (.ref lp), x1, x2, x3, x4, x5]) ∧ Own G6 ((x, .ins C dx (NF kp np)) :: nearL nps fun j => nb ((sortP ps).take i) (j : Int)) H') (SqL.of (S6.ex _ _ hkp6)) ⟨⟨_, _, _, _, _, rfl⟩, S6⟩ (fun i σ' H' h => SqL.of (h.2.ex _ _ hkp6)) ?_ ?_
        · rintro i y σ' H' hy ⟨⟨x1, x2, x3, x4, x5, rfl⟩, S⟩
          obtain ⟨q, hq, t, rfl, ht⟩ := pr_get hl2 hy
          have hb := (hok.sort) q (List.mem_of_getElem? hq)
          have ht6 : G6 t = some (.tup [.int q.1, .int q.2]) := hnG _ _ ht
          obtain ⟨a, ha⟩ : ∃ a : Nat, q.1 = (a : Int) := ⟨q.1.toNat, by omega⟩
          obtain ⟨b, hbq⟩ : ∃ b : Nat, q.2 = (b : Int) := ⟨q.2.toNat, by omega⟩
          have hab : a ≠ b := by omega
          obtain ⟨pa, hpa⟩ : ∃ p, nps[a]? = some p := ⟨_, List.getElem?_eq_getElem (by omega)⟩
          obtain ⟨pb, hpb⟩ : ∃ p, nps[b]? = some p := ⟨_, List.getElem?_eq_getElem (by omega)⟩
          have hz2 : ∀ j : Nat, (nb ((sortP ps).take i) (j : Int)).length ≤ 10000 := fun j => Nat.le_trans (List.length_filterMap_le _ _) (by rw [List.length_take, sortP_len]; omega)
          refine s_gtup (S.st (SqT.of ht6)) rfl ?_
          walk_at "go"
          refine n_fld S.get0 N.cl N.nN (nf_near kp np) ?_
          walk_at "go"
          rw [ha]
          refine g_ixL (SqL.of (S.ex _ _ hnp)) (atI_nat (j := a) (v := .ref pa) (by rw [List.getElem?_map, hpa] <;> rfl)) ?_
          have ea : ((x, HO.ins C dx (NF kp np)) :: nearL nps fun j => nb ((sortP ps).take i) (j : Int))[a + 1]? = some (pa, .lst ((nb ((sortP ps).take i) (a : Int)).map V.int)) := nearL_get hpa
          refine ⟨tyL (SqL.of (S.getM (List.mem_of_getElem? ea))), ?_⟩
          walk_at "go"
          refine n_appM S ea (by rw [List.length_map]; have := hz2 a; omega) fun H7 S7 => ?_
          have eset : ((x, HO.ins C dx (NF kp np)) :: nearL nps fun j => nb ((sortP ps).take i) (j : Int)).set (a + 1) (pa, .lst ((nb ((sortP ps).take i) (a : Int)).map V.int ++ [.int q.2])) =
              (x, HO.ins C dx (NF kp np)) :: nearL nps fun j => if j = a then nb ((sortP ps).take i) (j : Int) ++ [q.2] else nb ((sortP ps).take i) (j : Int) := by
            show (x, HO.ins C dx (NF kp np)) :: (nearL nps fun j => nb ((sortP ps).take i) (j : Int)).set a _ = _
            have e := nearL_set (g := fun j => nb ((sortP ps).take i) (j : Int)) (g' := fun j => if j = a then nb ((sortP ps).take i) (j : Int) ++ [q.2] else nb ((sortP ps).take i) (j : Int)) hpa (fun j hj => if_neg hj)
            rw [← e]
            simp
          rw [eset] at S7
          walk_at "go"
          refine n_fld S7.get0 N.cl N.nN (nf_near kp np) ?_
          walk_at "go"
          rw [hbq]
          refine g_ixL (SqL.of (S7.ex _ _ hnp)) (atI_nat (j := b) (v := .ref pb) (by rw [List.getElem?_map, hpb] <;> rfl)) ?_
          have eb : ((x, HO.ins C dx (NF kp np)) :: nearL nps fun j => if j = a then nb ((sortP ps).take i) (j : Int) ++ [q.2] else nb ((sortP ps).take i) (j : Int))[b + 1]? = some (pb, .lst ((nb ((sortP ps).take i) (b : Int)).map V.int)) := by
            have z := nearL_get (g := fun j => if j = a then nb ((sortP ps).take i) (j : Int) ++ [q.2] else nb ((sortP ps).take i) (j : Int)) hpb
            rw [if_neg (Ne.symm hab)] at z
            exact z
          refine ⟨tyL (SqL.of (S7.getM (List.mem_of_getElem? eb))), ?_⟩
          walk_at "go"
          refine n_appM S7 eb (by rw [List.length_map]; have := hz2 b; omega) fun H8 S8 => ?_
          have etk : (sortP ps).take (i + 1) = (sortP ps).take i ++ [q] := take_snoc hq
          have eset2 : ((x, HO.ins C dx (NF kp np)) :: nearL nps fun j => if j = a then nb ((sortP ps).take i) (j : Int) ++ [q.2] else nb ((sortP ps).take i) (j : Int)).set (b + 1) (pb, .lst ((nb ((sortP ps).take i) (b : Int)).map V.int ++ [.int q.1])) =
              (x, HO.ins C dx (NF kp np)) :: nearL nps fun j => nb ((sortP ps).take (i + 1)) (j : Int) := by
            show (x, HO.ins C dx (NF kp np)) :: (nearL nps fun j => if j = a then nb ((sortP ps).take i) (j : Int) ++ [q.2] else nb ((sortP ps).take i) (j : Int)).set b _ = _
            have e := nearL_set (g := fun j => if j = a then nb ((sortP ps).take i) (j : Int) ++ [q.2] else nb ((sortP ps).take i) (j : Int)) (g' := fun j => nb ((sortP ps).take (i + 1)) (j : Int)) hpb (fun j hj => by
              rw [etk, nb_one_n (n := n) ha hbq hab, if_neg hj, ← hbq])
            rw [← e]
            simp only [etk]
            rw [nb_one_n (n := n) ha hbq hab, if_neg (Ne.symm hab), if_pos rfl]
            simp [ha]
          rw [ha] at eset2
          rw [eset2] at S8
          walk_at "go"
          exact ⟨⟨_, _, _, _, _, rfl⟩, S8⟩
        · rintro σ' H' ⟨_, S⟩
          rw [(pr_len hl2), List.take_length] at S
          walk_at "go"
          have new : ∀ a : Addr, G a = none → nw G H' a = H' a := fun a h => nw_new h
          refine k H' (hnG.trans S.ex) ⟨⟨dx, kp, np, ys, nps, ?_⟩, hok.sort, sortP_up _, (sortP_perm ps).nodup_iff.mpr hnd, h1, h60⟩
          have hx0 : G x = none := S0.no0
          have hk0 : G kp = none := fresh_back (e1.trans S1.ex) hkp
          have hn0 : G np = none := fresh_back (e1.trans e2) S4.no0
          refine ⟨(new x hx0).trans S.get0, (new kp hk0).trans (S.ex _ _ hkp6), Paired.mapP hl2 fun y q ⟨t, e, ht⟩ => ⟨t, e, (nw_tup ht rfl).trans (S.ex _ _ (hnG _ _ ht))⟩, (new np hn0).trans (S.ex _ _ hnp), hlen, fun i p hp => ?_⟩
          have m := List.mem_cons_of_mem (x, HO.ins C dx (NF kp np)) (List.mem_of_getElem? (nearL_get (g := fun j => nb (sortP ps) (j : Int)) hp))
          exact (new p (fresh_back hnG (S.at_ _ m).1)).trans (S.at_ _ m).2
end
end NX

namespace NX
open PySem PySem.Spec PyProof.Rows L2
open Evl (Ex ex_l ex_t fresh_back)
/-! ### len, ==, != of networks -/
section
variable {X : Cx}
/-- a def runs below the running body -/
theorem run_at {A : Around} {CX : CXT} {k : Nat} {f : Addr} {fd : FuncData} {ps : List Str} {sp : Sp} {E : XK} {pins : List (Addr × Obj)} {σ : L2.St} {H : Hp} {s : Shared} {Q : VK} {us : List Value} {vs : List V} (sb : L2.Sub X k A)
    (F : FnOk X.prog X.w X.K X.mg X.base CX k f fd ps sp) (hb : Binds X.K fd ps []) (hx : Passes CX X E) (I : L2.Inv X pins σ H s) (r : Vals vs us) (h : sp vs H Q E) :
    wpAny (model X.prog X.w) A (call (.ref f) us) (EP X pins σ Q) X.xe s := by
  have e0 : Env0 X.prog X.w X.K X.mg X.base A X.stack s H := by
    have e := I.env0
    exact ⟨by rw [sb.fr]; exact e.frames, e.mod, e.bs, e.bsz, e.funs, e.frf, e.hok, e.bare⟩
  have hl := F.len _ _ _ _ h
  refine wpAny_call (codeAny_mono (F.run A X.stack s H ⟨us, []⟩ us vs Q E sb.room e0 (by
    have := hb s us I.kIn (by rw [List.append_nil, ← r.length]; exact hl)
    simpa using this) r h) fun r s' hq => ?_)
  cases r with
  | error e => exact hx pins σ H s e s' I hq
  | ok fl =>
    cases fl with
    | ret w => exact I.after hq
    | next => exact False.elim hq
    | brk => exact False.elim hq
    | cont => exact False.elim hq
def spLen (C : Addr) : Sp := fun vs H Q _ => ∃ (a : Addr) (n : Nat) (ks : List Pr), vs = [.ref a] ∧ NetAt C H a n ks ∧ Q (.int (n : Int)) H
def spEqN (C : Addr) : Sp := fun vs H Q _ => ∃ (a b : Addr) (n m : Nat) (ks ls : List Pr), vs = [.ref a, .ref b] ∧ NetAt C H a n ks ∧ NetAt C H b m ls ∧ ∀ H', Ex H H' → Q (.bl (decide (n = m ∧ ks = ls))) H'
def rLenNet (C : Addr) : List V → Hp → VK → Prop := fun xs H Q => ∃ (a : Addr) (n : Nat) (ks : List Pr), xs = [.ref a] ∧ NetAt C H a n ks ∧ Q (.int (n : Int)) H
def rEqNet (C : Addr) : R2 := fun x y H Q => ∃ (a b : Addr) (n m : Nat) (ks ls : List Pr), x = .ref a ∧ y = .ref b ∧ NetAt C H a n ks ∧ NetAt C H b m ls ∧ ∀ H', Ex H H' → Q (.bl (decide (n = m ∧ ks = ls))) H'
def rNeNet (C : Addr) : R2 := fun x y H Q => ∃ (a b : Addr) (n m : Nat) (ks ls : List Pr), x = .ref a ∧ y = .ref b ∧ NetAt C H a n ks ∧ NetAt C H b m ls ∧ ∀ H', Ex H H' → Q (.bl (!decide (n = m ∧ ks = ls))) H'
theorem inst_net {pins : List (Addr × Obj)} {σ : L2.St} {H : Hp} {s : Shared} {C a : Addr} {n : Nat} {ks : List Pr} (I : L2.Inv X pins σ H s) (N : NetAt C H a n ks) : ∃ dx od, PySem.W.InstAt s.heap a (PySem.W.instObj C dx) C od := by
  obtain ⟨dx, kp, np, xs, nps, o⟩ := N.at_
  obtain ⟨mA, J, _⟩ := ins_get I.hok o.ins
  obtain ⟨od, J, _⟩ := J.look
  exact ⟨_, _, J⟩
theorem call_lenNet {C : Addr} {k : Nat} (_NC : NetC X.K C) (M : Mth X.prog X.w X.K X.mg X.base k C "__len__" ["self"] (spLen C)) (hr : Room (k + 1) X.A) : CallR X (.builtin "len") (rLenNet C) := by
  intro pins s σ H xs us Q I r h
  obtain ⟨a, n, ks, rfl, N, q⟩ := h
  obtain ⟨f, fd, hm, F, hb⟩ := M
  obtain ⟨u, rfl, ru⟩ := vals1 r
  obtain rfl : u = Value.ref a := ru
  obtain ⟨dx, od, J⟩ := inst_net I N
  obtain ⟨m, hF⟩ := I.fr
  refine PySem.W.len_K hF I.ok.mod.kin J hm.at_ hm.fn (wpAny_mono (run_at (L2.Sub.in1 ⟨hr, rfl⟩) F hb passN I r (Q := fun v H' => v = .int (n : Int) ∧ Q (.int (n : Int)) H') ⟨a, n, ks, rfl, N, rfl, q⟩) (fun v s' z => ?_) fun _ _ z => z)
  obtain ⟨w, H', I', rv, rfl, q'⟩ := z
  obtain ⟨t, rfl⟩ := rv
  refine ⟨⟨by omega, ?_⟩, ⟨V.int (n : Int), H', I'.tok _, ⟨_, rfl⟩, q'⟩⟩
  have := N.sz.2
  omega
theorem notFirst_self {K : PySem.W.Frag} {C : Addr} : PySem.W.notFirst K C (.ref C) = true := by simp [PySem.W.notFirst]
theorem op_eqNet {C : Addr} {k : Nat} (_NC : NetC X.K C) (M : Mth X.prog X.w X.K X.mg X.base k C "__eq__" ["self", "other"] (spEqN C)) (hr : Room (k + 1) X.A) : OpR X (compareOp .Eq) (rEqNet C) := by
  intro pins s σ H x y v u Q I rx ry h
  obtain ⟨a, b, n, m, ks, ls, rfl, rfl, N1, N2, q⟩ := h
  cases rx
  cases ry
  obtain ⟨f, fd, hm, F, hb⟩ := M
  obtain ⟨dx, od, J⟩ := inst_net I N1
  obtain ⟨dy, oe, J'⟩ := inst_net I N2
  obtain ⟨mm, hF⟩ := I.fr
  show wpAny (model X.prog X.w) X.A (richCompare .Eq (.ref a) (.ref b)) (EP X pins σ Q) X.xe s
  have hr0 : Room k X.A := hr.mono (Nat.le_succ k)
  refine PySem.W.cmp_K (op := .Eq) (tb := .ref C) hr.units0 hF I.ok.mod.kin J J'.type notFirst_self hm.at_ hm.fn (wpAny_mono (run_at ⟨hr0, rfl⟩ F hb passN I (vs := [V.ref a, V.ref b]) (.cons rfl (.cons rfl .nil)) (Q := fun v H' => v = .bl (decide (n = m ∧ ks = ls)) ∧ Q v H')
    ⟨a, b, n, m, ks, ls, rfl, N1, N2, fun H' e => ⟨rfl, q H' e⟩⟩) (fun v s' z => ?_) fun _ _ z => z)
  obtain ⟨w, H', I', rv, rfl, q'⟩ := z
  cases rv
  exact ⟨V.bl (decide (n = m ∧ ks = ls)), H', I', rfl, q'⟩
theorem op_neNet {C : Addr} {k : Nat} (NC : NetC X.K C) (M : Mth X.prog X.w X.K X.mg X.base k C "__eq__" ["self", "other"] (spEqN C)) (hr : Room (k + 1) X.A) : OpR X (compareOp .NotEq) (rNeNet C) := by
  intro pins s σ H x y v u Q I rx ry h
  obtain ⟨a, b, n, m, ks, ls, rfl, rfl, N1, N2, q⟩ := h
  cases rx
  cases ry
  obtain ⟨f, fd, hm, F, hb⟩ := M
  obtain ⟨dx, od, J⟩ := inst_net I N1
  obtain ⟨dy, oe, J'⟩ := inst_net I N2
  obtain ⟨mm, hF⟩ := I.fr
  show wpAny (model X.prog X.w) X.A (richCompare .NotEq (.ref a) (.ref b)) (EP X pins σ Q) X.xe s
  refine ne_K (tb := .ref C) (hu_of hr) hF I.ok.mod.kin J J'.type notFirst_self NC.ne NC.hm hm.at_ hm.fn (wpAny_mono (run_at (L2.Sub.in1 ⟨hr, rfl⟩) F hb passN I (vs := [V.ref a, V.ref b]) (.cons rfl (.cons rfl .nil)) (Q := fun v H' => v = .bl (decide (n = m ∧ ks = ls)) ∧ Q (.bl (!decide (n = m ∧ ks = ls))) H')
    ⟨a, b, n, m, ks, ls, rfl, N1, N2, fun H' e => ⟨rfl, q H' e⟩⟩) (fun v s' z => ?_) fun _ _ z => z)
  obtain ⟨w, H', I', rv, rfl, q'⟩ := z
  cases rv
  exact ⟨_, rfl, ⟨V.bl (!decide (n = m ∧ ks = ls)), H', I', rfl, q'⟩⟩
end
section
variable {C a b lp : Addr} {n m : Nat} {ks ls ps : List Pr} {G H : Hp} {L : List (Addr × HO)} {Q : VK} {E : XK} {xs : List V}
theorem n_lenNet (N : NetAt C H a n ks) (k : Q (.int (n : Int)) H) : rLenNet C [.ref a] H Q := ⟨a, n, ks, rfl, N, k⟩
theorem n_eqNet (S : Own G L H) (N1 : NetAt C G a n ks) (N2 : NetAt C G b m ls) (k : ∀ H1, Own G L H1 → Q (.bl (decide (n = m ∧ ks = ls))) H1) : rEqNet C (.ref a) (.ref b) H Q := ⟨a, b, n, m, ks, ls, rfl, rfl, N1.mono S.ex, N2.mono S.ex, fun H' e => k H' (S.grow e)⟩
theorem n_neNet (S : Own G L H) (N1 : NetAt C G a n ks) (N2 : NetAt C G b m ls) (k : ∀ H1, Own G L H1 → Q (.bl (!decide (n = m ∧ ks = ls))) H1) : rNeNet C (.ref a) (.ref b) H Q := ⟨a, b, n, m, ks, ls, rfl, rfl, N1.mono S.ex, N2.mono S.ex, fun H' e => k H' (S.grow e)⟩
theorem NetAt.ins (N : NetAt C H a n ks) {m : Str} (h1 : ¬ m = "near") (h2 : ¬ m = "kept") : INS C m (.ref a) H := by
  obtain ⟨dx, kp, np, xs, nps, o⟩ := N.at_
  exact ⟨a, dx, _, rfl, o.ins, nf_no kp np h1 h2⟩
/-- Network(n, links) -/
theorem n_netN (hlp : H lp = some (.lst xs)) (hl : Lks H xs ps) (hok : Okl n ps) (hnd : ps.Nodup) (hn : 1 ≤ n ∧ n ≤ 60) (hz : ps.length ≤ 10000)
    (k : ∀ x H1, H x = none → Ex H H1 → NetAt C (nw H H1) x n (sortP ps) → Q (.ref x) H1) : MAKE C (spInit C) E [.int (n : Int), .ref lp] H Q := by
  intro x dx hx hdx ne
  have hx' : upd H dx (.own x) x = none := by rw [upd_ne (Ne.symm ne)]; exact hx
  have e1 : Ex H (upd H dx (.own x)) := Ex.new hdx
  exact ⟨x, lp, dx, n, xs, ps, upd H dx (.own x), rfl, (Own.start _).lay hx', e1 _ _ hlp, hl.mono e1, hok, hnd, hn.1, hn.2, hz, fun H' e N => ⟨rfl, k x H' hx (e1.trans e) (N.mono (nw_mono e1))⟩⟩
theorem n_net (S : Own G L H) (hlp : H lp = some (.lst xs)) (hl : Lks H xs ps) (hok : Okl n ps) (hnd : ps.Nodup) (hn : 1 ≤ n ∧ n ≤ 60) (hz : ps.length ≤ 10000)
    (k : ∀ x G1 H1, H x = none → Ex G G1 → Ex H H1 → Own G1 L H1 → NetAt C G1 x n (sortP ps) → Q (.ref x) H1) : MAKE C (spInit C) E [.int (n : Int), .ref lp] H Q :=
  n_netN hlp hl hok hnd hn hz fun x H1 hx e N => by
    obtain ⟨S1, e2, e3⟩ := S.absorb e
    exact k x _ H1 hx e2 e S1 (N.mono e3)
end
end NX

namespace NX
open PySem PySem.Spec PyProof.Rows L2
open Evl (Ex ex_l ex_t fresh_back)
theorem lks_nw {H H' : Hp} (e : Ex H H') {xs : List V} {ks : List Pr} (h : Lks H xs ks) : Lks (nw H H') xs ks := Paired.mapP h fun _ _ ⟨t, a, b⟩ => ⟨t, a, by rw [nw_tup b rfl]; exact e _ _ b⟩
abbrev s_Network_links : Stmt := inClass (top 9) 1
theorem sc_Network_links : FnScope ["self"] ["self"] (defScope s_Network_links) := ⟨rfl, rfl, rfl, by decide +kernel, rfl, by decide +kernel, by decide +kernel⟩
abbrev s_Network_check_station : Stmt := inClass (top 9) 5
theorem sc_Network_check_station : FnScope ["self", "station"] ["self", "station"] (defScope s_Network_check_station) := ⟨rfl, rfl, rfl, by decide +kernel, rfl, by decide +kernel, by decide +kernel⟩
def spLinks (C : Addr) : Sp := fun vs H Q _ => ∃ (a : Addr) (n : Nat) (ks : List Pr), vs = [.ref a] ∧ NetAt C H a n ks ∧ ∀ xs, Lks H xs ks → Ret (.lst xs) H Q
/-- the station is one -/
def spChk (C : Addr) : Sp := fun vs H Q _ => ∃ (a : Addr) (n : Nat) (ks : List Pr) (i : Int), vs = [.ref a, .int i] ∧ NetAt C H a n ks ∧ (0 ≤ i ∧ i < (n : Int)) ∧ ∀ H', Ex H H' → Q .non H'
section
variable {C : Addr} {G H : Hp} {L : List (Addr × HO)} {a : Addr} {n : Nat} {ks : List Pr} {Q : VK} {E : XK}
theorem n_links (S : Own G L H) (N : NetAt C G a n ks) (k : ∀ xs p G1 H1, Lks G1 xs ks → H p = none → Ex G G1 → Ex H H1 → G1 p = some (.lst xs) → Own G1 L H1 → Q (.ref p) H1) : spLinks C [.ref a] H Q E :=
  ⟨a, n, ks, rfl, N.mono S.ex, fun xs hx p H' hp e h => by
    obtain ⟨S1, e1, e2⟩ := S.absorb e
    exact k xs p _ H' ((lks_nw e hx).mono e2) hp e1 e (e2 _ _ ((nw_new hp).trans h)) S1⟩
theorem n_linksO (S : Own G L H) (N : NetAt C G a n ks) (k : ∀ xs p G1 H1, Lks G1 xs ks → H p = none → Ex G G1 → Ex H H1 → Own G1 ((p, .lst xs) :: L) H1 → Q (.ref p) H1) : spLinks C [.ref a] H Q E :=
  n_links S N fun xs p G1 H1 hl hp e1 e2 h S1 => by
    obtain ⟨S2, k2⟩ := S1.thaw h
    refine k xs p _ H1 (Paired.mapP hl fun _ _ ⟨t, b, c⟩ => ⟨t, b, k2 _ _ (fun z => ?_) c⟩) hp (fun b u hb => k2 _ _ (ne_of_none hb (fresh_back S.ex hp)) (e1 _ _ hb)) e2 S2
    rw [z, h] at c
    cases c
theorem n_chk {i : Int} (S : Own G L H) (N : NetAt C G a n ks) (h : 0 ≤ i ∧ i < (n : Int)) (k : ∀ H1, Ex H H1 → Own G L H1 → Q .non H1) : spChk C [.ref a, .int i] H Q E :=
  ⟨a, n, ks, i, rfl, N.mono S.ex, h, fun H' e => k H' e (S.grow e)⟩
end
section
variable {P : Program} {w : World} {K : PySem.W.Frag} {mg : Str → Option Value} {base : Heap} {C : Addr}
theorem ok_links {f : Addr} {fd : FuncData} (F : Fun K "links" "Network.links" s_Network_links f fd) (T : Txt mg) (NC : NetC K C) : FnOk P w K mg base CX0 1 f fd ["self"] (spLinks C) := by
  refine F.ok sc_Network_links (fun vs H Q E h => ?_) (fun cdv A outer s H vs Q E hr h => ?_)
  · obtain ⟨a, n, ks, rfl, _⟩ := h
    rfl
  · obtain ⟨a, n, ks, rfl, N, k⟩ := h
    obtain ⟨dx, kp, np, xs, nps, o⟩ := N.at_
    refine ⟨_, (pss_one (ps_ret (pe_callTy call_listN (by rfl) T.n_list (by decide +kernel) (pa_cons (pe_fld (pv 0) rfl) pa_nil)))), ?_⟩
    walk_at "go"
    refine n_fld o.ins NC.cl NC.nK (nf_kept kp np) ?_
    walk_at "go"
    exact ⟨kp, xs, rfl, .inl (SqL.of o.kept), fun p hp => k xs o.lks p _ hp (Ex.new hp) upd_same⟩
theorem ok_chk {f : Addr} {fd : FuncData} (F : Fun K "check_station" "Network.check_station" s_Network_check_station f fd) (T : Txt mg) (NC : NetC K C) (c_is_int : Cal P w K mg base 1 "is_int" ["value"] [] (spIsInt K)) : FnOk P w K mg base CX0 2 f fd ["self", "station"] (spChk C) := by
  refine F.ok sc_Network_check_station (fun vs H Q E h => ?_) (fun cdv A outer s H vs Q E hr h => ?_)
  · obtain ⟨a, n, ks, i, rfl, _⟩ := h
    rfl
  · obtain ⟨a, n, ks, i, rfl, N, hi, k⟩ := h
    obtain ⟨dx, kp, np, xs, nps, o⟩ := N.at_
    refine ⟨_, (pss_one (ps_if (PW.pt (pw_or (pt_not (pt_val (pe_cal c_is_int (hr.mono (by first | decide | omega)) passN (pa_cons (pv 1) pa_nil)))) (pw_or1 (pt_not (pt_chain op_le op_lt pe_int (pv 1) (pe_callB call_lenN (by rfl) T.n_len (by decide +kernel) (pa_cons (pe_fld (pv 0) rfl) pa_nil))))))) (pss_one ps_never) pss_nil)), ?_⟩
    walk_at "go"
    refine g_isint ?_
    walk_at "go"
    refine if_tt (dtrue (by omega)) ?_
    walk_at "go"
    refine n_fld o.ins NC.cl NC.nN (nf_near kp np) ?_
    walk_at "go"
    refine n_len (SqL.of o.near) ?_
    rw [List.length_map, o.len]
    walk_at "go"
    refine if_ff (ntrue (by omega)) ?_
    walk_at "go"
    exact k H (Ex.refl H)
end
end NX

namespace NX
open PySem PySem.Spec PyProof.Rows L2
open Evl (Ex ex_l ex_t fresh_back)
theorem all_flat (ns : List Int) : (ns.map V.int).all flatV = true := by
  rw [List.all_eq_true]
  intro x hx
  obtain ⟨n, _, rfl⟩ := List.mem_map.mp hx
  rfl
theorem inV_ints (x : Int) (ns : List Int) : inV (.int x) (ns.map V.int) = decide (x ∈ ns) := by
  unfold inV
  rw [List.any_map, Bool.eq_iff_iff, List.any_eq_true]
  simp only [Function.comp, eqV, beq_iff_eq, decide_eq_true_eq]
  exact ⟨fun ⟨y, hy, e⟩ => e ▸ hy, fun h => ⟨x, h, rfl⟩⟩
section
variable {K : PySem.W.Frag} {H : Hp} {p : Addr} {ns : List Int} {x : Int} {Q : VK}
theorem n_inIL (h : SqL K H p (ns.map V.int)) (k : Q (.bl (decide (x ∈ ns))) H) : rIn K false (.int x) (.ref p) H Q := ⟨p, _, rfl, .inl h, rfl, all_flat ns, by rw [inV_ints]; exact k⟩
theorem n_ninIL (h : SqL K H p (ns.map V.int)) (k : Q (.bl (!decide (x ∈ ns))) H) : rIn K true (.int x) (.ref p) H Q := ⟨p, _, rfl, .inl h, rfl, all_flat ns, by rw [inV_ints]; exact k⟩
theorem n_inIT (h : SqT K H p (ns.map V.int)) (k : Q (.bl (decide (x ∈ ns))) H) : rIn K false (.int x) (.ref p) H Q := ⟨p, _, rfl, .inr h, rfl, all_flat ns, by rw [inV_ints]; exact k⟩
theorem n_ninIT (h : SqT K H p (ns.map V.int)) (k : Q (.bl (!decide (x ∈ ns))) H) : rIn K true (.int x) (.ref p) H Q := ⟨p, _, rfl, .inr h, rfl, all_flat ns, by rw [inV_ints]; exact k⟩
end
def spNet (C : Addr) (n : Nat) (ls : List Pr) (H : Hp) (Q : VK) : Prop := ∀ x H', H x = none → Ex H H' → NetAt C (nw H H') x n (sortP ls) → Q (.ref x) H'
theorem n_spNet {C : Addr} {G H : Hp} {L : List (Addr × HO)} {n : Nat} {ls : List Pr} {Q : VK} (S : Own G L H) (k : ∀ x G1 H1, H x = none → Ex G G1 → Ex H H1 → Own G1 L H1 → NetAt C G1 x n (sortP ls) → Q (.ref x) H1) : spNet C n ls H Q := fun x H' hx e N => by
  obtain ⟨S1, e2, e3⟩ := S.absorb e
  exact k x _ H' hx e2 e S1 (N.mono e3)
def spWo (C : Addr) : Sp := fun vs H Q _ => ∃ (a : Addr) (n : Nat) (ks : List Pr) (i : Int), vs = [.ref a, .int i] ∧ NetAt C H a n ks ∧ (0 ≤ i ∧ i < (n : Int)) ∧ 2 ≤ n ∧ spNet C (n - 1) (woL i ks) H Q
def spRen (K : PySem.W.Frag) (C : Addr) : Sp := fun vs H Q _ => ∃ (a p : Addr) (n : Nat) (ks : List Pr) (ns : List Int), vs = [.ref a, .ref p] ∧ NetAt C H a n ks ∧ H p = some (.lst (ns.map V.int)) ∧ IsNames n ns ∧ spNet C n (renL ns ks) H Q
theorem n_wo {C : Addr} {G H : Hp} {L : List (Addr × HO)} {a : Addr} {n : Nat} {ks : List Pr} {i : Int} {Q : VK} {E : XK} (S : Own G L H) (N : NetAt C G a n ks) (hi : 0 ≤ i ∧ i < (n : Int)) (hn : 2 ≤ n)
    (k : ∀ x G1 H1, H x = none → Ex G G1 → Ex H H1 → Own G1 L H1 → NetAt C G1 x (n - 1) (sortP (woL i ks)) → Q (.ref x) H1) : spWo C [.ref a, .int i] H Q E := ⟨a, n, ks, i, rfl, N.mono S.ex, hi, hn, n_spNet S k⟩
theorem n_ren {K : PySem.W.Frag} {C : Addr} {G H : Hp} {L : List (Addr × HO)} {a p : Addr} {n : Nat} {ks : List Pr} {ns : List Int} {Q : VK} {E : XK} (S : Own G L H) (N : NetAt C G a n ks) (hp : H p = some (.lst (ns.map V.int))) (hn : IsNames n ns)
    (k : ∀ x G1 H1, H x = none → Ex G G1 → Ex H H1 → Own G1 L H1 → NetAt C G1 x n (sortP (renL ns ks)) → Q (.ref x) H1) : spRen K C [.ref a, .ref p] H Q E := ⟨a, p, n, ks, ns, rfl, N.mono S.ex, hp, hn, n_spNet S k⟩
theorem ks_len2 {n : Nat} {ks : List Pr} (ok : Okl n ks) (u : Up ks) (d : ks.Nodup) (hn : n ≤ 60) : ks.length ≤ 4000 := by
  -- the links as numbers, all different, below 3600
  have h : (ks.map fun q => q.1 * 60 + q.2).Pairwise (· < ·) := by
    rw [List.pairwise_map]
    have hh := List.pairwise_iff_getElem.mp u
    refine List.pairwise_iff_getElem.mpr fun i j hi hj hij => ?_
    have c := leP_iff.mp (hh i j hi hj hij)
    have b1 := ok _ (List.getElem_mem hi)
    have b2 := ok _ (List.getElem_mem hj)
    have ne : ks[i] ≠ ks[j] := fun e => by have := (List.getElem_inj d).mp e; omega
    have ne' : ¬ (ks[i].1 = ks[j].1 ∧ ks[i].2 = ks[j].2) := fun e => ne (Prod.ext e.1 e.2)
    omega
  have := up_len (lo := 0) (hi := 3660) h fun x hx => by
    obtain ⟨q, hq, rfl⟩ := List.mem_map.mp hx
    have := ok q hq
    omega
  rcases this with e | e
  · have z := congrArg List.length e
    rw [List.length_map] at z
    simp only [List.length_nil] at z
    omega
  · rw [List.length_map] at e
    omega
theorem ks_len {n : Nat} {ks : List Pr} (ok : Okl n ks) (u : Up ks) (d : ks.Nodup) (hn : n ≤ 60) : ks.length ≤ 10000 := Nat.le_trans (ks_len2 ok u d hn) (by decide)
theorem NetAt.len {C : Addr} {H : Hp} {a : Addr} {n : Nat} {ks : List Pr} (N : NetAt C H a n ks) : ks.length ≤ 10000 := ks_len N.ok N.up N.nd N.sz.2
end NX

namespace NX
open PySem PySem.Spec PyProof.Rows L2
open Evl (Ex ex_l ex_t fresh_back)
abbrev s_NoLink___init__ : Stmt := inClass (top 4) 0
theorem sc_NoLink___init__ : FnScope ["self", "link"] ["self", "link"] (defScope s_NoLink___init__) := ⟨rfl, rfl, rfl, by decide +kernel, rfl, by decide +kernel, by decide +kernel⟩
abbrev s_link_of : Stmt := top 11
theorem sc_link_of : FnScope ["network", "one", "other"] ["network", "one", "other"] (defScope s_link_of) := ⟨rfl, rfl, rfl, by decide +kernel, rfl, by decide +kernel, by decide +kernel⟩
abbrev s_linked : Stmt := top 12
theorem sc_linked : FnScope ["network", "one", "other", "link"] ["network", "one", "other"] (defScope s_linked) := ⟨rfl, rfl, rfl, by decide +kernel, rfl, by decide +kernel, by decide +kernel⟩
abbrev s_unlinked : Stmt := top 13
theorem sc_unlinked : FnScope ["network", "one", "other", "link", "kept"] ["network", "one", "other"] (defScope s_unlinked) := ⟨rfl, rfl, rfl, by decide +kernel, rfl, by decide +kernel, by decide +kernel⟩
/-- NoLink((i, j)) gets out -/
def ThrL (E : XK) (CL : Addr) (i j : Int) (H : Hp) : Prop := ∀ d t H', Ex H H' → H' d = some (.xd [("link", .ref t)]) → H' t = some (.tup [.int i, .int j]) → E (.ref CL) (some d) H'
theorem ThrL.mono {E : XK} {CL : Addr} {i j : Int} {H H1 : Hp} (h : ThrL E CL i j H) (e : Ex H H1) : ThrL E CL i j H1 := fun d t H' e' => h d t H' (e.trans e')
def spLinkOf (C CL : Addr) : Sp := fun vs H Q E => ∃ (a : Addr) (n : Nat) (ks : List Pr) (i j : Int), vs = [.ref a, .int i, .int j] ∧ NetAt C H a n ks ∧ (0 ≤ i ∧ i < (n : Int)) ∧ (0 ≤ j ∧ j < (n : Int)) ∧
  (i = j → ThrL E CL i j H) ∧ (i ≠ j → ∀ t H', Ex H H' → H' t = some (.tup [.int (min i j), .int (max i j)]) → Q (.ref t) H')
def spLinked (C CL : Addr) : Sp := fun vs H Q E => ∃ (a : Addr) (n : Nat) (ks : List Pr) (i j : Int), vs = [.ref a, .int i, .int j] ∧ NetAt C H a n ks ∧ (0 ≤ i ∧ i < (n : Int)) ∧ (0 ≤ j ∧ j < (n : Int)) ∧
  (i = j ∨ mmP i j ∈ ks → ThrL E CL i j H) ∧ (i ≠ j → mmP i j ∉ ks → spNet C n (ks ++ [mmP i j]) H Q)
def spUnlinked (C CL : Addr) : Sp := fun vs H Q E => ∃ (a : Addr) (n : Nat) (ks : List Pr) (i j : Int), vs = [.ref a, .int i, .int j] ∧ NetAt C H a n ks ∧ (0 ≤ i ∧ i < (n : Int)) ∧ (0 ≤ j ∧ j < (n : Int)) ∧
  (mmP i j ∉ ks → ThrL E CL i j H) ∧ (mmP i j ∈ ks → spNet C n (ks.filter fun q => !decide (q = mmP i j)) H Q)
theorem okl_lenN {C : Addr} {H : Hp} {a : Addr} {n : Nat} {ks : List Pr} (N : NetAt C H a n ks) : ks.length ≤ 9000 := by
  have := ks_len2 N.ok N.up N.nd N.sz.2
  omega
theorem n_inP {K : PySem.W.Frag} {H : Hp} {t p : Addr} {q : Pr} {xs : List V} {ps : List Pr} {Q : VK} (ht : H t = some (.tup [.int q.1, .int q.2])) (hp : SqL K H p xs) (hl : Lks H xs ps) (k : Q (.bl (decide (q ∈ ps))) H) : rInD K (.ref t) (.ref p) H Q :=
  ⟨pd q, ps.map pd, dp_pr ⟨t, rfl, ht⟩, .lst hp (dp_lks hl), shaped_pd q, shaped_lks ps, by rw [any_pd]; exact k⟩
theorem n_ninP {K : PySem.W.Frag} {H : Hp} {t p : Addr} {q : Pr} {xs : List V} {ps : List Pr} {Q : VK} (ht : H t = some (.tup [.int q.1, .int q.2])) (hp : SqL K H p xs) (hl : Lks H xs ps) (k : Q (.bl (!decide (q ∈ ps))) H) : rNotInD K (.ref t) (.ref p) H Q :=
  ⟨pd q, ps.map pd, dp_pr ⟨t, rfl, ht⟩, .lst hp (dp_lks hl), shaped_pd q, shaped_lks ps, by rw [any_pd]; exact k⟩
theorem n_nePr {K : PySem.W.Frag} {H : Hp} {t u : Addr} {q r : Pr} {Q : VK} (ht : H t = some (.tup [.int q.1, .int q.2])) (hu : H u = some (.tup [.int r.1, .int r.2])) (k : Q (.bl (!decide (q = r))) H) : rNeD K (.ref t) (.ref u) H Q :=
  ⟨pd q, pd r, dp_pr ⟨t, rfl, ht⟩, dp_pr ⟨u, rfl, hu⟩, shaped_pd q, shaped_pd r, by rw [eqv_pd]; exact k⟩
section
variable {P : Program} {w : World} {K : PySem.W.Frag} {mg : Str → Option Value} {base : Heap} {C CL C0 : Addr}
theorem ok_ini_NoLink {f : Addr} {fd : FuncData} (F : Fun K "__init__" "NoLink.__init__" s_NoLink___init__ f fd) (m_ChannelError : mg "ChannelError" = some (.ref C0)) (BC : BaseC K C0) (hno : PySem.W.findIn K (.ref CL) "link" = some none) : FnOk P w K mg base CX0 1 f fd ["self", "link"] (spExInit K CL "link") := by
  refine F.ok sc_NoLink___init__ (fun vs H Q E h => ?_) (fun cdv A outer s H vs Q E hr h => ?_)
  · obtain ⟨a, v, rfl, _⟩ := h
    rfl
  · obtain ⟨a, v, rfl, ha, T, k⟩ := h
    refine ⟨_, (pss_cons (ps_expr (pe_oeinit (K := K) m_ChannelError BC (pa_cons (pv 0) (pa_cons pe_str pa_nil))))
      (pss_one (ps_ost (pv 0) (pv 1) rfl))), ?_⟩
    walk_at "go"
    refine n_vei ?_
    walk_at "go"
    refine ⟨a, CL, _, rfl, by simp, T, ha, ?_⟩
    refine s_ost ?_
    walk_at "go"
    exact ⟨a, CL, rfl, T, hno, .inl ⟨ha, fun dx h1 h2 => k dx h1 h2⟩⟩
theorem ok_linkOf {f : Addr} {fd : FuncData} (F : Fun K "link_of" "link_of" s_link_of f fd) (T : Txt mg) (NC : NetC K C) (M_check_station : Mth P w K mg base 2 C "check_station" ["self", "station"] (spChk C)) (X_NoLink : Exn P w K mg base "NoLink" CL "link") : FnOk P w K mg base (L2.CX P w) 4 f fd ["network", "one", "other"] (spLinkOf C CL) := by
  refine F.okX sc_link_of (fun vs H Q E h => ?_) (fun cdv A outer s H vs Q E hr h => ?_)
  · obtain ⟨a, n, ks, i, j, rfl, _⟩ := h
    rfl
  · obtain ⟨a, n, ks, i, j, rfl, N, hi, hj, kE, k⟩ := h
    refine ⟨_, (pss_cons (ps_expr (pe_mth (pv 0) M_check_station NC.cl (hr.mono (by first | decide | omega)) passN (pa_cons (pv 1) pa_nil)))
      (pss_cons (ps_expr (pe_mth (pv 0) M_check_station NC.cl (hr.mono (by first | decide | omega)) passN (pa_cons (pv 2) pa_nil)))
      (pss_cons (ps_if (pt_cmpR op_eq (pv 1) (pv 2) (nomark _)) (pss_one (ps_raiseE (K := K) rfl (takes_of rfl rfl rfl rfl) X_NoLink (hr.mono (by first | decide | omega)) (pa_cons (pe_tup (pa_cons (pv 1) (pa_cons (pv 2) pa_nil))) pa_nil))) pss_nil)
      (pss_one (ps_ret (pe_tup (pa_cons (pe_callB (call_minN rfl) (by rfl) T.n_min (by decide +kernel) (pa_cons (pv 1) (pa_cons (pv 2) pa_nil))) (pa_cons (pe_callB (call_maxN rfl) (by rfl) T.n_max (by decide +kernel) (pa_cons (pv 1) (pa_cons (pv 2) pa_nil))) pa_nil)))))))), ?_⟩
    walk_at "go"
    refine ⟨N.ins (by decide) (by decide), ?_⟩
    walk_at "go"
    refine n_chk (Own.start H) N hi fun H1 e1 S1 => ?_
    walk_at "go"
    refine ⟨(N.mono e1).ins (by decide) (by decide), ?_⟩
    walk_at "go"
    refine n_chk S1 N hj fun H2 e2 S2 => ?_
    walk_at "go"
    refine if_2 (fun c => ?_) (fun c => ?_)
    · have c := of_decide_eq_true c
      refine s_raiseE ?_
      walk_at "go"
      refine n_tup S2 (by show 2 ≤ 10000000; decide) fun t G3 H3 _ _ e3 ht S3 => ?_
      walk_at "go"
      refine n_raise X_NoLink.oex fun d H4 _ e4 hd => ?_
      exact kE c d t H4 (((e1.trans e2).trans e3).trans e4) hd (e4 _ _ (S3.ex _ _ ht))
    · have c := of_decide_eq_false c
      walk_at "go"
      refine n_tup S2 (by show 2 ≤ 10000000; decide) fun t G3 H3 _ _ e3 ht S3 => ?_
      exact k c t H3 ((e1.trans e2).trans e3) (S3.ex _ _ ht)
theorem ok_linked {f : Addr} {fd : FuncData} (F : Fun K "linked" "linked" s_linked f fd) (T : Txt mg) (NC : NetC K C) (M_len : Mth P w K mg base 1 C "__len__" ["self"] (spLen C)) (M_links : Mth P w K mg base 1 C "links" ["self"] (spLinks C))
    (c_Network : Cnw P w K mg base 3 "Network" C ["self", "stations", "links"] (spInit C)) (c_link_of : Cal P w K mg base 4 "link_of" ["network", "one", "other"] [] (spLinkOf C CL)) (X_NoLink : Exn P w K mg base "NoLink" CL "link") : FnOk P w K mg base (L2.CX P w) 5 f fd ["network", "one", "other"] (spLinked C CL) := by
  refine F.okX sc_linked (fun vs H Q E h => ?_) (fun cdv A outer s H vs Q E hr h => ?_)
  · obtain ⟨a, n, ks, i, j, rfl, _⟩ := h
    rfl
  · obtain ⟨a, n, ks, i, j, rfl, N, hi, hj, kE, k⟩ := h
    have hu65 : ∀ X : Cx, X.A = A.deeper (envOfC "linked" (defScope s_linked) s.heap.objs.size f cdv) → X.A.units + 65 < cLine := fun X e => by rw [e]; have := hr.un; omega
    have hz := okl_lenN N
    refine ⟨_, (pss_cons (ps_set (i := 3) sc_linked.nd rfl (Or.inl rfl) (pe_cal c_link_of (hr.mono (by first | decide | omega)) (passE (takes_of rfl rfl rfl rfl) fun _ _ _ _ z => z) (pa_cons (pv 0) (pa_cons (pv 1) (pa_cons (pv 2) pa_nil)))))
      (pss_cons (ps_if (pt_cmpR (op_inD (hu65 _ rfl)) (pv 3) (pe_mth0 (pv 0) M_links NC.cl (hr.mono (by first | decide | omega)) passN) rfl) (pss_one (ps_raiseE (K := K) rfl (takes_of rfl rfl rfl rfl) X_NoLink (hr.mono (by first | decide | omega)) (pa_cons (pe_tup (pa_cons (pv 1) (pa_cons (pv 2) pa_nil))) pa_nil))) pss_nil)
      (pss_one (ps_ret (pe_new c_Network (hr.mono (by first | decide | omega)) passN (pa_cons (pe_callB (call_lenNet NC M_len (hr.mono (by first | decide | omega))) (by rfl) T.n_len (by decide +kernel) (pa_cons (pv 0) pa_nil)) (pa_cons (pe_op op_catL (pe_mth0 (pv 0) M_links NC.cl (hr.mono (by first | decide | omega)) passN) (pe_lst (pa_cons (pv 3) pa_nil))) pa_nil))))))), ?_⟩
    walk_at "go"
    refine ⟨a, n, ks, i, j, rfl, N, hi, hj, fun e => kE (.inl e), fun ne t H1 e1 ht => ?_⟩
    walk_at "go"
    have S1 := (Own.start H).grow e1
    obtain ⟨S1, ez, ey⟩ := (Own.start H).absorb e1
    have ht1 := ey _ _ (nw_tup' e1 ht)
    generalize cut H1 ([] : List (Addr × HO)) = G1 at S1 ez ey ht1
    refine ⟨(N.mono e1).ins (by decide) (by decide), ?_⟩
    walk_at "go"
    refine n_links S1 (N.mono ez) fun xs p G2 H2 hl _ e2 e2' hp S2 => ?_
    refine n_inP (q := mmP i j) (S2.ex _ _ (e2 _ _ ht1)) (SqL.of (S2.ex _ _ hp)) (hl.mono S2.ex) ?_
    walk_at "go"
    refine if_2 (fun c => ?_) (fun c => ?_)
    · have c := of_decide_eq_true c
      refine s_raiseE ?_
      walk_at "go"
      refine n_tup S2 (by show 2 ≤ 10000000; decide) fun t G3 H3 _ _ e3 ht S3 => ?_
      walk_at "go"
      refine n_raise X_NoLink.oex fun d H4 _ e4 hd => ?_
      exact kE (.inr c) d t H4 (((e1.trans e2').trans e3).trans e4) hd (e4 _ _ (S3.ex _ _ ht))
    · have c := of_decide_eq_false c
      walk_at "go"
      refine n_lenNet (N.mono (e1.trans e2')) ?_
      walk_at "go"
      have N2 := N.mono (ez.trans e2)
      refine ⟨(N2.mono S2.ex).ins (by decide) (by decide), ?_⟩
      walk_at "go"
      refine n_links S2 N2 fun xs5 p5 G5 H5 hl5 _ e5 e5' hp5 S5 => ?_
      walk_at "go"
      refine n_lst S5 (by show 1 ≤ 10000000; decide) fun q6 H6 _ S6 => ?_
      refine n_cat S6 (SqL.of (S6.ex _ _ hp5)) S6.l0 (by rw [pr_len hl5, List.length_singleton]; omega) fun q7 H7 _ S7 => ?_
      walk_at "go"
      have eH7 : Ex H H7 := (ez.trans (e2.trans e5)).trans S7.ex
      have b1 : 0 ≤ min i j ∧ min i j < max i j ∧ max i j < (n : Int) := by omega
      refine n_netN (ps := ks ++ [mmP i j]) S7.get0 (pr_app (hl5.mono S7.ex) (.cons ⟨t, rfl, S7.ex _ _ (e5 _ _ (e2 _ _ ht1))⟩ .nil)) (fun q hq => ?_) ?_ N.sz (by rw [List.length_append, List.length_singleton]; omega) fun x H8 hx e8 N8 => ?_
      · rcases List.mem_append.mp hq with hq | hq
        · exact N.ok q hq
        · have hq : q = mmP i j := by simpa using hq
          subst hq
          exact b1
      · refine List.nodup_append.mpr ⟨N.nd, by simp, fun x hx y hy e => ?_⟩
        have hy : y = mmP i j := by simpa using hy
        rw [e, hy] at hx
        exact c hx
      · exact k ne c x H8 (fresh_back eH7 hx) (eH7.trans e8) (N8.mono (nw_mono eH7))
theorem ok_unlinked {f : Addr} {fd : FuncData} (F : Fun K "unlinked" "unlinked" s_unlinked f fd) (T : Txt mg) (NC : NetC K C) (M_len : Mth P w K mg base 1 C "__len__" ["self"] (spLen C)) (M_links : Mth P w K mg base 1 C "links" ["self"] (spLinks C))
    (c_Network : Cnw P w K mg base 3 "Network" C ["self", "stations", "links"] (spInit C)) (c_link_of : Cal P w K mg base 4 "link_of" ["network", "one", "other"] [] (spLinkOf C CL)) (X_NoLink : Exn P w K mg base "NoLink" CL "link") : FnOk P w K mg base (L2.CX P w) 5 f fd ["network", "one", "other"] (spUnlinked C CL) := by
  refine F.okX sc_unlinked (fun vs H Q E h => ?_) (fun cdv A outer s H vs Q E hr h => ?_)
  · obtain ⟨a, n, ks, i, j, rfl, _⟩ := h
    rfl
  · obtain ⟨a, n, ks, i, j, rfl, N, hi, hj, kE, k⟩ := h
    have hu65 : ∀ X : Cx, X.A = A.deeper (envOfC "unlinked" (defScope s_unlinked) s.heap.objs.size f cdv) → X.A.units + 65 < cLine := fun X e => by rw [e]; have := hr.un; omega
    have hz := N.len
    have hself : i = j → mmP i j ∉ ks := fun e m => by
      have := N.ok _ m
      subst e
      unfold mmP at this
      simp only at this
      omega
    refine ⟨_, (pss_cons (ps_set (i := 3) sc_unlinked.nd rfl (Or.inr rfl) (pe_cal c_link_of (hr.mono (by first | decide | omega)) (passE (takes_of rfl rfl rfl rfl) fun _ _ _ _ z => z) (pa_cons (pv 0) (pa_cons (pv 1) (pa_cons (pv 2) pa_nil)))))
      (pss_cons (ps_if (pt_cmpR (op_notInD (hu65 _ rfl)) (pv 3) (pe_mth0 (pv 0) M_links NC.cl (hr.mono (by first | decide | omega)) passN) rfl) (pss_one (ps_raiseE (K := K) rfl (takes_of rfl rfl rfl rfl) X_NoLink (hr.mono (by first | decide | omega)) (pa_cons (pe_tup (pa_cons (pv 1) (pa_cons (pv 2) pa_nil))) pa_nil))) pss_nil)
      (pss_one (ps_ret (pe_new c_Network (hr.mono (by first | decide | omega)) passN (pa_cons (pe_callB (call_lenNet NC M_len (hr.mono (by first | decide | omega))) (by rfl) T.n_len (by decide +kernel) (pa_cons (pv 0) pa_nil)) (pa_cons (pe_lc (own := [("kept", 4)]) (by rfl) sc_unlinked.nd (pi_list (pe_mth0 (pv 0) M_links NC.cl (hr.mono (by first | decide | omega)) passN)) (blkOk_by (own := [("kept", 4)]) (N := ["network", "one", "other", "link", "kept"]) (sc := defScope s_unlinked) (by decide +kernel)) (fun _ _ _ _ _ => (pg_name (i := 4) sc_unlinked.nd rfl (Or.inl rfl))) (fun _ _ _ _ _ => (pts_one (pt_cmpR (op_neDK (K := K) (Nat.lt_of_succ_lt (hu65 _ rfl))) (pv 4) (pv 3) (nomark _)))) (fun _ _ _ _ _ => (pv 4))) pa_nil))))))), ?_⟩
    walk_at "go"
    refine ⟨a, n, ks, i, j, rfl, N, hi, hj, fun e => kE (hself e), fun ne t H1 e1 ht => ?_⟩
    walk_at "go"
    obtain ⟨S1, ez, ey⟩ := (Own.start H).absorb e1
    have ht1 := ey _ _ (nw_tup' e1 ht)
    generalize cut H1 ([] : List (Addr × HO)) = G1 at S1 ez ey ht1
    refine ⟨(N.mono e1).ins (by decide) (by decide), ?_⟩
    walk_at "go"
    refine n_links S1 (N.mono ez) fun xs p G2 H2 hl _ e2 e2' hp S2 => ?_
    refine n_ninP (q := mmP i j) (S2.ex _ _ (e2 _ _ ht1)) (SqL.of (S2.ex _ _ hp)) (hl.mono S2.ex) ?_
    walk_at "go"
    refine if_2 (fun c => ?_) (fun c => ?_)
    · have c : mmP i j ∉ ks := fun m => by rw [dtrue m] at c; cases c
      refine s_raiseE ?_
      walk_at "go"
      refine n_tup S2 (by show 2 ≤ 10000000; decide) fun t G3 H3 _ _ e3 ht S3 => ?_
      walk_at "go"
      refine n_raise X_NoLink.oex fun d H4 _ e4 hd => ?_
      exact kE c d t H4 (((e1.trans e2').trans e3).trans e4) hd (e4 _ _ (S3.ex _ _ ht))
    · have c : mmP i j ∈ ks := Classical.byContradiction fun m => by rw [dfalse m] at c; cases c
      walk_at "go"
      refine n_lenNet (N.mono (e1.trans e2')) ?_
      walk_at "go"
      have N2 := N.mono (ez.trans e2)
      refine ⟨(N2.mono S2.ex).ins (by decide) (by decide), ?_⟩
      walk_at "go"
      refine n_links S2 N2 fun xs5 p5 G5 H5 hl5 _ e5 e5' hp5 S5 => ?_
      walk_at "go"
      refine v_list (xs := xs5) (fun m acc G' L' => L' = [] ∧ Lks G' acc ((ks.take m).filter fun q => !decide (q = mmP i j))) S5 (SqL.of hp5) (by rw [pr_len hl5]; omega) ⟨rfl, .nil⟩ ?_ ?_
      · rintro D m x acc G' L' H' hx hm e' hl' ⟨rfl, ha⟩ S'
        obtain ⟨q, hq, u, rfl, hu⟩ := pr_get hl5 hx
        walk_at "go"
        refine ⟨rfl, ?_⟩
        walk_at "go"
        refine n_nePr (q := q) (r := mmP i j) (S'.ex _ _ (e' _ _ hu)) (S'.ex _ _ (e' _ _ (e5 _ _ (e2 _ _ ht1)))) ?_
        walk_at "go"
        have e4 : (ks.take (m + 1)).filter (fun q => !decide (q = mmP i j)) = (ks.take m).filter (fun q => !decide (q = mmP i j)) ++ [q].filter (fun q => !decide (q = mmP i j)) := by rw [take_snoc hq, List.filter_append]
        refine if_2 (fun c => ?_) (fun c => ?_)
        · walk_at "go"
          refine c_yes S' e' hl' hm ⟨rfl, ?_⟩
          rw [e4, List.filter_cons, if_pos c]
          exact pr_snoc ha ⟨u, rfl, e' _ _ hu⟩
        · refine c_no S' e' hl' ⟨rfl, ?_⟩
          rw [e4, List.filter_cons, if_neg (by rw [c]; exact Bool.false_ne_true)]
          show Lks G' acc (_ ++ [])
          rw [List.append_nil]
          exact ha
      · rintro p6 acc G6 L6 H6 e6 hl6 ⟨rfl, ha⟩ S6
        rw [pr_len hl5, List.take_length] at ha
        walk_at "go"
        have eH6 : Ex H H6 := (ez.trans (e2.trans (e5.trans e6))).trans S6.ex
        refine n_netN S6.get0 (ha.mono S6.ex) (fun q hq => N.ok q (List.mem_filter.mp hq).1) (nd_filter N.nd) N.sz (Nat.le_trans (List.length_filter_le ..) hz) fun x H8 hx e8 N8 => ?_
        exact k c x H8 (fresh_back eH6 hx) (eH6.trans e8) (N8.mono (nw_mono eH6))
end
end NX

namespace NX
open PySem PySem.Spec PyProof.Rows L2
open Evl (Ex ex_l ex_t fresh_back)
abbrev s__law_refused : Stmt := top 24
theorem sc__law_refused : FnScope ["_law_way", "_law_network", "_law_one", "_law_two", "e"] ["_law_way", "_law_network", "_law_one", "_law_two"] (defScope s__law_refused) := ⟨rfl, rfl, rfl, by decide +kernel, rfl, by decide +kernel, by decide +kernel⟩
abbrev s__law_pair_right : Stmt := top 25
theorem sc__law_pair_right : FnScope ["_law_network", "_law_size", "_law_links_here", "_law_one", "_law_two", "_law_link", "_law_there", "_law_kept", "_law_due", "_law_told", "_law_before", "_law_after_it", "_law_some", "_law_way", "_law_old", "_law_low", "_law_high"] ["_law_network", "_law_size", "_law_links_here", "_law_one", "_law_two"] (defScope s__law_pair_right) := ⟨rfl, rfl, rfl, by decide +kernel, rfl, by decide +kernel, by decide +kernel⟩
/-- linked (way 0) or unlinked is refused: the link that the error names -/
def spRefused (C : Addr) : Sp := fun vs H Q _ => ∃ (wy : Int) (a : Addr) (n : Nat) (ks : List Pr) (i j : Int), vs = [.int wy, .ref a, .int i, .int j] ∧ NetAt C H a n ks ∧ (0 ≤ i ∧ i < (n : Int)) ∧ (0 ≤ j ∧ j < (n : Int)) ∧
  ((wy = 0 ∧ (i = j ∨ mmP i j ∈ ks)) ∨ (wy ≠ 0 ∧ mmP i j ∉ ks)) ∧ ∀ t H', Ex H H' → H' t = some (.tup [.int i, .int j]) → Q (.ref t) H'
section
variable {P : Program} {w : World} {K : PySem.W.Frag} {mg : Str → Option Value} {base : Heap} {C CL : Addr}
theorem ok_refused {f : Addr} {fd : FuncData} (F : Fun K "_law_refused" "_law_refused" s__law_refused f fd) (T : Txt mg) (c_linked : Cal P w K mg base 5 "linked" ["network", "one", "other"] [] (spLinked C CL)) (c_unlinked : Cal P w K mg base 5 "unlinked" ["network", "one", "other"] [] (spUnlinked C CL))
    (m_NoLink : mg "NoLink" = some (.ref CL)) (XF_NoLink : XfC K CL) (XN_NoLink : PySem.W.findIn K (.ref CL) "link" = some none) (te : PySem.W.exmOne K (.ref CL) (.ref CL) = some true) : FnOk P w K mg base CX0 6 f fd ["_law_way", "_law_network", "_law_one", "_law_two"] (spRefused C) := by
  refine F.ok sc__law_refused (fun vs H Q E h => ?_) (fun cdv A outer s H vs Q E hr h => ?_)
  · obtain ⟨wy, a, n, ks, i, j, rfl, _⟩ := h
    rfl
  · obtain ⟨wy, a, n, ks, i, j, rfl, N, hi, hj, hc, k⟩ := h
    refine ⟨_, (pss_cons (ps_try_as (i := 4) rfl rfl sc__law_refused.nd rfl rfl ⟨rfl, by decide, Or.inl m_NoLink⟩ takes0 (fun W pn xe tk _ => (pss_one (ps_if (pt_cmpR op_eq (pv 0) pe_int (nomark _)) (pss_one (ps_expr (pe_calS c_linked (hr.mono (by first | decide | omega)) (fun σ => passAt tk σ) (pa_cons (pv 1) (pa_cons (pv 2) (pa_cons (pv 3) pa_nil)))))) (pss_one (ps_expr (pe_calS c_unlinked (hr.mono (by first | decide | omega)) (fun σ => passAt tk σ) (pa_cons (pv 1) (pa_cons (pv 2) (pa_cons (pv 3) pa_nil))))))))) (fun a oe cls d pn hz hf => (pss_one (ps_ret (pe_xf XF_NoLink XN_NoLink hz hf (pv 4))))))
      (pss_one (ps_ret pe_non))), ?_⟩
    walk_at "go"
    refine if_2 (fun c => ?_) (fun c => ?_)
    · have c := of_decide_eq_true c
      walk_at "go"
      refine g_calS ?_
      walk_at "go"
      have hc' : i = j ∨ mmP i j ∈ ks := by
        rcases hc with h | h
        · exact h.2
        · exact absurd c h.1
      refine ⟨a, n, ks, i, j, rfl, N, hi, hj, fun _ d t H1 e1 hd ht => n_as te fun a0 _ => ?_, fun ne m => absurd hc' (by rintro (h | h); exact ne h; exact m h)⟩
      walk_at "go"
      refine g_xf ?_
      walk_at "go"
      exact n_xf hd (k t H1 e1 ht)
    · have c := of_decide_eq_false c
      walk_at "go"
      refine g_calS ?_
      walk_at "go"
      have hc' : mmP i j ∉ ks := by
        rcases hc with h | h
        · exact absurd h.1 c
        · exact h.2
      refine ⟨a, n, ks, i, j, rfl, N, hi, hj, fun _ d t H1 e1 hd ht => n_as te fun a0 _ => ?_, fun m => absurd m hc'⟩
      walk_at "go"
      refine g_xf ?_
      walk_at "go"
      exact n_xf hd (k t H1 e1 ht)
end
end NX

namespace NX
open PySem PySem.Spec PyProof.Rows L2
open Evl (Ex ex_l ex_t fresh_back)
abbrev s_chain : Stmt := top 15
theorem sc_chain : FnScope ["numbers", "found", "number"] ["numbers"] (defScope s_chain) := ⟨rfl, rfl, rfl, by decide +kernel, rfl, by decide +kernel, by decide +kernel⟩
def spChain (K : PySem.W.Frag) : Sp := fun vs H Q _ => ∃ (p : Addr) (ns : List Int), vs = [.ref p] ∧ SqL K H p (ns.map V.int) ∧ ∀ g H', Ex H H' → IsCh ns g → Q (.int g) H'
theorem n_chain {K : PySem.W.Frag} {G H : Hp} {L : List (Addr × HO)} {p : Addr} {ns : List Int} {Q : VK} {E : XK} (S : Own G L H) (h : SqL K H p (ns.map V.int)) (k : ∀ g H1, Ex H H1 → IsCh ns g → Own G L H1 → Q (.int g) H1) : spChain K [.ref p] H Q E :=
  ⟨p, ns, rfl, h, fun g H' e c => k g H' e c (S.grow e)⟩
section
variable {P : Program} {w : World} {K : PySem.W.Frag} {mg : Str → Option Value} {base : Heap}
theorem ok_chain {f : Addr} {fd : FuncData} (F : Fun K "chain" "chain" s_chain f fd) (T : Txt mg) : FnOk P w K mg base CX0 1 f fd ["numbers"] (spChain K) := by
  refine F.ok sc_chain (fun vs H Q E h => ?_) (fun cdv A outer s H vs Q E hr h => ?_)
  · obtain ⟨p, ns, rfl, _⟩ := h
    rfl
  · obtain ⟨p, ns, rfl, hp, k⟩ := h
    refine ⟨_, (pss_cons (ps_set (i := 1) sc_chain.nd rfl (Or.inl rfl) pe_int)
      (pss_cons (ps_for PassesOwn.never rfl (pi_list (pe_callB cr_sortedI (by rfl) T.n_sorted (by decide +kernel) (pa_cons (pv 0) pa_nil))) (pg_name (i := 2) sc_chain.nd rfl (Or.inl rfl)) (pss_one (ps_if (pt_cmpR op_gt (pv 2) (pv 1) (nomark _)) (pss_one (ps_aug (i := 1) sc_chain.nd rfl (Or.inl rfl) pe_int ip_add)) pss_nil)))
      (pss_one (ps_ret (pv 1))))), ?_⟩
    walk_at "go"
    refine n_sortI (Own.start H) hp fun ms q G1 H1 hpm hs _ e1 _ hq S1 => ?_
    walk_at "go"
    refine w_list (xs := ms.map V.int) (fun i σ' H' => (∃ g x, σ' = [some (.ref p), some (.int g), x] ∧ IsCh (ms.take i) g) ∧ Own G1 [] H') (SqL.of (S1.ex _ _ hq)) ⟨⟨0, _, rfl, IsCh.nil⟩, S1⟩ (fun i σ' H' h => SqL.of (h.2.ex _ _ hq)) ?_ ?_
    · rintro i y σ' H' hy ⟨⟨g, x, rfl, hc⟩, S⟩
      obtain ⟨z, hz, rfl⟩ := get_map hy
      have hc' := IsCh.snoc (x := z) hc fun y hy => by
        obtain ⟨j, hj, e⟩ := List.mem_iff_getElem.mp hy
        have hj' : j < i ∧ j < ms.length := by rw [List.length_take] at hj; omega
        rw [List.getElem_take] at e
        obtain ⟨hi, ez⟩ := List.getElem?_eq_some_iff.mp hz
        have := List.pairwise_iff_getElem.mp hs j i hj'.2 hi hj'.1
        omega
      rw [← take_snoc hz] at hc'
      walk_at "go"
      refine if_2 (fun e => ?_) (fun e => ?_)
      · have e := of_decide_eq_true e
        walk_at "go"
        rw [if_pos e] at hc'
        exact ⟨⟨_, _, rfl, hc'⟩, S⟩
      · have e := of_decide_eq_false e
        walk_at "go"
        rw [if_neg e] at hc'
        exact ⟨⟨_, _, rfl, hc'⟩, S⟩
    · rintro σ' H' ⟨⟨g, x, rfl, hc⟩, S⟩
      rw [List.length_map, List.take_length] at hc
      walk_at "go"
      exact k g _ (e1.trans S.ex) (hc.perm hpm)
end
end NX

namespace NX
open PySem PySem.Spec PyProof.Rows L2
open Evl (Ex ex_l ex_t fresh_back)
/-! ### greatest_channels: the table -/
/-- one step of the table -/
def StepT (n : Nat) (ks : List Pr) (t t' : List Int) : Prop := t'.length = n ∧ ∀ i : Nat, i < n → IsCh ((nb ks (i : Int)).map (tv t)) (tv t' (i : Int) - 1)
def TabF (n : Nat) (ks : List Pr) (t : List Int) : Prop := StepT n ks t t
def LowT (n : Nat) (ks : List Pr) (t : List Int) : Prop := t.length = n ∧ (∀ i : Nat, i < n → 0 ≤ tv t (i : Int)) ∧ ∀ t', StepT n ks t t' → ∀ i : Nat, i < n → tv t' (i : Int) ≤ tv t (i : Int)
theorem nb_nat {n : Nat} {ks : List Pr} (h : Okl n ks) {i x : Int} (m : x ∈ nb ks i) : ∃ j : Nat, x = (j : Int) ∧ j < n := by
  have := nb_rng h m
  exact ⟨x.toNat, by omega, by omega⟩
theorem low_step {n : Nat} {ks : List Pr} {t t' : List Int} (ok : Okl n ks) (h : LowT n ks t) (s : StepT n ks t t') : LowT n ks t' := by
  refine ⟨s.1, fun i hi => by have := (s.2 i hi).1; omega, fun t'' s' i hi => ?_⟩
  have := IsCh.mono (f := tv t') (g := tv t) (List.Sublist.refl _) (fun x hx => by
    obtain ⟨j, rfl, hj⟩ := nb_nat ok hx
    exact h.2.2 t' s j hj) (s'.2 i hi) (s.2 i hi)
  omega
theorem low_sum {n : Nat} {ks : List Pr} {t t' : List Int} (h : LowT n ks t) (s : StepT n ks t t') : 0 ≤ t'.sum ∧ t'.sum ≤ t.sum ∧ (t' ≠ t → t'.sum < t.sum) := by
  have z := sum_le (s := t') (t := t) (s.1.trans h.1.symm) fun i hi => h.2.2 t' s i (by have := s.1; omega)
  exact ⟨sum_nn fun i hi => by have := (s.2 i (by have := s.1; omega)).1; omega, z⟩
theorem low_start {n : Nat} {ks : List Pr} {t : List Int} (h : t.length = n) (e : ∀ i : Nat, i < n → tv t (i : Int) = ((nb ks (i : Int)).length : Int) + 1) : LowT n ks t :=
  ⟨h, fun i hi => by rw [e i hi]; omega, fun t' s i hi => by
    have := (s.2 i hi).le_len
    rw [List.length_map] at this
    rw [e i hi]
    omega⟩
theorem TabF.tab {n : Nat} {ks : List Pr} {t : List Int} (h : TabF n ks t) : Tab (fun v : Int => 0 ≤ v ∧ v < (n : Int)) (nb ks) (tv t) := fun v ⟨h1, h2⟩ => by
  obtain ⟨i, rfl⟩ : ∃ i : Nat, v = (i : Int) := ⟨v.toNat, by omega⟩
  exact h.2 i (by omega)
theorem TabF.uniq {n : Nat} {ks : List Pr} {s t : List Int} (ok : Okl n ks) (h : TabF n ks s) (h' : TabF n ks t) : s = t := by
  have a := tab_le h.tab h'.tab id (fun v hv => hv) (fun v _ u hu => by have := nb_rng ok hu; omega) (fun v _ => ⟨_, List.Perm.refl _, by rw [List.map_id]; exact List.Sublist.refl _⟩)
  have b := tab_le h'.tab h.tab id (fun v hv => hv) (fun v _ u hu => by have := nb_rng ok hu; omega) (fun v _ => ⟨_, List.Perm.refl _, by rw [List.map_id]; exact List.Sublist.refl _⟩)
  refine tv_ext (h.1.trans h'.1.symm) fun i hi => ?_
  have hi' : i < n := by have := h.1; omega
  have c := a (i : Int) ⟨by omega, by omega⟩
  have d := b (i : Int) ⟨by omega, by omega⟩
  simp only [id] at c d
  omega
abbrev s_greatest_channels : Stmt := top 16
theorem sc_greatest_channels : FnScope ["network", "table", "lowered", "later", "station", "one"] ["network"] (defScope s_greatest_channels) := ⟨rfl, rfl, rfl, by decide +kernel, rfl, by decide +kernel, by decide +kernel⟩
def spGC (C : Addr) : Sp := fun vs H Q _ => ∃ (a : Addr) (n : Nat) (ks : List Pr), vs = [.ref a] ∧ NetAt C H a n ks ∧ ∀ t, TabF n ks t → Ret (.tup (t.map V.int)) H Q
theorem n_gc {C : Addr} {G H : Hp} {L : List (Addr × HO)} {a : Addr} {n : Nat} {ks : List Pr} {Q : VK} {E : XK} (S : Own G L H) (N : NetAt C G a n ks)
    (k : ∀ t p G1 H1, TabF n ks t → H p = none → Ex G G1 → Ex H H1 → G1 p = some (.tup (t.map V.int)) → Own G1 L H1 → Q (.ref p) H1) : spGC C [.ref a] H Q E :=
  ⟨a, n, ks, rfl, N.mono S.ex, fun t ht => n_retG S fun p G1 H1 => k t p G1 H1 ht⟩
section
variable {P : Program} {w : World} {K : PySem.W.Frag} {mg : Str → Option Value} {base : Heap}
theorem ok_gc {f C : Addr} {fd : FuncData} (F : Fun K "greatest_channels" "greatest_channels" s_greatest_channels f fd) (T : Txt mg) (NC : NetC K C) (c_chain : Cal P w K mg base 1 "chain" ["numbers"] [] (spChain K))
    (M_len : Mth P w K mg base 1 C "__len__" ["self"] (spLen C)) : FnOk P w K mg base CX0 3 f fd ["network"] (spGC C) := by
  refine F.ok sc_greatest_channels (fun vs H Q E h => ?_) (fun cdv A outer s H vs Q E hr h => ?_)
  · obtain ⟨a, n, ks, rfl, _⟩ := h
    rfl
  · obtain ⟨a, n, ks, rfl, N, k⟩ := h
    have hu65 : ∀ X : Cx, X.A = A.deeper (envOfC "greatest_channels" (defScope s_greatest_channels) s.heap.objs.size f cdv) → X.A.units + 65 < cLine := fun X e => by rw [e]; have := hr.un; omega
    obtain ⟨dx, kp, np, xs, nps, o⟩ := N.at_
    have ok := N.ok
    have hn := N.sz
    refine ⟨_, (pss_cons (ps_set (i := 1) sc_greatest_channels.nd rfl (Or.inr rfl) (pe_lc (own := [("station", 4)]) (by rfl) sc_greatest_channels.nd (pi_range1 (by rfl) T.n_range (pa_cons (pe_callB (call_lenNet NC M_len (hr.mono (by first | decide | omega))) (by rfl) T.n_len (by decide +kernel) (pa_cons (pv 0) pa_nil)) pa_nil)) (blkOk_by (own := [("station", 4)]) (N := ["network", "table", "lowered", "later", "station", "one"]) (sc := defScope s_greatest_channels) (by decide +kernel)) (fun _ _ _ _ _ => (pg_name (i := 4) sc_greatest_channels.nd rfl (Or.inl rfl))) (fun _ _ _ _ _ => pts_nil) (fun _ _ _ _ _ => (pe_op op_add (pe_callB (call_lenK (K := K)) (by rfl) T.n_len (by decide +kernel) (pa_cons (pe_ix (ix_listK (K := K)) (pe_fldK (K := K) (pv 0) rfl) (pv 4) (fun _ _ => rfl)) pa_nil)) pe_int))))
      (pss_cons (ps_set (i := 2) sc_greatest_channels.nd rfl (Or.inl rfl) pe_bl)
      (pss_cons (ps_while PassesOwn.never (pt_val (pv 2)) (pss_cons (ps_setLc (i := 3) (own := [("station", 4)]) (by rfl) sc_greatest_channels.nd rfl rfl (sw_true rfl rfl rfl (by decide +kernel)) (pi_range1 (by rfl) T.n_range (pa_cons (pe_callB (call_lenNet NC M_len (hr.mono (by first | decide | omega))) (by rfl) T.n_len (by decide +kernel) (pa_cons (pv 0) pa_nil)) pa_nil)) (blkOk_by (own := [("station", 4)]) (N := ["network", "table", "lowered", "later", "station", "one"]) (sc := defScope s_greatest_channels) (by decide +kernel)) (fun _ _ _ _ _ => (pg_name (i := 4) sc_greatest_channels.nd rfl (Or.inl rfl))) (fun _ _ _ _ _ => pts_nil) (fun _ _ _ _ _ => (pe_op op_add pe_int (pe_cal c_chain (hr.mono (by first | decide | omega)) passN (pa_cons (pe_lc (own := [("one", 5)]) (by rfl) sc_greatest_channels.nd (pi_listK (K := K) (pe_ix (ix_listK (K := K)) (pe_fldK (K := K) (pv 0) rfl) (pv 4) (fun _ _ => rfl))) (blkOk_by (own := [("one", 5)]) (by first | decide +kernel | kernel_rfl)) (fun _ _ _ _ _ => (pg_name (i := 5) sc_greatest_channels.nd rfl (Or.inl rfl))) (fun _ _ _ _ _ => pts_nil) (fun _ _ _ _ _ => (pe_ix (ix_listK (K := K)) (pv 1) (pv 5) (fun _ _ => rfl)))) pa_nil)))))
      (pss_cons (ps_set (i := 2) sc_greatest_channels.nd rfl (Or.inl rfl) (pe_cmpR (op_neD (Nat.lt_of_succ_lt (hu65 _ rfl))) (pv 3) (pv 1) (nomark _)))
      (pss_one (ps_set (i := 1) sc_greatest_channels.nd rfl (Or.inr rfl) (pv 3))))))
      (pss_one (ps_ret (pe_callTy call_tupN (by rfl) T.n_tuple (by decide +kernel) (pa_cons (pv 1) pa_nil))))))), ?_⟩
    walk_at "go"
    refine n_lenNet N ?_
    walk_at "go"
    refine v_rng1 (j := (n : Int)) (fun i acc G' L' => L' = [] ∧ ∃ c : List Int, c.length = i ∧ acc = c.map V.int ∧ ∀ j : Nat, j < i → tv c (j : Int) = ((nb ks (j : Int)).length : Int) + 1) (Own.start H) (by omega) ⟨rfl, [], rfl, rfl, fun j hj => absurd hj (Nat.not_lt_zero j)⟩ ?_ ?_
    · rintro D i acc G' L' H1 hi hi' e1 hl1 ⟨rfl, c, hc, rfl, hv⟩ S1
      obtain ⟨p, hp⟩ : ∃ p, nps[i]? = some p := ⟨_, List.getElem?_eq_getElem (by have := o.len; omega)⟩
      walk_at "go"
      refine ⟨rfl, ?_⟩
      walk_at "go"
      refine n_fld (S1.ex _ _ (e1 _ _ o.ins)) NC.cl NC.nN (nf_near kp np) ?_
      walk_at "go"
      refine g_ixL (SqL.of (S1.ex _ _ (e1 _ _ o.near))) (atI_nat (j := i) (v := .ref p) (by rw [List.getElem?_map, hp] <;> rfl)) ?_
      walk_at "go"
      refine n_len (SqL.of (S1.ex _ _ (e1 _ _ (o.each i p hp)))) ?_
      walk_at "go"
      refine c_yes S1 e1 hl1 hi' ⟨rfl, c ++ [((nb ks (i : Int)).length : Int) + 1], by rw [List.length_append, hc] <;> rfl, by rw [List.map_append, List.length_map] <;> rfl, fun j hj => ?_⟩
      by_cases e : j = i
      · subst e
        rw [← hc, tv_app2]
      · rw [tv_app1 (by omega) (by omega)]
        exact hv j (by omega)
    · rintro p acc G1 L1 H1 e1 _ ⟨rfl, t0, hlen, rfl, hv⟩ S1
      have hlen : t0.length = n := by omega
      have low0 : LowT n ks t0 := low_start hlen fun i hi => hv i (by omega)
      obtain ⟨S2, e2, hp2⟩ := S1.freeze
      generalize upd G1 p (.lst (t0.map V.int)) = G2 at S2 e2 hp2
      walk_at "go"
      refine s_while (fun m σ' H' => ∃ (q : Addr) (t : List Int) (low : Bool) (G' : Hp), (∃ x1 x2 x3, σ' = [some (.ref a), some (.ref q), some (.bl low), x1, x2, x3]) ∧ m = (if low then t.sum.toNat + 1 else 0) ∧ LowT n ks t ∧ (low = false → TabF n ks t) ∧
        Ex H G' ∧ Own G' [] H' ∧ G' q = some (.lst (t.map V.int))) _ ⟨p, t0, true, G2, ⟨_, _, _, rfl⟩, rfl, low0, (fun h => by cases h), e1.trans e2, S2, hp2⟩ ?_
      rintro m σ' H' ⟨q, t, low, G', ⟨x1, x2, x3, rfl⟩, rfl, hlow, hfin, eG, S, hq⟩
      have o' := (o.mono eG).mono S.ex
      walk_at "go"
      refine if_2 (fun e => ?_) (fun e => ?_)
      · subst e
        refine s_turn ?_
        walk_at "go"
        refine n_lenNet (N.mono (eG.trans S.ex)) ?_
        walk_at "go"
        refine v_rng1 (j := (n : Int)) (fun i acc G5 L' => L' = [] ∧ ∃ c : List Int, c.length = i ∧ acc = c.map V.int ∧ ∀ j : Nat, j < i → IsCh ((nb ks (j : Int)).map (tv t)) (tv c (j : Int) - 1)) S (by omega) ⟨rfl, [], rfl, rfl, fun j hj => absurd hj (Nat.not_lt_zero j)⟩ ?_ ?_
        · rintro D i acc G5 L' H5 hi hi' e5 hl5 ⟨rfl, c, hc, rfl, hv5⟩ S5
          obtain ⟨pi, hpi⟩ : ∃ p, nps[i]? = some p := ⟨_, List.getElem?_eq_getElem (by have := o.len; omega)⟩
          have o5 := (o.mono eG).mono e5
          have o5H := o5.mono S5.ex
          walk_at "go"
          refine ⟨rfl, ?_⟩
          walk_at "go"
          refine n_fld o5H.ins NC.cl NC.nN (nf_near kp np) ?_
          walk_at "go"
          refine g_ixL (SqL.of o5H.near) (atI_nat (j := i) (v := .ref pi) (by rw [List.getElem?_map, hpi] <;> rfl)) ?_
          have hz : (nb ks (i : Int)).length ≤ 1000000 := by
            have z := I_len ok N.up N.nd (i : Int)
            omega
          refine v_list (xs := (nb ks (i : Int)).map V.int) (fun j acc6 G6 L6 => L6 = [(D, .lst (c.map V.int))] ∧ acc6 = (((nb ks (i : Int)).take j).map (tv t)).map V.int) S5 (SqL.of (o5.each i pi hpi)) (by rw [List.length_map]; exact hz) ⟨rfl, rfl⟩ ?_ ?_
          · rintro D6 j x acc6 G6 L6 H6 hx hj e6 hl6 ⟨rfl, rfl⟩ S6
            obtain ⟨y, hy, rfl⟩ := get_map hx
            obtain ⟨y', rfl, hy'⟩ := nb_nat ok (List.mem_of_getElem? hy)
            walk_at "go"
            refine ⟨rfl, ?_⟩
            walk_at "go"
            refine g_ixL (SqL.of (S6.ex _ _ (e6 _ _ (e5 _ _ hq)))) (at_tv (by omega) (by have := hlow.1; omega)) ?_
            exact c_yes S6 e6 hl6 hj ⟨rfl, by rw [take_snoc hy, List.map_append, List.map_append] <;> rfl⟩
          · rintro p6 acc6 G6 L6 H6 e6 _ ⟨rfl, rfl⟩ S6
            rw [List.length_map, List.take_length] at S6
            walk_at "go"
            refine n_chain S6.forget S6.l0 fun g H7 e7 hch S7 => ?_
            walk_at "go"
            refine c_yes S7 (e5.trans e6) hl5 hi' ⟨rfl, c ++ [1 + g], by rw [List.length_append, hc] <;> rfl, by rw [List.map_append] <;> rfl, fun j hj => ?_⟩
            by_cases e : j = i
            · subst e
              rw [← hc, tv_app2, hc]
              have z : 1 + g - 1 = g := by omega
              rw [z]
              exact hch
            · rw [tv_app1 (by omega) (by omega)]
              exact hv5 j (by omega)
        · rintro p5 acc G5 L5 H5 e5 _ ⟨rfl, c, hc, rfl, hv5⟩ S5
          have hst : StepT n ks t c := ⟨by omega, fun i hi => hv5 i (by omega)⟩
          obtain ⟨S6, e6, hp6⟩ := S5.freeze
          generalize upd G5 p5 (.lst (c.map V.int)) = G6 at S6 e6 hp6
          walk_at "go"
          refine n_neIL (SqL.of (S6.ex _ _ hp6)) (SqL.of (S6.ex _ _ (e6 _ _ (e5 _ _ hq)))) ?_
          walk_at "go"
          have hs := low_sum hlow hst
          have hlow' := low_step ok hlow hst
          have eG6 := (eG.trans e5).trans e6
          by_cases ec : c = t
          · refine ⟨_, ?_, p5, c, !decide (c = t), G6, ⟨_, _, _, rfl⟩, rfl, hlow', fun _ => by rw [← ec] at hst; exact hst, eG6, S6, hp6⟩
            rw [decide_eq_true ec]
            show 0 < t.sum.toNat + 1
            omega
          · refine ⟨_, ?_, p5, c, !decide (c = t), G6, ⟨_, _, _, rfl⟩, rfl, hlow', (fun h => by rw [decide_eq_false ec] at h; cases h), eG6, S6, hp6⟩
            rw [decide_eq_false ec]
            show c.sum.toNat + 1 < t.sum.toNat + 1
            have := hs.2.2 ec
            omega
      · walk_at "go"
        refine n_tupL S (SqL.of (S.ex _ _ hq)) fun r G7 H7 hr7 e7 e7' h7 S7 => ?_
        exact k t (hfin e) r H7 (fresh_back (eG.trans S.ex) hr7) (eG.trans (S.ex.trans e7')) (S7.ex _ _ h7)
end
end NX

namespace NX
/-! ### renamed, without: their tables -/
theorem nb_perm {ks ls : List Pr} (p : ks.Perm ls) (i : Int) : (nb ks i).Perm (nb ls i) := p.filterMap _
theorem StepT.perm {n : Nat} {ks ls : List Pr} {t t' : List Int} (h : StepT n ks t t') (p : ks.Perm ls) : StepT n ls t t' := ⟨h.1, fun i hi => (h.2 i hi).perm ((nb_perm p _).map _)⟩
theorem TabF.perm {n : Nat} {ks ls : List Pr} {t : List Int} (h : TabF n ks t) (p : ks.Perm ls) : TabF n ls t := StepT.perm h p
theorem nb_cons (q : Pr) (ks : List Pr) (i : Int) : nb (q :: ks) i = nb [q] i ++ nb ks i := nb_app [q] ks i
theorem nb_ren {n : Nat} {ns : List Int} (h : IsNames n ns) {v : Int} (hv : 0 ≤ v ∧ v < (n : Int)) : ∀ {ks : List Pr}, Okl n ks → nb (renL ns ks) (tv ns v) = (nb ks v).map (tv ns)
  | [], _ => rfl
  | q :: ks, ok => by
    have ih := nb_ren h hv (ks := ks) fun x hx => ok x (List.mem_cons_of_mem _ hx)
    have hq := ok q List.mem_cons_self
    have e : renL ns (q :: ks) = mmP (tv ns q.1) (tv ns q.2) :: renL ns ks := rfl
    have i1 : tv ns q.1 = tv ns v → q.1 = v := fun z => h.inj ⟨hq.1, by omega⟩ hv z
    have i2 : tv ns q.2 = tv ns v → q.2 = v := fun z => h.inj ⟨by omega, hq.2.2⟩ hv z
    have ne : tv ns q.1 ≠ tv ns q.2 := fun z => by
      have := h.inj ⟨hq.1, by omega⟩ ⟨by omega, hq.2.2⟩ z
      omega
    rw [e, nb_cons, nb_cons q, List.map_append, ih, nb_one, nb_one]
    congr 1
    unfold mmP
    simp only
    by_cases c1 : q.1 = v
    · subst c1
      rw [if_pos rfl]
      by_cases c : tv ns q.1 ≤ tv ns q.2
      · rw [if_pos (by omega)]
        have : max (tv ns q.1) (tv ns q.2) = tv ns q.2 := by omega
        rw [this] <;> rfl
      · rw [if_neg (by omega), if_pos (by omega)]
        have : min (tv ns q.1) (tv ns q.2) = tv ns q.2 := by omega
        rw [this] <;> rfl
    · rw [if_neg c1]
      have n1 : tv ns q.1 ≠ tv ns v := fun z => c1 (i1 z)
      by_cases c2 : q.2 = v
      · subst c2
        rw [if_pos rfl]
        by_cases c : tv ns q.1 ≤ tv ns q.2
        · rw [if_neg (by omega), if_pos (by omega)]
          have : min (tv ns q.1) (tv ns q.2) = tv ns q.1 := by omega
          rw [this] <;> rfl
        · rw [if_pos (by omega)]
          have : max (tv ns q.1) (tv ns q.2) = tv ns q.1 := by omega
          rw [this] <;> rfl
      · rw [if_neg c2]
        have n2 : tv ns q.2 ≠ tv ns v := fun z => c2 (i2 z)
        rw [if_neg (by omega), if_neg (by omega)] <;> rfl
/-- numbers there and back -/
structure Back (n : Nat) (ns bs : List Int) : Prop where
  a : IsNames n ns
  b : IsNames n bs
  ab : ∀ v : Int, 0 ≤ v ∧ v < (n : Int) → tv bs (tv ns v) = v
  ba : ∀ v : Int, 0 ≤ v ∧ v < (n : Int) → tv ns (tv bs v) = v
theorem back_ren {n : Nat} {ns bs : List Int} (h : Back n ns bs) : ∀ {ks : List Pr}, Okl n ks → renL bs (renL ns ks) = ks
  | [], _ => rfl
  | q :: ks, ok => by
    have ih := back_ren h (ks := ks) fun x hx => ok x (List.mem_cons_of_mem _ hx)
    have hq := ok q List.mem_cons_self
    show mmP (tv bs (mmP (tv ns q.1) (tv ns q.2)).1) (tv bs (mmP (tv ns q.1) (tv ns q.2)).2) :: renL bs (renL ns ks) = q :: ks
    rw [ih]
    have e1 := h.ab q.1 ⟨hq.1, by omega⟩
    have e2 := h.ab q.2 ⟨by omega, hq.2.2⟩
    have z : mmP (tv bs (mmP (tv ns q.1) (tv ns q.2)).1) (tv bs (mmP (tv ns q.1) (tv ns q.2)).2) = q := by
      unfold mmP
      simp only
      rcases Int.le_total (tv ns q.1) (tv ns q.2) with c | c
      · rw [Int.min_eq_left c, Int.max_eq_right c, e1, e2]
        exact Prod.ext (by show min q.1 q.2 = q.1; omega) (by show max q.1 q.2 = q.2; omega)
      · rw [Int.min_eq_right c, Int.max_eq_left c, e1, e2]
        exact Prod.ext (by show min q.2 q.1 = q.1; omega) (by show max q.2 q.1 = q.2; omega)
    rw [z]
theorem ren_perm {ns : List Int} {ks ls : List Pr} (p : ks.Perm ls) : (renL ns ks).Perm (renL ns ls) := p.map _
theorem back_net {n : Nat} {ns bs : List Int} (h : Back n ns bs) {ks : List Pr} (ok : Okl n ks) (u : Up ks) : sortP (renL bs (sortP (renL ns ks))) = ks := by
  rw [sortP_congr (ren_perm (sortP_perm (renL ns ks))), back_ren h ok]
  exact sortP_id u
theorem ren_tab {n : Nat} {ns bs : List Int} (h : Back n ns bs) {ls : List Pr} {t t' : List Int} (ok : Okl n ls) (ht : TabF n ls t) (ht' : TabF n (renL ns ls) t') {v : Int} (hv : 0 ≤ v ∧ v < (n : Int)) : tv t' (tv ns v) = tv t v := by
  have ok' := ren_ok h.a ok
  have a := tab_le ht'.tab ht.tab (tv ns) (fun v hv => h.a.rng hv.1 hv.2) (fun v _ u hu => by have := nb_rng ok hu; omega) (fun v hv => ⟨_, List.Perm.refl _, by rw [nb_ren h.a hv ok]; exact List.Sublist.refl _⟩) v hv
  have b := tab_le ht.tab ht'.tab (tv bs) (fun v hv => h.b.rng hv.1 hv.2) (fun v _ u hu => by have := nb_rng ok' hu; omega) (fun u hu => ⟨_, List.Perm.refl _, by
    have hb := h.b.rng hu.1 hu.2
    have e := nb_ren h.a hb ok
    rw [h.ba u hu] at e
    rw [e, List.map_map]
    have z : (nb ls (tv bs u)).map (tv bs ∘ tv ns) = nb ls (tv bs u) := by
      conv => rhs; rw [← List.map_id (nb ls (tv bs u))]
      refine List.map_congr_left fun x hx => ?_
      have := nb_rng ok hx
      exact h.ab x ⟨by omega, by omega⟩
    rw [z]
    exact List.Sublist.refl _⟩) (tv ns v) (h.a.rng hv.1 hv.2)
  rw [h.ab v hv] at b
  omega
def uns (s x : Int) : Int := if x < s then x else x + 1
theorem uns_shf {s x : Int} (h : x ≠ s) : uns s (shf s x) = x := by
  unfold uns shf
  split <;> split <;> omega
theorem shf_uns (s x : Int) : shf s (uns s x) = x := by
  unfold uns shf
  split <;> split <;> omega
theorem nb_wo {s v : Int} : ∀ ks : List Pr, ((nb (woL s ks) v).map (uns s)).Sublist (nb ks (uns s v))
  | [] => List.Sublist.refl _
  | q :: ks => by
    have ih := nb_wo (s := s) (v := v) ks
    rw [nb_cons q]
    by_cases c : s = q.1 ∨ s = q.2
    · have e : woL s (q :: ks) = woL s ks := by
        unfold woL woF
        rw [List.filter_cons, if_neg (by rw [decide_eq_true c]; exact Bool.false_ne_true)]
      rw [e]
      exact ih.trans (List.sublist_append_right _ _)
    · have e : woL s (q :: ks) = (shf s q.1, shf s q.2) :: woL s ks := by
        unfold woL woF
        rw [List.filter_cons, if_pos (by rw [decide_eq_false c]; rfl)] <;> rfl
      have n1 : q.1 ≠ s := fun z => c (.inl z.symm)
      have n2 : q.2 ≠ s := fun z => c (.inr z.symm)
      have f1 : shf s q.1 = v ↔ q.1 = uns s v := ⟨fun z => by rw [← z, uns_shf n1], fun z => by rw [z, shf_uns]⟩
      have f2 : shf s q.2 = v ↔ q.2 = uns s v := ⟨fun z => by rw [← z, uns_shf n2], fun z => by rw [z, shf_uns]⟩
      rw [e, nb_cons, List.map_append, nb_one, nb_one]
      refine List.Sublist.append ?_ ih
      simp only
      by_cases c1 : q.1 = uns s v
      · rw [if_pos (f1.mpr c1), if_pos c1, List.map_cons, uns_shf n2] <;> exact List.Sublist.refl _
      · rw [if_neg (fun z => c1 (f1.mp z)), if_neg c1]
        by_cases c2 : q.2 = uns s v
        · rw [if_pos (f2.mpr c2), if_pos c2, List.map_cons, uns_shf n1] <;> exact List.Sublist.refl _
        · rw [if_neg (fun z => c2 (f2.mp z)), if_neg c2] <;> exact List.Sublist.refl _
theorem wo_perm {s : Int} {ks ls : List Pr} (p : ks.Perm ls) : (woL s ks).Perm (woL s ls) := (p.filter _).map _
theorem wo_tab {n : Nat} {s : Int} (hs : 0 ≤ s ∧ s < (n : Int)) {ls : List Pr} {t t' : List Int} (ok : Okl n ls) (ht : TabF n ls t) (ht' : TabF (n - 1) (woL s ls) t') {v : Int} (hv : 0 ≤ v ∧ v < ((n - 1 : Nat) : Int)) : tv t' v ≤ tv t (uns s v) := by
  have ok' := wo_ok hs ok
  exact tab_le ht.tab ht'.tab (uns s) (fun v hv => by unfold uns; split <;> omega) (fun v _ u hu => by have := nb_rng ok' hu; omega) (fun v _ => ⟨_, List.Perm.refl _, nb_wo ls⟩) v hv
end NX

namespace NX
/-! ### one link more, one less: the tables -/
theorem nb_sub {ks ls : List Pr} (h : ks.Sublist ls) (i : Int) : (nb ks i).Sublist (nb ls i) := h.filterMap _
theorem tab_mono {n : Nat} {ks ls : List Pr} {t t' : List Int} (ok : Okl n ks) (h : ks.Sublist ls) (ht : TabF n ks t) (ht' : TabF n ls t') {i : Nat} (hi : i < n) : tv t (i : Int) ≤ tv t' (i : Int) :=
  tab_le ht'.tab ht.tab id (fun v hv => hv) (fun v _ u hu => by have := nb_rng ok hu; omega) (fun v _ => ⟨_, List.Perm.refl _, by rw [List.map_id]; exact nb_sub h v⟩) (i : Int) ⟨by omega, by omega⟩
theorem filt_none {ks : List Pr} {q : Pr} (h : q ∉ ks) : ks.filter (fun x => !decide (x = q)) = ks := List.filter_eq_self.mpr fun x hx => by
  have : x ≠ q := fun e => h (e ▸ hx)
  simp [this]
end NX

namespace NX
open PySem PySem.Spec PyProof.Rows L2
open Evl (Ex ex_l ex_t fresh_back)
/-- a well of draws -/
def wl (a b c : Int) : HO := .lst [.int a, .int b, .int c]
theorem n_setLi {H : Hp} {W : Addr} {xs : List V} {i : Int} {j : Nat} {v : V} {Q : Hp → Prop} (h : H W = some (.lst xs)) (hi : ixN xs.length i = some j) (k : Q (upd H W (.lst (xs.set j v)))) : rSetL (.ref W) (.int i) v H Q := ⟨W, xs, i, j, rfl, rfl, h, hi, k⟩
theorem mod_rng {a m : Int} (h : 0 < m) : 0 ≤ a % m ∧ a % m < m := ⟨Int.emod_nonneg a (by omega), Int.emod_lt_of_pos a h⟩
theorem Own.weak {G G' H : Hp} {L : List (Addr × HO)} (e : Ex G G') (S : Own G' L H) : Own G L H := ⟨e.trans S.ex, fun p hp => ⟨fresh_back e (S.at_ p hp).1, (S.at_ p hp).2⟩, S.nd, S.nt⟩
/-- xs.pop(i) -/
theorem n_popAt {G H : Hp} {L : List (Addr × HO)} {p : Addr} {xs : List V} {i : Int} {Q : VK} (S : Own G ((p, .lst xs) :: L) H) (h0 : 0 ≤ i) (h1 : i < (xs.length : Int)) (hz : xs.length ≤ 1000000)
    (k : ∀ y H1, xs[i.toNat]? = some y → Own G ((p, .lst (xs.eraseIdx i.toNat)) :: L) H1 → Q y H1) : rPopAt (.ref p) [.int i] H Q := by
  have hl : i.toNat < xs.length := by omega
  have hy : xs[i.toNat]? = some xs[i.toNat] := List.getElem?_eq_getElem hl
  refine ⟨p, xs, i, i.toNat, _, rfl, rfl, S.get0, by omega, by omega, ?_, hy, k _ _ hy S.put0⟩
  unfold seqIndex?
  have h3 : ¬ i < 0 := by omega
  simp [h3, h1]
  try omega
/-- a list whose items are data: for == and != -/
def DataOk (K : PySem.W.Frag) (G : Hp) (xs : List V) : Prop := ∀ H, Ex G H → ∀ ys : List V, (∀ y ∈ ys, y ∈ xs) → ∃ ds, DpAll K H ys ds ∧ SeqAt.shaped (.list ds) = true ∧ ds.length = ys.length
theorem ints_of_sub {ns : List Int} : ∀ {ys : List V}, (∀ y ∈ ys, y ∈ ns.map V.int) → ∃ ms : List Int, ys = ms.map V.int
  | [], _ => ⟨[], rfl⟩
  | y :: ys, h => by
    obtain ⟨ms, rfl⟩ := ints_of_sub (ys := ys) fun y hy => h y (List.mem_cons_of_mem _ hy)
    obtain ⟨m, _, rfl⟩ := List.mem_map.mp (h y List.mem_cons_self)
    exact ⟨m :: ms, rfl⟩
theorem data_ints (K : PySem.W.Frag) (G : Hp) (ns : List Int) : DataOk K G (ns.map V.int) := fun H _ ys h => by
  obtain ⟨ms, rfl⟩ := ints_of_sub h
  exact ⟨_, dp_ints ms, shaped_ints ms, by simp⟩
theorem data_lks {K : PySem.W.Frag} {G : Hp} {xs : List V} {ps : List Pr} (h : Lks G xs ps) : DataOk K G xs := fun H e ys hy => by
  have z : Lks G ys (ys.map (kOf G)) := lks_of fun x hx => (lks_k h).2 x (hy x hx)
  exact ⟨_, dp_lks (z.mono e), shaped_lks _, by simp⟩
theorem eqv_nil (ds : List PyData) : PyData.eqv (.list ds) (.list []) = decide (ds = []) := by
  cases ds with
  | nil => simp [PyData.eqv, PyData.eqvAll]
  | cons d ds => simp [PyData.eqv, PyData.eqvAll]
theorem n_neNil {K : PySem.W.Frag} {G H : Hp} {p q : Addr} {xs ys : List V} {Q : VK} (d : DataOk K G xs) (e : Ex G H) (sub : ∀ y ∈ ys, y ∈ xs) (h1 : SqL K H p ys) (h2 : SqL K H q []) (k : Q (.bl (!decide (ys = []))) H) : rNeD K (.ref p) (.ref q) H Q := by
  obtain ⟨ds, h3, h4, h5⟩ := d H e ys sub
  refine ⟨_, _, .lst h1 h3, .lst h2 .nil, h4, shaped_ints [], ?_⟩
  rw [eqv_nil]
  have z : decide (ds = []) = decide (ys = []) := by
    rw [Bool.eq_iff_iff, decide_eq_true_eq, decide_eq_true_eq, ← List.length_eq_zero_iff, ← List.length_eq_zero_iff, h5]
  rw [z]
  exact k
theorem erase_perm {α : Type} : ∀ {l : List α} {i : Nat} (h : i < l.length), (l[i] :: l.eraseIdx i).Perm l
  | [], _, h => absurd h (Nat.not_lt_zero _)
  | a :: l, 0, _ => List.Perm.refl _
  | a :: l, i + 1, h => by
    have ih := erase_perm (l := l) (i := i) (by simpa using h)
    exact (List.Perm.swap a _ _).trans (ih.cons a)
abbrev s__law_well : Stmt := top 18
theorem sc__law_well : FnScope ["_law_cell", "_law_turn"] ["_law_cell", "_law_turn"] (defScope s__law_well) := ⟨rfl, rfl, rfl, by decide +kernel, rfl, by decide +kernel, by decide +kernel⟩
abbrev s__law_take : Stmt := top 19
theorem sc__law_take : FnScope ["_law_well_here", "_law_bound", "_law_drawn", "_law_value"] ["_law_well_here", "_law_bound"] (defScope s__law_take) := ⟨rfl, rfl, rfl, by decide +kernel, rfl, by decide +kernel, by decide +kernel⟩
abbrev s__law_mixed : Stmt := top 20
theorem sc__law_mixed : FnScope ["_law_well_here", "_law_some", "_law_left", "_law_found"] ["_law_well_here", "_law_some"] (defScope s__law_mixed) := ⟨rfl, rfl, rfl, by decide +kernel, rfl, by decide +kernel, by decide +kernel⟩
/-- a draw below n: some number, the well in some other state -/
def spTake : Sp := fun vs H Q _ => ∃ (W : Addr) (a b c n : Int), vs = [.ref W, .int n] ∧ H W = some (wl a b c) ∧ 0 < n ∧ n < 1073741824 ∧ ∀ r a' b' c', 0 ≤ r → r < n → Q (.int r) (upd H W (wl a' b' c'))
def spWell : Sp := fun vs H Q _ => ∃ (x t : Int), vs = [.int x, .int t] ∧ ∀ a b c, Ret (wl a b c) H Q
theorem n_take {H G : Hp} {L : List (Addr × HO)} {W : Addr} {a b c n : Int} {Q : VK} {E : XK} (S : Own G ((W, wl a b c) :: L) H) (h : 0 < n ∧ n < 1073741824) (k : ∀ r a' b' c' H1, 0 ≤ r → r < n → Own G ((W, wl a' b' c') :: L) H1 → Q (.int r) H1) : spTake [.ref W, .int n] H Q E :=
  ⟨W, a, b, c, n, rfl, S.get0, h.1, h.2, fun r a' b' c' h1 h2 => k r a' b' c' _ h1 h2 S.put0⟩
def spMixed (K : PySem.W.Frag) : Sp := fun vs H Q _ => ∃ (W p : Addr) (a b c : Int) (xs : List V), vs = [.ref W, .ref p] ∧ H W = some (wl a b c) ∧ SqL K (cut H [(W, wl a b c)]) p xs ∧ DataOk K (cut H [(W, wl a b c)]) xs ∧ xs.length ≤ 100000 ∧
  ∀ ys q H' a' b' c', ys.Perm xs → H q = none → Own (cut H [(W, wl a b c)]) [(W, wl a' b' c'), (q, .lst ys)] H' → Q (.ref q) H'
theorem DataOk.mono {K : PySem.W.Frag} {G H : Hp} {xs : List V} (h : DataOk K G xs) (e : Ex G H) : DataOk K H xs := fun H' e' => h H' (e.trans e')
theorem n_mixed {K : PySem.W.Frag} {H G : Hp} {L : List (Addr × HO)} {W p : Addr} {a b c : Int} {xs : List V} {Q : VK} {E : XK} (S : Own G ((W, wl a b c) :: L) H) (hp : SqL K G p xs) (hd : DataOk K G xs) (hz : xs.length ≤ 100000)
    (k : ∀ ys q H1 a' b' c', ys.Perm xs → H q = none → Own G ((W, wl a' b' c') :: (q, .lst ys) :: L) H1 → Q (.ref q) H1) : spMixed K [.ref W, .ref p] H Q E :=
  ⟨W, p, a, b, c, xs, rfl, S.get0, ex_l S.keep hp, hd.mono S.keep, hz, fun ys q H' a' b' c' hy hq T => k ys q H' a' b' c' hy hq (S.back T)⟩
section
variable {P : Program} {w : World} {K : PySem.W.Frag} {mg : Str → Option Value} {base : Heap}
theorem ok_well {f : Addr} {fd : FuncData} (F : Fun K "_law_well" "_law_well" s__law_well f fd) (T : Txt mg) : FnOk P w K mg base CX0 1 f fd ["_law_cell", "_law_turn"] spWell := by
  refine F.ok sc__law_well (fun vs H Q E h => ?_) (fun cdv A outer s H vs Q E hr h => ?_)
  · obtain ⟨x, t, rfl, _⟩ := h
    rfl
  · obtain ⟨x, t, rfl, k⟩ := h
    refine ⟨_, (pss_one (ps_ret (pe_lst (pa_cons (pe_op op_mul (pv 0) (pe_callTy call_intN (by rfl) T.n_int (by decide +kernel) (pa_cons (pe_cmpR op_ge (pv 0) (pe_op op_pow pe_int pe_int) (nomark _)) pa_nil))) (pa_cons (pe_op op_add (pe_op op_mod (pv 0) pe_int) (pe_op op_mul pe_int (pv 1))) (pa_cons pe_int pa_nil)))))), ?_⟩
    walk_at "go"
    refine g_I ⟨by decide, by decide, by decide⟩ ?_
    walk_at "go"
    refine g_I (.inr (by split <;> decide)) ?_
    walk_at "go"
    refine g_I (by decide) ?_
    walk_at "go"
    refine g_I (.inl ⟨by decide, by decide⟩) ?_
    walk_at "go"
    refine n_lst (Own.start H) (by show 3 ≤ 10000000; decide) fun W H5 hW S5 => ?_
    exact k _ _ _ W H5 hW S5.ex S5.get0
theorem ok_take {f : Addr} {fd : FuncData} (F : Fun K "_law_take" "_law_take" s__law_take f fd) : FnOk P w K mg base CX0 1 f fd ["_law_well_here", "_law_bound"] spTake := by
  refine F.ok sc__law_take (fun vs H Q E h => ?_) (fun cdv A outer s H vs Q E hr h => ?_)
  · obtain ⟨W, a, b, c, n, rfl, _⟩ := h
    rfl
  · obtain ⟨W, a, b, c, n, rfl, hW, h1, h2, k⟩ := h
    refine ⟨_, (pss_cons (ps_if (pt_cmpR op_gt (pe_ix ix_list (pv 0) pe_int (fun _ _ => rfl)) pe_int (nomark _)) (pss_cons (ps_set (i := 2) sc__law_take.nd rfl (Or.inl rfl) (pe_op op_mod (pe_ix ix_list (pv 0) pe_int (fun _ _ => rfl)) (pv 1)))
      (pss_cons (ps_asg (pe_op op_fdiv (pe_ix ix_list (pv 0) pe_int (fun _ _ => rfl)) (pv 1)) (pg_sub (pv 0) pe_int set_list))
      (pss_one (ps_ret (pv 2))))) pss_nil)
      (pss_cons (ps_asg (pe_op op_add (pe_ix ix_list (pv 0) pe_int (fun _ _ => rfl)) pe_int) (pg_sub (pv 0) pe_int set_list))
      (pss_cons (ps_set (i := 3) sc__law_take.nd rfl (Or.inl rfl) (pe_op op_mod (pe_op op_mul (pe_op op_add (pe_op op_add (pe_ix ix_list (pv 0) pe_int (fun _ _ => rfl)) (pe_op op_mul pe_int (pe_ix ix_list (pv 0) pe_int (fun _ _ => rfl)))) pe_int) pe_int) pe_int))
      (pss_cons (ps_set (i := 3) sc__law_take.nd rfl (Or.inl rfl) (pe_op op_mod (pe_op op_mul (pv 3) (pe_op op_add (pe_op op_fdiv (pv 3) pe_int) pe_int)) pe_int))
      (pss_one (ps_ret (pe_op op_mod (pe_op op_fdiv (pe_op op_mod (pe_op op_mul (pv 3) (pe_op op_add (pe_op op_fdiv (pv 3) pe_int) pe_int)) pe_int) pe_int) (pv 1)))))))), ?_⟩
    have hS : SqL K H W [.int a, .int b, .int c] := SqL.of hW
    walk_at "go"
    refine g_ixL (i := 0) hS rfl ?_
    walk_at "go"
    refine if_2 (fun e => ?_) (fun e => ?_)
    · walk_at "go"
      refine g_ixL (i := 0) hS rfl ?_
      walk_at "go"
      refine g_I h1 ?_
      walk_at "go"
      refine g_ixL (i := 0) hS rfl ?_
      walk_at "go"
      refine g_I ⟨h1, h2⟩ ?_
      walk_at "go"
      refine n_setLi (i := 0) hW rfl ?_
      walk_at "go"
      exact k _ _ _ _ (mod_rng h1).1 (mod_rng h1).2
    · walk_at "go"
      refine g_ixL (i := 2) hS rfl ?_
      walk_at "go"
      refine n_setLi (i := 2) hW rfl ?_
      have hS2 : SqL K (upd H W (.lst [.int a, .int b, .int (c + 1)])) W [.int a, .int b, .int (c + 1)] := SqL.of upd_same
      walk_at "go"
      refine g_ixL (i := 1) hS2 rfl ?_
      walk_at "go"
      refine g_ixL (i := 2) hS2 rfl ?_
      walk_at "go"
      refine g_I (.inl ⟨by decide, by decide⟩) ?_
      walk_at "go"
      refine g_I (.inr ⟨by decide, by decide⟩) ?_
      walk_at "go"
      refine g_I (by decide) ?_
      walk_at "go"
      have z1 := mod_rng (a := (b + 67867967 * (c + 1) + 17) * 48271) (m := 2147483563) (by decide)
      generalize (b + 67867967 * (c + 1) + 17) * 48271 % 2147483563 = x at z1 ⊢
      refine g_I ⟨by decide, by decide⟩ ?_
      walk_at "go"
      refine g_I (.inl ⟨by omega, by omega⟩) ?_
      walk_at "go"
      refine g_I (by decide) ?_
      walk_at "go"
      have z2 := mod_rng (a := x * (x / 1033 + 69697)) (m := 2147483587) (by decide)
      generalize x * (x / 1033 + 69697) % 2147483587 = y at z2 ⊢
      refine g_I ⟨by decide, by decide⟩ ?_
      walk_at "go"
      refine g_I (.inl ⟨by omega, by omega⟩) ?_
      walk_at "go"
      refine g_I (by decide) ?_
      walk_at "go"
      refine g_I ⟨by decide, by decide⟩ ?_
      walk_at "go"
      refine g_I h1 ?_
      exact k _ _ _ _ (mod_rng h1).1 (mod_rng h1).2
theorem ok_mixed {f : Addr} {fd : FuncData} (F : Fun K "_law_mixed" "_law_mixed" s__law_mixed f fd) (T : Txt mg) (c__law_take : Cal P w K mg base 1 "_law_take" ["_law_well_here", "_law_bound"] [] spTake) : FnOk P w K mg base CX0 2 f fd ["_law_well_here", "_law_some"] (spMixed K) := by
  refine F.ok sc__law_mixed (fun vs H Q E h => ?_) (fun cdv A outer s H vs Q E hr h => ?_)
  · obtain ⟨W, p, a, b, c, xs, rfl, _⟩ := h
    rfl
  · obtain ⟨W, p, a, b, c, xs, rfl, hW, hp, hd, hz, k⟩ := h
    have hu65 : ∀ X : Cx, X.A = A.deeper (envOfC "_law_mixed" (defScope s__law_mixed) s.heap.objs.size f cdv) → X.A.units + 65 < cLine := fun X e => by rw [e]; have := hr.un; omega
    have S0 := Own.give (o := wl a b c) hW
    have hG : ∀ x u, x ≠ W → H x = some u → cut H [(W, wl a b c)] x = some u := fun x u ne e => by rw [cut_out (by simpa using ne)]; exact e
    generalize cut H [(W, wl a b c)] = G at hp hd S0 k hG
    refine ⟨_, (pss_cons (ps_set (i := 2) sc__law_mixed.nd rfl (Or.inl rfl) (pe_callTy call_listN (by rfl) T.n_list (by decide +kernel) (pa_cons (pv 1) pa_nil)))
      (pss_cons (ps_set (i := 3) sc__law_mixed.nd rfl (Or.inl rfl) (pe_lst pa_nil))
      (pss_cons (ps_while PassesOwn.never (pt_cmpR (op_neD (Nat.lt_of_succ_lt (hu65 _ rfl))) (pv 2) (pe_lst pa_nil) (nomark _)) (pss_one (ps_expr (pe_bm PySem.F.plainAttrs_list PySem.F.slot_list_append PySem.F.type_list_append mt_append (pv 3) (pa_cons (pe_bm PySem.F.plainAttrs_list PySem.F.slot_list_pop PySem.F.type_list_pop mt_popAt (pv 2) (pa_cons (pe_cal c__law_take (hr.mono (by first | decide | omega)) passN (pa_cons (pv 0) (pa_cons (pe_callB call_lenN (by rfl) T.n_len (by decide +kernel) (pa_cons (pv 2) pa_nil)) pa_nil))) pa_nil)) pa_nil)))))
      (pss_one (ps_ret (pv 3)))))), ?_⟩
    walk_at "go"
    refine n_list S0 (S0.sl hp) fun l H1 hl S1 => ?_
    walk_at "go"
    refine n_lst S1 (by decide) fun q H2 hq S2 => ?_
    walk_at "go"
    have hq0 : H q = none := by
      cases hh : H q with
      | none => rfl
      | some u =>
        by_cases e : q = W
        · rw [e, S1.get1] at hq; cases hq
        · have z := S1.ex _ _ (hG q u e hh)
          rw [hq] at z
          exact z.symm
    refine s_while (fun m σ' H' => ∃ (fs ls : List V) (a' b' c' : Int), σ' = [some (.ref W), some (.ref p), some (.ref l), some (.ref q)] ∧ m = ls.length ∧ (fs ++ ls).Perm xs ∧ Own G [(q, .lst fs), (l, .lst ls), (W, wl a' b' c')] H') _ ⟨[], xs, a, b, c, rfl, rfl, List.Perm.refl _, S2⟩ ?_
    rintro m σ' H' ⟨fs, ls, a', b', c', rfl, rfl, hperm, S⟩
    have hlen : fs.length + ls.length = xs.length := by rw [← List.length_append]; exact hperm.length_eq
    have hsub : ∀ y ∈ ls, y ∈ xs := fun y hy => hperm.mem_iff.mp (List.mem_append_right _ hy)
    walk_at "go"
    refine n_lst S (by decide) fun r H3 hr3 S3 => ?_
    walk_at "go"
    refine n_neNil hd S3.ex hsub (SqL.of S3.get2) S3.l0 ?_
    walk_at "go"
    have S4 := S3.forget
    refine if_2 (fun e => ?_) (fun e => ?_)
    · have hne : ls ≠ [] := fun z => by rw [dtrue z] at e; cases e
      have hpos : 0 < ls.length := List.length_pos_iff.mpr hne
      refine s_turn ?_
      walk_at "go"
      refine ⟨tyL S4.l0, ?_⟩
      walk_at "go"
      refine ⟨tyL S4.l1, ?_⟩
      walk_at "go"
      refine n_len S4.l1 ?_
      walk_at "go"
      refine n_take S4.rot ⟨by omega, by omega⟩ fun i a2 b2 c2 H5 h0 h1 S5 => ?_
      walk_at "go"
      refine n_popAt S5.unrot.swap h0 h1 (by omega) fun y H6 hy S6 => ?_
      walk_at "go"
      refine n_app S6.swap (by omega) fun H7 S7 => ?_
      refine ⟨(ls.eraseIdx i.toNat).length, ?_, fs ++ [y], ls.eraseIdx i.toNat, a2, b2, c2, rfl, rfl, ?_, S7⟩
      · rw [List.length_eraseIdx_of_lt (by omega)]
        omega
      · obtain ⟨hi, ey⟩ := List.getElem?_eq_some_iff.mp hy
        have pe := erase_perm (l := ls) hi
        rw [ey] at pe
        rw [List.append_assoc]
        exact (pe.append_left fs).trans hperm
    · have hnil : ls = [] := Classical.byContradiction fun z => by rw [dfalse z] at e; cases e
      subst hnil
      walk_at "go"
      rw [List.append_nil] at hperm
      exact k fs q _ a' b' c' hperm hq0 ((S4.swap.forget).swap)
end
end NX

namespace NX
open PySem PySem.Spec PyProof.Rows L2
open Evl (Ex ex_l ex_t fresh_back)
/-! ### _law_links -/
theorem s_join {ts : TS} {n b c : L2.St → Hp → Prop} {rt : VK} {σ : L2.St} {H : Hp} (J : L2.St → Hp → Prop) (hj : ∀ σ' H', J σ' H' → n σ' H') (h : ∀ n' : L2.St → Hp → Prop, (∀ σ' H', J σ' H' → n' σ' H') → ts ⟨n', rt, b, c⟩ σ H) : ts ⟨n, rt, b, c⟩ σ H := h n hj
/-- behind a call that may change the object at p, where what stands still has grown -/
theorem Own.backG {G G' H H' : Hp} {L L' : List (Addr × HO)} {p : Addr} {o o' : HO} (S : Own G ((p, o) :: L) H) (e : Ex (cut H [(p, o)]) G') (T : Own G' ((p, o') :: L') H') :
    Own (cut G' L) ((p, o') :: L' ++ L) H' ∧ Ex G (cut G' L) ∧ ∀ a u, noTup u = false → G' a = some u → cut G' L a = some u := by
  have hL : ∀ x ∈ L, G' x.1 = some x.2 := fun x hx => e _ _ (by
    have ne : x.1 ≠ p := fun z => S.nin (z ▸ List.mem_map_of_mem hx)
    rw [cut_out (by simpa using ne)]
    exact (S.at_ x (List.mem_cons_of_mem _ hx)).2)
  refine ⟨⟨fun a u h => ?_, fun x hx => ?_, ?_, fun x hx => (List.mem_append.mp hx).elim (T.nt x) (S.forget.nt x)⟩, fun a u h => ?_, fun a u t h => ?_⟩
  · by_cases m : a ∈ L.map Prod.fst
    · rw [cut_in m] at h; cases h
    · rw [cut_out m] at h; exact T.ex _ _ h
  · rcases List.mem_append.mp hx with hx | hx
    · refine ⟨?_, (T.at_ x hx).2⟩
      have z := (T.at_ x hx).1
      by_cases m : x.1 ∈ L.map Prod.fst
      · exact cut_in m
      · rw [cut_out m]; exact z
    · exact ⟨cut_in (List.mem_map_of_mem hx), T.ex _ _ (hL x hx)⟩
  · rw [List.map_append, List.nodup_append]
    refine ⟨T.nd, S.forget.nd, fun a ha b hb z => ?_⟩
    subst z
    obtain ⟨x, hx, ex⟩ := List.mem_map.mp ha
    obtain ⟨y, hy, ey⟩ := List.mem_map.mp hb
    have z := (T.at_ x hx).1
    rw [ex, ← ey, hL y hy] at z
    cases z
  · have ne : a ≠ p := ne_of_none h S.no0
    have m : a ∉ L.map Prod.fst := fun m => by
      obtain ⟨y, hy, ey⟩ := List.mem_map.mp m
      have z := (S.forget.at_ y hy).1
      rw [ey, h] at z
      cases z
    rw [cut_out m]
    exact e _ _ (by rw [cut_out (by simpa using ne)]; exact S.ex _ _ h)
  · have m : a ∉ L.map Prod.fst := fun m => by
      obtain ⟨y, hy, ey⟩ := List.mem_map.mp m
      have z := hL y hy
      rw [ey, h] at z
      have := S.forget.nt y hy
      rw [← Option.some.inj z, t] at this
      cases this
    rw [cut_out m]
    exact h
/-- l.extend(b) -/
theorem n_ext {G H : Hp} {L : List (Addr × HO)} {l b : Addr} {xs zs : List V} {Q : VK} (S : Own G ((l, .lst xs) :: L) H) (hb : H b = some (.lst zs)) (hz : xs.length + zs.length ≤ 1000000) (k : ∀ H1, Own G ((l, .lst (xs ++ zs)) :: L) H1 → Q .non H1) : rExtend (.ref l) [.ref b] H Q :=
  ⟨l, b, xs, zs, rfl, rfl, S.get0, hb, small (by omega), k _ S.put0⟩
/-- links by places: below first -/
def RawL (m : Int) (ips : List Pr) : Prop := ips.Nodup ∧ ∀ q ∈ ips, 0 ≤ q.1 ∧ q.1 < q.2 ∧ q.2 < m
theorem raw_okl {n : Nat} {ips : List Pr} (h : RawL (n : Int) ips) : Okl n ips := h.2
theorem okl_len {n : Nat} {ls : List Pr} (ok : Okl n ls) (nd : ls.Nodup) (hn : n ≤ 60) : ls.length ≤ 10000 := by
  rw [← sortP_len]
  exact ks_len ok.sort (sortP_up _) ((sortP_perm ls).nodup_iff.mpr nd) hn
theorem raw_len {m : Int} {ips : List Pr} (h : RawL m ips) (hm : m ≤ 60) : ips.length ≤ 10000 := okl_len (n := 60) (fun q hq => by have := h.2 q hq; omega) h.1 (Nat.le_refl _)
theorem raw_add {m : Int} {ips : List Pr} {cs : List Int} (h : RawL m ips) (nd : cs.Nodup) (hc : ∀ c ∈ cs, 0 ≤ c ∧ c < m) : RawL (m + 1) (ips ++ cs.map fun c => (c, m)) := by
  refine ⟨List.nodup_append.mpr ⟨h.1, nd_map nd fun x _ y _ e => congrArg Prod.fst e, fun a ha b hb e => ?_⟩, fun q hq => ?_⟩
  · obtain ⟨c, _, rfl⟩ := List.mem_map.mp hb
    have := (h.2 a ha).2.2
    rw [e] at this
    simp only at this
    omega
  · rcases List.mem_append.mp hq with hq | hq
    · have := h.2 q hq
      omega
    · obtain ⟨c, hc', rfl⟩ := List.mem_map.mp hq
      have := hc c hc'
      simp only
      omega
theorem mm_swap (a b : Int) : mmP a b = mmP b a := by unfold mmP; exact Prod.ext (Int.min_comm _ _) (Int.max_comm _ _)
def swP (ns : List Int) (q : Pr) : Pr := (tv ns q.2, tv ns q.1)
theorem names_of {n : Nat} {ms ns : List Int} (hp : ns.Perm ms) (hm : ms = rgI 0 (n : Int)) : IsNames n ns := by
  subst hm
  have hl : (rgI 0 (n : Int)).length = n := by unfold rgI; rw [List.length_map, List.length_range]; omega
  have hnd : (rgI 0 (n : Int)).Nodup := by
    unfold rgI
    exact nd_map List.nodup_range fun x _ y _ e => by omega
  refine ⟨hp.length_eq.trans hl, hp.nodup_iff.mpr hnd, fun x hx => ?_⟩
  have := mem_rgI (hp.mem_iff.mp hx)
  omega
theorem ints_perm {ys : List V} {ms : List Int} (h : ys.Perm (ms.map V.int)) : ∃ ns : List Int, ys = ns.map V.int ∧ ns.Perm ms := by
  obtain ⟨ns, rfl⟩ := ints_of_sub (ns := ms) fun y hy => h.mem_iff.mp hy
  refine ⟨ns, rfl, ?_⟩
  have e := h.map (fun v : V => match v with | .int i => i | _ => 0)
  rw [List.map_map, List.map_map] at e
  have f : ((fun v : V => match v with | .int i => i | _ => 0) ∘ V.int) = (id : Int → Int) := rfl
  rw [f, List.map_id, List.map_id] at e
  exact e
theorem lks_perm {G : Hp} {xs ys : List V} {ps : List Pr} (hl : Lks G xs ps) (h : ys.Perm xs) : ∃ qs, Lks G ys qs ∧ qs.Perm ps := by
  obtain ⟨h1, h2⟩ := lks_k hl
  refine ⟨ys.map (kOf G), lks_of fun x hx => h2 x (h.mem_iff.mp hx), ?_⟩
  rw [← h1]
  exact h.map _
abbrev s__law_links : Stmt := top 21
theorem sc__law_links : FnScope ["_law_well_here", "_law_size", "_law_names", "_law_way", "_law_pairs", "_law_at", "_law_chosen", "_law_below", "_law_pair"] ["_law_well_here", "_law_size"] (defScope s__law_links) := ⟨rfl, rfl, rfl, by decide +kernel, rfl, by decide +kernel, by decide +kernel⟩
/-- links of n stations -/
def spLinksT : Sp := fun vs H Q _ => ∃ (W : Addr) (a b c : Int) (n : Nat), vs = [.ref W, .int (n : Int)] ∧ H W = some (wl a b c) ∧ 1 ≤ n ∧ n ≤ 60 ∧
  ∀ xs ps q H' G' a' b' c', Ex (cut H [(W, wl a b c)]) G' → Own G' [(W, wl a' b' c'), (q, .lst xs)] H' → Lks G' xs ps → Okl n ps → ps.Nodup → Q (.ref q) H'
theorem n_linksT {G H : Hp} {L : List (Addr × HO)} {W : Addr} {a b c : Int} {n : Nat} {Q : VK} {E : XK} (S : Own G ((W, wl a b c) :: L) H) (h1 : 1 ≤ n) (h2 : n ≤ 60)
    (k : ∀ xs ps q G1 H1 a' b' c', Ex G G1 → Own G1 ((W, wl a' b' c') :: (q, .lst xs) :: L) H1 → Lks G1 xs ps → Okl n ps → ps.Nodup → Q (.ref q) H1) : spLinksT [.ref W, .int (n : Int)] H Q E :=
  ⟨W, a, b, c, n, rfl, S.get0, h1, h2, fun xs ps q H' G' a' b' c' e T hl ok nd => by
    obtain ⟨S1, e1, e2⟩ := S.backG e T
    exact k xs ps q _ H' a' b' c' e1 S1 (Paired.mapP hl fun _ _ ⟨t, x, y⟩ => ⟨t, x, e2 _ _ rfl y⟩) ok nd⟩
section
variable {P : Program} {w : World} {K : PySem.W.Frag} {mg : Str → Option Value} {base : Heap}
theorem ok_linksT {f : Addr} {fd : FuncData} (F : Fun K "_law_links" "_law_links" s__law_links f fd) (T : Txt mg) (c__law_take : Cal P w K mg base 1 "_law_take" ["_law_well_here", "_law_bound"] [] spTake)
    (c__law_mixed : Cal P w K mg base 2 "_law_mixed" ["_law_well_here", "_law_some"] [] (spMixed K)) : FnOk P w K mg base CX0 3 f fd ["_law_well_here", "_law_size"] spLinksT := by
  refine F.ok sc__law_links (fun vs H Q E h => ?_) (fun cdv A outer s H vs Q E hr h => ?_)
  · obtain ⟨W, a, b, c, n, rfl, _⟩ := h
    rfl
  · obtain ⟨W, a, b, c, n, rfl, hW, hn1, hn60, k⟩ := h
    have S0 := Own.give (o := wl a b c) hW
    generalize cut H [(W, wl a b c)] = G at S0 k
    refine ⟨_, (pss_cons (ps_set (i := 2) sc__law_links.nd rfl (Or.inr rfl) (pe_cal c__law_mixed (hr.mono (by first | decide | omega)) passN (pa_cons (pv 0) (pa_cons (pe_listRg rfl (by rfl) T.n_list (prg_1 (by rfl) T.n_range (pv 1))) pa_nil))))
      (pss_cons (ps_set (i := 3) sc__law_links.nd rfl (Or.inr rfl) (pe_cal c__law_take (hr.mono (by first | decide | omega)) passN (pa_cons (pv 0) (pa_cons pe_int pa_nil))))
      (pss_cons (ps_set (i := 4) sc__law_links.nd rfl (Or.inl rfl) (pe_lst pa_nil))
      (pss_cons (ps_for PassesOwn.never rfl (pi_range2 (by rfl) T.n_range (pa_cons pe_int (pa_cons (pv 1) pa_nil))) (pg_name (i := 5) sc__law_links.nd rfl (Or.inr rfl)) (pss_cons (ps_set (i := 6) sc__law_links.nd rfl (Or.inl rfl) (pe_lst (pa_cons (pe_cal c__law_take (hr.mono (by first | decide | omega)) passN (pa_cons (pv 0) (pa_cons (pv 5) pa_nil))) pa_nil)))
      (pss_cons (ps_if (pt_cmpR op_lt (pv 3) pe_int (nomark _)) (pss_one (ps_setLc (i := 6) (own := [("_law_below", 7)]) (by rfl) sc__law_links.nd rfl rfl (sw_true rfl rfl rfl (by decide +kernel)) (pi_range1 (by rfl) T.n_range (pa_cons (pv 5) pa_nil)) (blkOk_by (own := [("_law_below", 7)]) (N := ["_law_well_here", "_law_size", "_law_names", "_law_way", "_law_pairs", "_law_at", "_law_chosen", "_law_below", "_law_pair"]) (sc := defScope s__law_links) (by decide +kernel)) (fun _ _ _ _ _ => (pg_name (i := 7) sc__law_links.nd rfl (Or.inl rfl))) (fun _ _ _ _ _ => (pts_one (pt_cmpR op_eq (pe_cal c__law_take (hr.mono (by first | decide | omega)) passN (pa_cons (pv 0) (pa_cons (pe_ix (ix_listK (K := K)) (pe_lst (pa_cons pe_int (pa_cons pe_int pa_nil))) (pv 3) (fun _ _ => rfl)) pa_nil))) pe_int (nomark _)))) (fun _ _ _ _ _ => (pv 7)))) (pss_one (ps_if (pt_cmpR op_eq (pv 3) pe_int (nomark _)) (pss_one (ps_set (i := 6) sc__law_links.nd rfl (Or.inl rfl) (pe_op op_catL (pe_lst (pa_cons (pe_op op_sub (pv 5) pe_int) pa_nil)) (pe_op op_rep (pe_lst (pa_cons pe_int pa_nil)) (pe_callTy call_intN (by rfl) T.n_int (by decide +kernel) (pa_cons (pe_and (pe_cmpR op_eq (pv 5) (pe_op op_sub (pv 1) pe_int) (nomark _)) (pe_one (pe_cmpR op_gt (pv 1) pe_int (nomark _)))) pa_nil)))))) (pss_one (ps_if (pt_cmpR op_eq (pv 3) pe_int (nomark _)) (pss_one (ps_set (i := 6) sc__law_links.nd rfl (Or.inl rfl) (pe_callB (cr_sortedSet rfl) (by rfl) T.n_sorted (by decide +kernel) (pa_cons (pe_callTy (cr_setL (K := K) rfl) (by rfl) T.n_set (by decide +kernel) (pa_cons (pe_op op_catL (pv 6) (pe_lst (pa_cons (pe_cal c__law_take (hr.mono (by first | decide | omega)) passN (pa_cons (pv 0) (pa_cons (pv 5) pa_nil))) pa_nil))) pa_nil)) pa_nil)))) (pss_one (ps_if (pt_cmpR op_eq (pv 3) pe_int (nomark _)) (pss_one (ps_set (i := 6) sc__law_links.nd rfl (Or.inl rfl) (pe_listRg rfl (by rfl) T.n_list (prg_1 (by rfl) T.n_range (pv 5))))) pss_nil)))))))
      (pss_one (ps_expr (pe_bm PySem.F.plainAttrs_list PySem.F.slot_list_extend PySem.F.type_list_extend mt_extend (pv 4) (pa_cons (pe_lc (own := [("_law_below", 7)]) (by rfl) sc__law_links.nd (pi_list (pv 6)) (blkOk_by (own := [("_law_below", 7)]) (N := ["_law_well_here", "_law_size", "_law_names", "_law_way", "_law_pairs", "_law_at", "_law_chosen", "_law_below", "_law_pair"]) (sc := defScope s__law_links) (by decide +kernel)) (fun _ _ _ _ _ => (pg_name (i := 7) sc__law_links.nd rfl (Or.inl rfl))) (fun _ _ _ _ _ => pts_nil) (fun _ _ _ _ _ => (pe_tup (pa_cons (pe_ix (ix_listK (K := K)) (pv 2) (pv 5) (fun _ _ => rfl)) (pa_cons (pe_ix (ix_listK (K := K)) (pv 2) (pv 7) (fun _ _ => rfl)) pa_nil))))) pa_nil)))))))
      (pss_one (ps_ret (pe_cal c__law_mixed (hr.mono (by first | decide | omega)) passN (pa_cons (pv 0) (pa_cons (pe_lc (own := [("_law_pair", 8)]) (by rfl) sc__law_links.nd (pi_list (pv 4)) (blkOk_by (own := [("_law_pair", 8)]) (N := ["_law_well_here", "_law_size", "_law_names", "_law_way", "_law_pairs", "_law_at", "_law_chosen", "_law_below", "_law_pair"]) (sc := defScope s__law_links) (by decide +kernel)) (fun _ _ _ _ _ => (pg_name (i := 8) sc__law_links.nd rfl (Or.inl rfl))) (fun _ _ _ _ _ => pts_nil) (fun _ _ _ _ _ => (pe_tup (pa_cons (pe_callB (cr_minT (K := K) rfl) (by rfl) T.n_min (by decide +kernel) (pa_cons (pv 8) pa_nil)) (pa_cons (pe_callB (cr_maxT (K := K) rfl) (by rfl) T.n_max (by decide +kernel) (pa_cons (pv 8) pa_nil)) pa_nil))))) pa_nil))))))))), ?_⟩
    walk_at "go"
    refine n_rgG S0 (by omega) fun rp G1 H1 _ e1 _ hrp S1 => ?_
    rw [rgV_eq] at hrp
    walk_at "go"
    refine n_mixed S1 (SqL.of hrp) (data_ints K _ _) (by rw [List.length_map]; unfold rgI; rw [List.length_map, List.length_range]; omega) fun nys nq H2 a2 b2 c2 hnp _ S2 => ?_
    obtain ⟨ns, rfl, hperm⟩ := ints_perm hnp
    have hns := names_of (n := n) hperm rfl
    obtain ⟨S3, e3, hnq⟩ := S2.swap.freeze
    generalize upd G1 nq (.lst (ns.map V.int)) = G3 at S3 e3 hnq
    walk_at "go"
    refine n_take S3 ⟨by decide, by decide⟩ fun wy a4 b4 c4 H4 hw0 hw6 S4 => ?_
    walk_at "go"
    refine n_lst S4 (by decide) fun pq H5 hpq S5 => ?_
    walk_at "go"
    refine w_rng2 (fun i σ' H' => (∃ x1 x2 x3 x4, σ' = [some (.ref W), some (.int (n : Int)), some (.ref nq), some (.int wy), some (.ref pq), x1, x2, x3, x4]) ∧ ∃ (G' : Hp) (a' b' c' : Int) (xs : List V) (ips : List Pr),
      Ex G3 G' ∧ Own G' [(W, wl a' b' c'), (pq, .lst xs)] H' ∧ Lks G' xs (ips.map (swP ns)) ∧ RawL (1 + (i : Int)) ips ∧ 1 + (i : Int) ≤ (n : Int)) ⟨by decide, by decide, by omega, by omega⟩
      ⟨⟨_, _, _, _, rfl⟩, G3, a4, b4, c4, [], [], Ex.refl _, S5.swap, .nil, ⟨List.nodup_nil, fun q hq => nomatch hq⟩, by omega⟩ ?_ ?_
    · rintro i σ' H' hi ⟨⟨x1, x2, x3, x4, rfl⟩, G', a', b', c', xs, ips, eG, S, hl, hraw, _⟩
      have hlen : xs.length ≤ 10000 := by
        rw [pr_len hl, List.length_map]
        exact raw_len hraw (by omega)
      walk_at "go"
      refine n_take S ⟨by omega, by omega⟩ fun r5 a5 b5 c5 H6 h50 h51 S6 => ?_
      walk_at "go"
      refine n_lst S6 (by show 1 ≤ 10000000; decide) fun cq H7 hcq S7 => ?_
      refine s_name ?_
      refine s_seq ?_
      refine s_join (fun σ2 H2 => (∃ (cq : Addr) (x3 x4 : Option V) (G2 : Hp) (a b c : Int) (cs : List Int), σ2 = [some (.ref W), some (.int (n : Int)), some (.ref nq), some (.int wy), some (.ref pq), some (.int (1 + (i : Int))), some (.ref cq), x3, x4] ∧ Ex G' G2 ∧ Own G2 [(W, wl a b c), (pq, .lst xs)] H2 ∧
        G2 cq = some (.lst (cs.map V.int)) ∧ cs.Nodup ∧ ∀ x ∈ cs, 0 ≤ x ∧ x < 1 + (i : Int))) ?_ (fun n' hn' => ?_)
      · rintro σ2 H2 ⟨cq, x3, x4, G2, a, b, c, cs, rfl, e2, S, hcq, hnd, hcs⟩
        have hcl : cs.length ≤ 10000 := by
          have z := raw_add (m := 1 + (i : Int)) (ips := []) ⟨List.nodup_nil, fun q hq => nomatch hq⟩ hnd hcs
          have z2 := raw_len z (by omega)
          rw [List.length_append, List.length_map, List.length_nil] at z2
          omega
        walk_at "go"
        refine ⟨tyL (SqL.of S.get1), ?_⟩
        walk_at "go"
        refine v_list (xs := cs.map V.int) (fun j acc G4 L4 => L4 = [(W, wl a b c), (pq, .lst xs)] ∧ Lks G4 acc ((cs.take j).map fun x => (tv ns (1 + (i : Int)), tv ns x))) S (SqL.of hcq) (by rw [List.length_map]; omega) ⟨rfl, .nil⟩ ?_ ?_
        · rintro D j x acc G4 L4 H4 hx hj e4 hl4 ⟨rfl, ha⟩ S4
          obtain ⟨y, hy, rfl⟩ := get_map hx
          have hyr := hcs y (List.mem_of_getElem? hy)
          have hnq4 := S4.ex _ _ (e4 _ _ (e2 _ _ (eG _ _ hnq)))
          walk_at "go"
          refine ⟨rfl, ?_⟩
          walk_at "go"
          refine g_ixL (SqL.of hnq4) (at_tv (by omega) (by rw [hns.1]; omega)) ?_
          walk_at "go"
          refine g_ixL (SqL.of hnq4) (at_tv (by omega) (by rw [hns.1]; omega)) ?_
          walk_at "go"
          refine n_tup S4 (by show 2 ≤ 10000000; decide) fun t G6 H6 _ e6 _ ht S6 => ?_
          refine c_yes S6 (e4.trans e6) hl4 hj ⟨rfl, ?_⟩
          rw [take_snoc hy, List.map_append]
          exact pr_snoc (ha.mono e6) ⟨t, rfl, ht⟩
        · rintro D acc G4 L4 H4 e4 hl4 ⟨rfl, ha⟩ S4
          rw [List.length_map] at hl4
          rw [List.length_map, List.take_length] at ha
          walk_at "go"
          refine n_ext S4.rot S4.get0 (by omega) fun H5 S5 => ?_
          refine ⟨⟨_, _, _, _, rfl⟩, G4, a, b, c, xs ++ acc, ips ++ cs.map (fun x => (x, 1 + (i : Int))), eG.trans (e2.trans e4), (S5.swap.forget).swap, ?_, ?_, by omega⟩
          · rw [List.map_append, List.map_map]
            exact pr_app (hl.mono (e2.trans e4)) ha
          · have z := raw_add hraw hnd hcs
            have e : (1 : Int) + ((i + 1 : Nat) : Int) = 1 + (i : Int) + 1 := by omega
            rw [e]
            exact z
      · have one : ∀ v : Int, [v].Nodup := fun v => by simp
        walk_at "go"
        refine if_2 (fun e => ?_) (fun e => ?_)
        · have e := of_decide_eq_true e
          walk_at "go"
          refine v_rng1 (j := 1 + (i : Int)) (fun j acc G4 L4 => ∃ (a b c : Int) (cs : List Int), L4 = [(W, wl a b c), (pq, .lst xs)] ∧ acc = cs.map V.int ∧ cs.Nodup ∧ ∀ x ∈ cs, 0 ≤ x ∧ x < (j : Int)) S7.forget (by omega) ⟨a5, b5, c5, [], rfl, rfl, List.nodup_nil, fun x hx => nomatch hx⟩ ?_ ?_
          · rintro D j acc G4 L4 H4 hj hj' e4 hl4 ⟨a, b, c, cs, rfl, rfl, hnd, hcs⟩ S4
            walk_at "go"
            refine ⟨rfl, ?_⟩
            walk_at "go"
            refine n_lstG S4 (by show 2 ≤ 10000000; decide) fun lq G6 H6 _ e6 _ hlq S6 => ?_
            obtain ⟨v, hv, hv1⟩ : ∃ v : Int, atI [V.int 3, V.int 2] wy = some (.int v) ∧ (v = 3 ∨ v = 2) := by
              have : wy = 0 ∨ wy = 1 := by omega
              rcases this with rfl | rfl
              · exact ⟨3, rfl, .inl rfl⟩
              · exact ⟨2, rfl, .inr rfl⟩
            walk_at "go"
            refine g_ixL (SqL.of (S6.ex _ _ hlq)) hv ?_
            walk_at "go"
            refine n_take S6.swap ⟨by omega, by omega⟩ fun r8 a8 b8 c8 H8 _ _ S8 => ?_
            walk_at "go"
            refine if_2 (fun _ => ?_) (fun _ => ?_)
            · walk_at "go"
              refine c_yes S8.swap (e4.trans e6) hl4 hj' ⟨a8, b8, c8, cs ++ [(j : Int)], rfl, by rw [List.map_append] <;> rfl, List.nodup_append.mpr ⟨hnd, one _, fun x hx y hy z => ?_⟩, fun x hx => ?_⟩
              · have := hcs x hx
                have hy : y = (j : Int) := by simpa using hy
                omega
              · rcases List.mem_append.mp hx with hx | hx
                · have := hcs x hx
                  omega
                · have hx : x = (j : Int) := by simpa using hx
                  omega
            · exact c_no S8.swap (e4.trans e6) hl4 ⟨a8, b8, c8, cs, rfl, rfl, hnd, fun x hx => by have := hcs x hx; omega⟩
          · rintro D acc G4 L4 H4 e4 hl4 ⟨a, b, c, cs, rfl, rfl, hnd, hcs⟩ S4
            obtain ⟨S6, e6, h6⟩ := S4.freeze
            walk_at "go"
            exact hn' _ _ ⟨D, _, _, _, a, b, c, cs, rfl, e4.trans e6, S6, h6, hnd, fun x hx => by have := hcs x hx; omega⟩
        · have e := of_decide_eq_false e
          walk_at "go"
          refine if_2 (fun e2 => ?_) (fun e2 => ?_)
          · walk_at "go"
            refine n_lst S7.forget (by show 1 ≤ 10000000; decide) fun q1 H8 _ S8 => ?_
            walk_at "go"
            refine n_lst S8 (by show 1 ≤ 10000000; decide) fun q2 H9 _ S9 => ?_
            walk_at "go"
            refine if_2 (fun e3 => ?_) (fun e3 => ?_)
            · have e3 := of_decide_eq_true e3
              walk_at "go"
              refine n_rep S9 (by split <;> omega) (by split <;> omega) fun q3 G10 H10 _ e10 _ hq3 S10 => ?_
              refine n_catG S10.forget (S10.l0) (SqL.of (S10.ex _ _ hq3)) (by simp; split <;> decide) fun q4 G11 H11 _ e11 _ hq4 S11 => ?_
              walk_at "go"
              by_cases c2 : (2 : Int) < (n : Int)
              · refine hn' _ _ ⟨q4, _, _, G11, a5, b5, c5, [1 + (i : Int) - 1, 0], rfl, e10.trans e11, S11, ?_, ?_, ?_⟩
                · rw [hq4]
                  simp [c2]
                · simp
                  omega
                · intro x hx
                  simp only [List.mem_cons, List.not_mem_nil, or_false] at hx
                  omega
              · refine hn' _ _ ⟨q4, _, _, G11, a5, b5, c5, [1 + (i : Int) - 1], rfl, e10.trans e11, S11, ?_, one _, ?_⟩
                · rw [hq4]
                  simp [c2]
                · intro x hx
                  simp only [List.mem_cons, List.not_mem_nil, or_false] at hx
                  omega
            · walk_at "go"
              refine n_rep S9 (by decide) (by decide) fun q3 G10 H10 _ e10 _ hq3 S10 => ?_
              refine n_catG S10.forget (S10.l0) (SqL.of (S10.ex _ _ hq3)) (by simp) fun q4 G11 H11 _ e11 _ hq4 S11 => ?_
              walk_at "go"
              refine hn' _ _ ⟨q4, _, _, G11, a5, b5, c5, [1 + (i : Int) - 1], rfl, e10.trans e11, S11, ?_, one _, ?_⟩
              · rw [hq4]
                simp
              · intro x hx
                simp only [List.mem_cons, List.not_mem_nil, or_false] at hx
                omega
          · walk_at "go"
            refine if_2 (fun e3 => ?_) (fun e3 => ?_)
            · walk_at "go"
              refine n_take S7.swap ⟨by omega, by omega⟩ fun r8 a8 b8 c8 H8 h80 h81 S8 => ?_
              walk_at "go"
              refine n_lst S8 (by show 1 ≤ 10000000; decide) fun q1 H9 _ S9 => ?_
              refine n_cat S9 (SqL.of S9.get2) (S9.l0) (by show 1 + 1 ≤ 10000000; decide) fun q2 H10 _ S10 => ?_
              walk_at "go"
              refine n_setL (ns := [r5, r8]) S10 S10.l0 (by show 2 < 60; decide) fun q3 c H11 _ hc S11 => ?_
              walk_at "go"
              refine n_sortSet S11 (by have : ([r5, r8] : List Int).length = 2 := rfl; omega) fun ms q4 G12 H12 hms hmem _ e12 _ hq4 S12 => ?_
              walk_at "go"
              refine hn' _ _ ⟨q4, _, _, G12, a8, b8, c8, ms, rfl, e12, ?_, hq4, hms.imp fun {x y} (h : x < y) => by omega, fun x hx => ?_⟩
              · exact S12.forget.forget.swap.forget
              · have := (hmem x).mp hx
                simp only [List.mem_cons, List.not_mem_nil, or_false] at this
                omega
            · walk_at "go"
              refine if_2 (fun e4 => ?_) (fun e4 => ?_)
              · walk_at "go"
                refine n_rgG S7.forget (by omega) fun q1 G8 H8 _ e8 _ hq1 S8 => ?_
                rw [rgV_eq] at hq1
                walk_at "go"
                refine hn' _ _ ⟨q1, _, _, G8, a5, b5, c5, rgI 0 (1 + (i : Int)), rfl, e8, S8, hq1, ?_, fun x hx => mem_rgI hx⟩
                unfold rgI
                exact nd_map List.nodup_range fun x _ y _ e => by omega
              · obtain ⟨S8, e8, h8⟩ := S7.freeze
                walk_at "go"
                refine hn' _ _ ⟨cq, _, _, _, a5, b5, c5, [r5], rfl, e8, S8, h8, one _, fun x hx => ?_⟩
                simp only [List.mem_cons, List.not_mem_nil, or_false] at hx
                omega
    · rintro σ' H' ⟨⟨x1, x2, x3, x4, rfl⟩, G', a', b', c', xs, ips, eG, S, hl, hraw, _⟩
      have hraw' : RawL (n : Int) ips := by
        have e : 1 + (((n : Int) - 1).toNat : Int) = (n : Int) := by omega
        rw [e] at hraw
        exact hraw
      have ok := raw_okl hraw'
      have hlen := okl_len ok hraw'.1 hn60
      obtain ⟨S6, e6, h6⟩ := S.swap.freeze
      generalize upd G' pq (.lst xs) = G6 at S6 e6 h6
      have hl6 := hl.mono e6
      walk_at "go"
      refine v_list (xs := xs) (fun j acc G7 L7 => L7 = [(W, wl a' b' c')] ∧ Lks G7 acc ((renL ns ips).take j)) S6 (SqL.of h6) (by rw [pr_len hl, List.length_map]; omega) ⟨rfl, .nil⟩ ?_ ?_
      · rintro D j x acc G7 L7 H7 hx hj e7 hl7 ⟨rfl, ha⟩ S7
        obtain ⟨q, hq, t, rfl, ht⟩ := pr_get hl6 hx
        obtain ⟨q0, hq0, rfl⟩ := get_map hq
        have ht' := S7.ex _ _ (e7 _ _ ht)
        walk_at "go"
        refine ⟨rfl, ?_⟩
        walk_at "go"
        refine n_minT2 ht' ?_
        walk_at "go"
        refine n_maxT2 ht' ?_
        walk_at "go"
        refine n_tup S7 (by show 2 ≤ 10000000; decide) fun t2 G8 H8 _ e8 _ ht2 S8 => ?_
        refine c_yes S8 (e7.trans e8) hl7 hj ⟨rfl, ?_⟩
        have eq : (renL ns ips)[j]? = some (mmP (tv ns q0.1) (tv ns q0.2)) := by unfold renL; rw [List.getElem?_map, hq0] <;> rfl
        rw [take_snoc eq]
        refine pr_snoc (ha.mono e8) ⟨t2, rfl, ?_⟩
        rw [mm_swap]
        exact ht2
      · rintro D acc G7 L7 H7 e7 hl7 ⟨rfl, ha⟩ S7
        have el : xs.length = (renL ns ips).length := by rw [pr_len hl, List.length_map, ren_len]
        rw [el, List.take_length] at ha
        obtain ⟨S8, e8, h8⟩ := S7.freeze
        have ha8 := ha.mono e8
        generalize upd G7 D (.lst acc) = G8 at S8 e8 h8 ha8
        walk_at "go"
        refine n_mixed S8 (SqL.of h8) (data_lks ha8) (by rw [pr_len ha, ren_len]; omega) fun ys q H9 a9 b9 c9 hpm _ S9 => ?_
        obtain ⟨qs, hqs, hperm2⟩ := lks_perm ha8 hpm
        exact k ys qs q H9 G8 a9 b9 c9 ((e1.trans e3).trans ((eG.trans e6).trans (e7.trans e8))) S9 hqs (fun z hz => ren_ok hns ok z (hperm2.mem_iff.mp hz)) (hperm2.nodup_iff.mpr (ren_nd hns ok hraw'.1))
end
end NX

namespace NX
open PySem PySem.Spec PyProof.Rows L2
open Evl (Ex ex_l ex_t fresh_back)
/-! ### _law_near, _law_table -/
/-- at a: the lists of the neighbours of n stations -/
def NearAt (H : Hp) (a : Addr) (n : Nat) (ks : List Pr) : Prop := ∃ nps : List Addr, H a = some (.lst (nps.map V.ref)) ∧ nps.length = n ∧ ∀ (i : Nat) (p : Addr), nps[i]? = some p → H p = some (.lst ((nb ks (i : Int)).map V.int))
theorem NearAt.mono {G H : Hp} {a : Addr} {n : Nat} {ks : List Pr} (h : NearAt G a n ks) (e : Ex G H) : NearAt H a n ks := by
  obtain ⟨nps, h1, h2, h3⟩ := h
  exact ⟨nps, e _ _ h1, h2, fun i p q => e _ _ (h3 i p q)⟩
abbrev s__law_near : Stmt := top 22
theorem sc__law_near : FnScope ["_law_size", "_law_links_here", "_law_found", "_law_one", "_law_two", "_law_station"] ["_law_size", "_law_links_here"] (defScope s__law_near) := ⟨rfl, rfl, rfl, by decide +kernel, rfl, by decide +kernel, by decide +kernel⟩
abbrev s__law_table : Stmt := top 23
theorem sc__law_table : FnScope ["_law_near_here", "_law_found", "_law_later", "_law_some", "_law_number", "_law_one", "_law_station"] ["_law_near_here"] (defScope s__law_table) := ⟨rfl, rfl, rfl, by decide +kernel, rfl, by decide +kernel, by decide +kernel⟩
/-- n stations, links in any order -/
def spNear : Sp := fun vs H Q _ => ∃ (n : Nat) (p : Addr) (xs : List V) (ps : List Pr), vs = [.int (n : Int), .ref p] ∧ H p = some (.lst xs) ∧ Lks H xs ps ∧ Okl n ps ∧ n ≤ 1000 ∧ ps.length ≤ 10000 ∧ ∀ x H', H x = none → Ex H H' → NearAt (nw H H') x n ps → Q (.ref x) H'
theorem n_near {G H : Hp} {L : List (Addr × HO)} {n : Nat} {p : Addr} {xs : List V} {ps : List Pr} {Q : VK} {E : XK} (S : Own G L H) (hp : H p = some (.lst xs)) (hl : Lks H xs ps) (ok : Okl n ps) (hn : n ≤ 1000) (hz : ps.length ≤ 10000)
    (k : ∀ x G1 H1, H x = none → Ex G G1 → Ex H H1 → Own G1 L H1 → NearAt G1 x n ps → Q (.ref x) H1) : spNear [.int (n : Int), .ref p] H Q E :=
  ⟨n, p, xs, ps, rfl, hp, hl, ok, hn, hz, fun x H' hx e N => by
    obtain ⟨S1, e2, e3⟩ := S.absorb e
    exact k x _ H' hx e2 e S1 (N.mono e3)⟩
theorem nb_len (ps : List Pr) (i : Int) : (nb ps i).length ≤ ps.length := List.length_filterMap_le _ _
section
variable {P : Program} {w : World} {K : PySem.W.Frag} {mg : Str → Option Value} {base : Heap}
theorem ok_near {f : Addr} {fd : FuncData} (F : Fun K "_law_near" "_law_near" s__law_near f fd) (T : Txt mg) : FnOk P w K mg base CX0 1 f fd ["_law_size", "_law_links_here"] spNear := by
  refine F.ok sc__law_near (fun vs H Q E h => ?_) (fun cdv A outer s H vs Q E hr h => ?_)
  · obtain ⟨n, p, xs, ps, rfl, _⟩ := h
    rfl
  · obtain ⟨n, p, xs, ps, rfl, hp, hl, ok, hn, hz, k⟩ := h
    refine ⟨_, (pss_cons (ps_setLc (i := 2) (own := [("_law_station", 5)]) (by rfl) sc__law_near.nd rfl rfl (sw_true rfl rfl rfl (by decide +kernel)) (pi_range1 (by rfl) T.n_range (pa_cons (pv 0) pa_nil)) (blkOk_by (own := [("_law_station", 5)]) (N := ["_law_size", "_law_links_here", "_law_found", "_law_one", "_law_two", "_law_station"]) (sc := defScope s__law_near) (by decide +kernel)) (fun _ _ _ _ _ => (pg_name (i := 5) sc__law_near.nd rfl (Or.inl rfl))) (fun _ _ _ _ _ => pts_nil) (fun _ _ _ _ _ => (pe_lst pa_nil)))
      (pss_cons (ps_for PassesOwn.never rfl (pi_list (pv 1)) (pg_tup (n := 2) rfl (pgs_cons (pg_name (i := 3) sc__law_near.nd rfl (Or.inl rfl)) (pgs_cons (pg_name (i := 4) sc__law_near.nd rfl (Or.inl rfl)) pgs_nil))) (pss_cons (ps_expr (pe_bm PySem.F.plainAttrs_list PySem.F.slot_list_append PySem.F.type_list_append mt_append (pe_ix ix_list (pv 2) (pv 3) (fun _ _ => rfl)) (pa_cons (pv 4) pa_nil)))
      (pss_one (ps_expr (pe_bm PySem.F.plainAttrs_list PySem.F.slot_list_append PySem.F.type_list_append mt_append (pe_ix ix_list (pv 2) (pv 4) (fun _ _ => rfl)) (pa_cons (pv 3) pa_nil))))))
      (pss_one (ps_ret (pv 2))))), ?_⟩
    walk_at "go"
    refine v_rng1 (j := (n : Int)) (fun i acc G' L' => G' = H ∧ ∃ nps : List Addr, nps.length = i ∧ acc = nps.map V.ref ∧ L' = nearL nps fun _ => []) (Own.start H) (by omega) ⟨rfl, [], rfl, rfl, rfl⟩ ?_ ?_
    · rintro D i acc G' L' H4 hi hi' e4 hl4 ⟨hG, nps, rfl, rfl, rfl⟩ S4
      subst hG
      walk_at "go"
      refine ⟨rfl, ?_⟩
      walk_at "go"
      refine n_lst S4 (by decide) fun q H5 hq S5 => ?_
      refine c_yes (acc := nps.map V.ref) (L1 := nearL (nps ++ [q]) fun _ => []) (S5.perm ?_) e4 hl4 hi' ⟨rfl, nps ++ [q], by rw [List.length_append]; rfl, by rw [List.map_append] <;> rfl, rfl⟩
      rw [nearL_snoc]
      exact ((List.perm_append_singleton _ _).cons _).trans (List.Perm.swap _ _ _)
    · rintro np acc G' L' H4 e4 _ ⟨hG, nps, hlen, rfl, rfl⟩ S4
      subst hG
      have hlen : nps.length = n := by omega
      obtain ⟨S6, e6, hnp⟩ := S4.freeze
      have hnp0 : G' np = none := S4.no0
      generalize upd G' np (.lst (nps.map V.ref)) = G6 at S6 e6 hnp
      have hl6 := hl.mono e6
      walk_at "go"
      refine w_list (xs := xs) (fun i σ' H' => (∃ x1 x2 x3, σ' = [some (.int (n : Int)), some (.ref p), some (.ref np), x1, x2, x3]) ∧ Own G6 (nearL nps fun j => nb (ps.take i) (j : Int)) H') (SqL.of (S6.ex _ _ (e6 _ _ hp))) ⟨⟨_, _, _, rfl⟩, S6⟩ (fun i σ' H' h => SqL.of (h.2.ex _ _ (e6 _ _ hp))) ?_ ?_
      · rintro i y σ' H' hy ⟨⟨x1, x2, x3, rfl⟩, S⟩
        obtain ⟨q, hq, t, rfl, ht6⟩ := pr_get hl6 hy
        have hb := ok q (List.mem_of_getElem? hq)
        obtain ⟨a, ha⟩ : ∃ a : Nat, q.1 = (a : Int) := ⟨q.1.toNat, by omega⟩
        obtain ⟨b, hbq⟩ : ∃ b : Nat, q.2 = (b : Int) := ⟨q.2.toNat, by omega⟩
        have hab : a ≠ b := by omega
        obtain ⟨pa, hpa⟩ : ∃ p, nps[a]? = some p := ⟨_, List.getElem?_eq_getElem (by omega)⟩
        obtain ⟨pb, hpb⟩ : ∃ p, nps[b]? = some p := ⟨_, List.getElem?_eq_getElem (by omega)⟩
        have hz2 : ∀ j : Nat, (nb (ps.take i) (j : Int)).length ≤ 10000 := fun j => Nat.le_trans (nb_len _ _) (by rw [List.length_take]; omega)
        refine s_gtup (S.st (SqT.of ht6)) rfl ?_
        walk_at "go"
        rw [ha]
        refine g_ixL (SqL.of (S.ex _ _ hnp)) (atI_nat (j := a) (v := .ref pa) (by rw [List.getElem?_map, hpa] <;> rfl)) ?_
        have ea : (nearL nps fun j => nb (ps.take i) (j : Int))[a]? = some (pa, .lst ((nb (ps.take i) (a : Int)).map V.int)) := nearL_get hpa
        refine ⟨tyL (SqL.of (S.getM (List.mem_of_getElem? ea))), ?_⟩
        walk_at "go"
        refine n_appM S ea (by rw [List.length_map]; have := hz2 a; omega) fun H7 S7 => ?_
        have eset : (nearL nps fun j => nb (ps.take i) (j : Int)).set a (pa, .lst ((nb (ps.take i) (a : Int)).map V.int ++ [.int q.2])) = nearL nps fun j => if j = a then nb (ps.take i) (j : Int) ++ [q.2] else nb (ps.take i) (j : Int) := by
          have e := nearL_set (g := fun j => nb (ps.take i) (j : Int)) (g' := fun j => if j = a then nb (ps.take i) (j : Int) ++ [q.2] else nb (ps.take i) (j : Int)) hpa (fun j hj => if_neg hj)
          rw [← e]
          simp
        rw [eset] at S7
        walk_at "go"
        rw [hbq]
        refine g_ixL (SqL.of (S7.ex _ _ hnp)) (atI_nat (j := b) (v := .ref pb) (by rw [List.getElem?_map, hpb] <;> rfl)) ?_
        have eb : (nearL nps fun j => if j = a then nb (ps.take i) (j : Int) ++ [q.2] else nb (ps.take i) (j : Int))[b]? = some (pb, .lst ((nb (ps.take i) (b : Int)).map V.int)) := by
          have z := nearL_get (g := fun j => if j = a then nb (ps.take i) (j : Int) ++ [q.2] else nb (ps.take i) (j : Int)) hpb
          rw [if_neg (Ne.symm hab)] at z
          exact z
        refine ⟨tyL (SqL.of (S7.getM (List.mem_of_getElem? eb))), ?_⟩
        walk_at "go"
        refine n_appM S7 eb (by rw [List.length_map]; have := hz2 b; omega) fun H8 S8 => ?_
        have etk : ps.take (i + 1) = ps.take i ++ [q] := take_snoc hq
        have eset2 : (nearL nps fun j => if j = a then nb (ps.take i) (j : Int) ++ [q.2] else nb (ps.take i) (j : Int)).set b (pb, .lst ((nb (ps.take i) (b : Int)).map V.int ++ [.int q.1])) = nearL nps fun j => nb (ps.take (i + 1)) (j : Int) := by
          have e := nearL_set (g := fun j => if j = a then nb (ps.take i) (j : Int) ++ [q.2] else nb (ps.take i) (j : Int)) (g' := fun j => nb (ps.take (i + 1)) (j : Int)) hpb (fun j hj => by
            rw [etk, nb_one_n (n := n) ha hbq hab, if_neg hj, ← hbq])
          rw [← e]
          simp only [etk]
          rw [nb_one_n (n := n) ha hbq hab, if_neg (Ne.symm hab), if_pos rfl]
          simp [ha]
        rw [ha] at eset2
        rw [eset2] at S8
        walk_at "go"
        exact ⟨⟨_, _, _, rfl⟩, S8⟩
      · rintro σ' H' ⟨⟨x1, x2, x3, rfl⟩, S⟩
        rw [(pr_len hl), List.take_length] at S
        walk_at "go"
        have new : ∀ a : Addr, G' a = none → nw G' H' a = H' a := fun a h => nw_new h
        refine k np H' hnp0 (e6.trans S.ex) ⟨nps, (new np hnp0).trans (S.ex _ _ hnp), hlen, fun i p hp => ?_⟩
        have m := List.mem_of_getElem? (nearL_get (g := fun j => nb ps (j : Int)) hp)
        exact (new p (fresh_back e6 (S.at_ _ m).1)).trans (S.at_ _ m).2
/-- a table that grows: f and the one behind it -/
def UpT (n : Nat) (ks : List Pr) (t t' : List Int) : Prop := t.length = n ∧ t'.length = n ∧ (∀ i : Nat, i < n → 0 ≤ tv t (i : Int) ∧ tv t (i : Int) ≤ tv t' (i : Int) ∧ tv t' (i : Int) ≤ (ks.length : Int) + 1)
theorem up_step {n : Nat} {ks : List Pr} {t t' t'' : List Int} (ok : Okl n ks) (h : UpT n ks t t') (hs : (∀ i : Nat, i < n → tv t' (i : Int) = 1) ∨ StepT n ks t t') (s : StepT n ks t' t'') : UpT n ks t' t'' :=
  ⟨h.2.1, s.1, fun i hi => by
    have h1 := h.2.2 i hi
    have h2 := (s.2 i hi).le_len
    rw [List.length_map] at h2
    have h3 := nb_len ks (i : Int)
    refine ⟨by omega, ?_, by omega⟩
    rcases hs with hs | hs
    · have := (s.2 i hi).1
      have := hs i hi
      omega
    · have := IsCh.mono (f := tv t) (g := tv t') (List.Sublist.refl _) (fun x hx => by
        obtain ⟨j, rfl, hj⟩ := nb_nat ok hx
        exact (h.2.2 j hj).2.1) (hs.2 i hi) (s.2 i hi)
      omega⟩
theorem sum_ub : ∀ {s : List Int} {b : Int}, 0 ≤ b → (∀ i : Nat, i < s.length → tv s (i : Int) ≤ b) → s.sum ≤ b * (s.length : Int)
  | [], b, _, _ => by simp
  | a :: s, b, hb, h => by
    have ih := sum_ub (s := s) hb fun i hi => by
      have := h (i + 1) (by simp; omega)
      rw [tv_cons] at this
      exact this
    have h0 : a ≤ b := h 0 (by simp)
    rw [List.sum_cons, List.length_cons]
    have e : b * ((s.length + 1 : Nat) : Int) = b * (s.length : Int) + b := by
      rw [Int.natCast_add, Int.mul_add]
      simp
    rw [e]
    omega
theorem up_sum {n : Nat} {ks : List Pr} {t t' : List Int} (h : UpT n ks t t') : t.sum ≤ t'.sum ∧ (t' ≠ t → t.sum < t'.sum) ∧ t'.sum ≤ ((ks.length : Int) + 1) * (n : Int) := by
  have z := sum_le (s := t) (t := t') (h.1.trans h.2.1.symm) fun i hi => (h.2.2 i (by have := h.1; omega)).2.1
  have u := sum_ub (s := t') (b := (ks.length : Int) + 1) (by omega) fun i hi => (h.2.2 i (by have := h.2.1; omega)).2.2
  rw [h.2.1] at u
  exact ⟨z.1, fun ne => z.2 (Ne.symm ne), u⟩
/-- the table of the law -/
def spTable (K : PySem.W.Frag) : Sp := fun vs H Q _ => ∃ (a : Addr) (n : Nat) (ks : List Pr), vs = [.ref a] ∧ NearAt H a n ks ∧ Okl n ks ∧ n ≤ 1000 ∧ ks.length ≤ 10000 ∧ ∀ t, TabF n ks t → Ret (.tup (t.map V.int)) H Q
theorem n_table {G H : Hp} {L : List (Addr × HO)} {a : Addr} {n : Nat} {ks : List Pr} {Q : VK} {E : XK} (S : Own G L H) (N : NearAt G a n ks) (ok : Okl n ks) (hn : n ≤ 1000) (hz : ks.length ≤ 10000)
    (k : ∀ t p G1 H1, TabF n ks t → H p = none → Ex G G1 → Ex H H1 → G1 p = some (.tup (t.map V.int)) → Own G1 L H1 → Q (.ref p) H1) : spTable K [.ref a] H Q E :=
  ⟨a, n, ks, rfl, N.mono S.ex, ok, hn, hz, fun t ht => n_retG S fun p G1 H1 => k t p G1 H1 ht⟩
theorem ok_table {f : Addr} {fd : FuncData} (F : Fun K "_law_table" "_law_table" s__law_table f fd) (T : Txt mg) : FnOk P w K mg base CX0 1 f fd ["_law_near_here"] (spTable K) := by
  refine F.ok sc__law_table (fun vs H Q E h => ?_) (fun cdv A outer s H vs Q E hr h => ?_)
  · obtain ⟨a, n, ks, rfl, _⟩ := h
    rfl
  · obtain ⟨a, n, ks, rfl, N, ok, hn, hz, k⟩ := h
    have hu65 : ∀ X : Cx, X.A = A.deeper (envOfC "_law_table" (defScope s__law_table) s.heap.objs.size f cdv) → X.A.units + 65 < cLine := fun X e => by rw [e]; have := hr.un; omega
    obtain ⟨nps, hnp, hlen, hea⟩ := N
    refine ⟨_, (pss_cons (ps_set (i := 1) sc__law_table.nd rfl (Or.inr rfl) (pe_op op_rep (pe_lst (pa_cons pe_int pa_nil)) (pe_callB call_lenN (by rfl) T.n_len (by decide +kernel) (pa_cons (pv 0) pa_nil))))
      (pss_cons (ps_set (i := 2) sc__law_table.nd rfl (Or.inl rfl) (pe_op op_rep (pe_lst (pa_cons pe_int pa_nil)) (pe_callB call_lenN (by rfl) T.n_len (by decide +kernel) (pa_cons (pv 0) pa_nil))))
      (pss_cons (ps_while PassesOwn.never (pt_cmpR (op_neD (Nat.lt_of_succ_lt (hu65 _ rfl))) (pv 2) (pv 1) (nomark _)) (pss_cons (ps_set (i := 1) sc__law_table.nd rfl (Or.inr rfl) (pv 2))
      (pss_cons (ps_set (i := 2) sc__law_table.nd rfl (Or.inl rfl) (pe_lst pa_nil))
      (pss_one (ps_for PassesOwn.never rfl (pi_list (pv 0)) (pg_name (i := 3) sc__law_table.nd rfl (Or.inl rfl)) (pss_cons (ps_set (i := 4) sc__law_table.nd rfl (Or.inl rfl) pe_int)
      (pss_cons (ps_for PassesOwn.never rfl (pi_list (pe_callB cr_sortedI (by rfl) T.n_sorted (by decide +kernel) (pa_cons (pe_lc (own := [("_law_station", 6)]) (by rfl) sc__law_table.nd (pi_list (pv 3)) (blkOk_by (own := [("_law_station", 6)]) (N := ["_law_near_here", "_law_found", "_law_later", "_law_some", "_law_number", "_law_one", "_law_station"]) (sc := defScope s__law_table) (by decide +kernel)) (fun _ _ _ _ _ => (pg_name (i := 6) sc__law_table.nd rfl (Or.inl rfl))) (fun _ _ _ _ _ => pts_nil) (fun _ _ _ _ _ => (pe_ix (ix_listK (K := K)) (pv 1) (pv 6) (fun _ _ => rfl)))) pa_nil))) (pg_name (i := 5) sc__law_table.nd rfl (Or.inl rfl)) (pss_one (ps_set (i := 4) sc__law_table.nd rfl (Or.inl rfl) (pe_op op_add (pv 4) (pe_callTy call_intN (by rfl) T.n_int (by decide +kernel) (pa_cons (pe_cmpR op_ge (pv 5) (pv 4) (nomark _)) pa_nil))))))
      (pss_one (ps_expr (pe_bm PySem.F.plainAttrs_list PySem.F.slot_list_append PySem.F.type_list_append mt_append (pv 2) (pa_cons (pv 4) pa_nil)))))))))))
      (pss_one (ps_ret (pe_callTy call_tupN (by rfl) T.n_tuple (by decide +kernel) (pa_cons (pv 1) pa_nil))))))), ?_⟩
    walk_at "go"
    refine n_lst (Own.start H) (by decide) fun p1 H1 hp1 S1 => ?_
    walk_at "go"
    refine n_len (SqL.of (S1.ex _ _ hnp)) ?_
    rw [List.length_map, hlen]
    refine n_rep S1 (by omega) (by omega) fun q1 G2 H2 _ e2 _ hq1 S2 => ?_
    walk_at "go"
    refine n_lst S2 (by decide) fun p3 H3 hp3 S3 => ?_
    walk_at "go"
    refine n_len (SqL.of (S3.ex _ _ (e2 _ _ hnp))) ?_
    rw [List.length_map, hlen]
    refine n_rep S3 (by omega) (by omega) fun q3 G4 H4 _ e4 _ hq3 S4 => ?_
    walk_at "go"
    rw [Int.toNat_natCast] at hq1 hq3
    refine s_while (fun m σ' H' => ∃ (qa qb : Addr) (t t' : List Int) (G' : Hp), (∃ x1 x2 x3 x4, σ' = [some (.ref a), some (.ref qa), some (.ref qb), x1, x2, x3, x4]) ∧ m = (((ks.length : Int) + 1) * (n : Int) - t.sum).toNat ∧ UpT n ks t t' ∧ ((∀ i : Nat, i < n → tv t' (i : Int) = 1 ∧ tv t (i : Int) = 0) ∨ StepT n ks t t') ∧
      Ex H G' ∧ Own G' [] H' ∧ G' qa = some (.lst (t.map V.int)) ∧ G' qb = some (.lst (t'.map V.int))) _ ⟨q1, q3, List.replicate n 0, List.replicate n 1, G4, ⟨_, _, _, _, rfl⟩, rfl, ⟨by simp, by simp, fun i hi => by rw [tv_rep hi, tv_rep hi]; omega⟩, .inl fun i hi => ⟨tv_rep hi, tv_rep hi⟩, e2.trans e4, S4, e4 _ _ hq1, hq3⟩ ?_
    rintro m σ' H' ⟨qa, qb, t, t', G', ⟨x1, x2, x3, x4, rfl⟩, rfl, hup, hst, eG, S, hqa, hqb⟩
    walk_at "go"
    refine n_neIL (SqL.of (S.ex _ _ hqb)) (SqL.of (S.ex _ _ hqa)) ?_
    walk_at "go"
    have hsum := up_sum hup
    refine if_2 (fun e => ?_) (fun e => ?_)
    · have hne : t' ≠ t := fun z => by rw [dtrue z] at e; cases e
      refine s_turn ?_
      walk_at "go"
      refine n_lst S (by decide) fun d H5 hd S5 => ?_
      walk_at "go"
      refine w_list (xs := nps.map V.ref) (fun i σ' H' => (∃ x2 x3 x4, σ' = [some (.ref a), some (.ref qb), some (.ref d), x2, x3, x4, x1] ∨ True) ∧ (∃ y1 y2 y3 y4, σ' = [some (.ref a), some (.ref qb), some (.ref d), y1, y2, y3, y4]) ∧ ∃ (c : List Int) (G5 : Hp), Ex G' G5 ∧ Own G5 [(d, .lst (c.map V.int))] H' ∧ c.length = i ∧ ∀ j : Nat, j < i → IsCh ((nb ks (j : Int)).map (tv t')) (tv c (j : Int) - 1))
        (SqL.of (S5.ex _ _ (eG _ _ hnp))) ⟨⟨x2, x3, x4, .inr trivial⟩, ⟨_, _, _, _, rfl⟩, [], G', Ex.refl G', S5, rfl, fun j hj => absurd hj (Nat.not_lt_zero j)⟩ (fun i σ' H' ⟨_, _, c, G5, e5, S6, _⟩ => SqL.of (S6.ex _ _ (e5 _ _ (eG _ _ hnp)))) ?_ ?_
      · rintro i y σ' H' hy ⟨_, ⟨y1, y2, y3, y4, rfl⟩, c, G5, e5, S6, hc, hv⟩
        obtain ⟨pi, hpi, rfl⟩ := get_map hy
        have hi : i < n := by rw [← hlen]; exact (List.getElem?_eq_some_iff.mp hpi).1
        have hni := e5 _ _ (eG _ _ (hea i pi hpi))
        have hz2 := nb_len ks (i : Int)
        walk_at "go"
        refine v_list (xs := (nb ks (i : Int)).map V.int) (fun j acc G7 L7 => L7 = [(d, .lst (c.map V.int))] ∧ acc = (((nb ks (i : Int)).take j).map (tv t')).map V.int) S6 (SqL.of hni) (by rw [List.length_map]; omega) ⟨rfl, rfl⟩ ?_ ?_
        · rintro D j x acc G7 L7 H7 hx hj e7 hl7 ⟨rfl, rfl⟩ S7
          obtain ⟨y, hy, rfl⟩ := get_map hx
          obtain ⟨y', rfl, hy'⟩ := nb_nat ok (List.mem_of_getElem? hy)
          walk_at "go"
          refine ⟨rfl, ?_⟩
          walk_at "go"
          refine g_ixL (SqL.of (S7.ex _ _ (e7 _ _ (e5 _ _ hqb)))) (at_tv (by omega) (by have := hup.2.1; omega)) ?_
          exact c_yes S7 e7 hl7 hj ⟨rfl, by rw [take_snoc hy, List.map_append, List.map_append] <;> rfl⟩
        · rintro p7 acc G7 L7 H7 e7 _ ⟨rfl, rfl⟩ S7
          rw [List.length_map, List.take_length] at S7
          walk_at "go"
          refine n_sortI S7.forget S7.l0 fun ms q8 G8 H8 hpm hsrt _ e8 _ hq8 S8 => ?_
          walk_at "go"
          refine w_list (xs := ms.map V.int) (fun j σ' H' => (∃ g z, σ' = [some (.ref a), some (.ref qb), some (.ref d), some (.ref pi), some (.int g), z, y4] ∧ IsCh (ms.take j) (g - 1)) ∧ Own G8 [(d, .lst (c.map V.int))] H') (SqL.of (S8.ex _ _ hq8)) ⟨⟨1, _, rfl, by rw [List.take_zero]; exact IsCh.nil⟩, S8⟩ (fun i σ' H' h => SqL.of (h.2.ex _ _ hq8)) ?_ ?_
          · rintro j y σ' H' hy ⟨⟨g, x, rfl, hc'⟩, S9⟩
            obtain ⟨z, hz', rfl⟩ := get_map hy
            have hc2 := IsCh.snoc (x := z) hc' fun y hy => by
              obtain ⟨l, hl, e⟩ := List.mem_iff_getElem.mp hy
              have hl' : l < j ∧ l < ms.length := by rw [List.length_take] at hl; omega
              rw [List.getElem_take] at e
              obtain ⟨hi, ez⟩ := List.getElem?_eq_some_iff.mp hz'
              have := List.pairwise_iff_getElem.mp hsrt l j hl'.2 hi hl'.1
              omega
            rw [← take_snoc hz'] at hc2
            walk_at "go"
            refine ⟨⟨_, _, rfl, ?_⟩, S9⟩
            have eq : g + (if decide (g ≤ z) = true then 1 else 0) - 1 = (if z > g - 1 then g - 1 + 1 else g - 1) := by
              by_cases c1 : g ≤ z
              · rw [decide_eq_true c1, if_pos rfl, if_pos (by omega)]
                omega
              · rw [decide_eq_false c1, if_neg Bool.false_ne_true, if_neg (by omega)]
                omega
            rw [eq]
            exact hc2
          · rintro σ' H' ⟨⟨g, x, rfl, hc'⟩, S9⟩
            rw [List.length_map, List.take_length] at hc'
            walk_at "go"
            refine ⟨tyL S9.l0, ?_⟩
            walk_at "go"
            refine n_app S9 (by rw [List.length_map]; omega) fun H10 S10 => ?_
            refine ⟨⟨x2, x3, x4, .inr trivial⟩, ⟨_, _, _, _, rfl⟩, c ++ [g], G8, (e5.trans e7).trans e8, by rw [List.map_append]; exact S10, by rw [List.length_append, hc] <;> rfl, fun j hj => ?_⟩
            by_cases ej : j = i
            · subst ej
              rw [← hc, tv_app2, hc]
              exact hc'.perm hpm
            · rw [tv_app1 (by omega) (by omega)]
              exact hv j (by omega)
      · rintro σ' H' ⟨_, ⟨y1, y2, y3, y4, rfl⟩, c, G5, e5, S6, hc, hv⟩
        rw [List.length_map, hlen] at hc hv
        have hs' : StepT n ks t' c := ⟨hc, fun i hi => hv i hi⟩
        obtain ⟨S7, e7, hd7⟩ := S6.freeze
        refine ⟨_, ?_, qb, d, t', c, _, ⟨_, _, _, _, rfl⟩, rfl, up_step ok hup (hst.imp (fun h i hi => (h i hi).1) id) hs', .inr hs', eG.trans (e5.trans e7), S7, e7 _ _ (e5 _ _ hqb), hd7⟩
        have := hsum.2.1 hne
        omega
    · have he : t' = t := Classical.byContradiction fun z => by rw [dfalse z] at e; cases e
      subst he
      have hfix : TabF n ks t' := by
        rcases hst with h | h
        · by_cases c : n = 0
          · exact ⟨hup.1, fun i hi => by omega⟩
          · have := h 0 (by omega)
            omega
        · exact h
      walk_at "go"
      refine n_tupL S (SqL.of (S.ex _ _ hqa)) fun r G7 H7 hr7 e7 e7' h7 S7 => ?_
      exact k t' hfix r H7 (fresh_back (eG.trans S.ex) hr7) (eG.trans (S.ex.trans e7')) (S7.ex _ _ h7)
end
end NX

namespace NX
open PySem PySem.Spec PyProof.Rows L2
open Evl (Ex ex_l ex_t fresh_back)
/-! ### slices of tuples, tuple + tuple -/
section
variable {K : PySem.W.Frag} {G H : Hp} {L : List (Addr × HO)} {a b : Addr} {xs ys : List V} {Q : VK}
theorem n_slA {lo hi : Option Int} (S : Own G L H) (h : SqT K G a xs) (k : ∀ r G1 H1, Ex G G1 → Ex H H1 → SqT K G1 r (cutV xs lo hi) → Own G1 L H1 → Q (.ref r) H1) : rSlA K (.ref a) lo hi H Q := by
  refine ⟨a, xs, rfl, S.st h, fun e => k a G H (Ex.refl G) (Ex.refl H) ?_ S, fun _ p hp => k p _ _ (S.still hp).2.1 (Ex.new hp) (SqT.of (S.still hp).2.2) (S.still hp).1⟩
  have z : cutV xs lo hi = xs := by
    unfold cutV
    rw [e.1, e.2, List.drop_zero, Nat.sub_zero, List.take_length]
  rw [z]
  exact h
theorem n_catA (S : Own G L H) (h : SqT K G a xs) (h2 : SqT K G b ys) (hz : xs.length + ys.length ≤ 10000000) (k : ∀ r G1 H1, Ex G G1 → Ex H H1 → SqT K G1 r (xs ++ ys) → Own G1 L H1 → Q (.ref r) H1) : rCatA K (.ref a) (.ref b) H Q := by
  refine ⟨a, b, xs, ys, rfl, rfl, S.st h, S.st h2, small hz, fun e => ?_, fun _ e => ?_, fun _ _ p hp => k p _ _ (S.still hp).2.1 (Ex.new hp) (SqT.of (S.still hp).2.2) (S.still hp).1⟩
  · subst e
    exact k b G H (Ex.refl G) (Ex.refl H) h2 S
  · subst e
    exact k a G H (Ex.refl G) (Ex.refl H) (by rw [List.append_nil]; exact h) S
theorem n_clear (S : Own G ((a, .lst xs) :: L) H) (k : ∀ H1, Own G ((a, .lst []) :: L) H1 → Q .non H1) : rClear (.ref a) [] H Q := ⟨a, xs, rfl, rfl, S.get0, k _ S.put0⟩
theorem n_neP {c d : Addr} {ps qs : List Pr} {x y : List V} (h1 : SqL K H c x) (h2 : SqL K H d y) (l1 : Lks H x ps) (l2 : Lks H y qs) (k : Q (.bl (!decide (ps = qs))) H) : rNeD K (.ref c) (.ref d) H Q :=
  ⟨_, _, .lst h1 (dp_lks l1), .lst h2 (dp_lks l2), shaped_lks ps, shaped_lks qs, by rw [eqv_lks]; exact k⟩
theorem n_eqP {c d : Addr} {ps qs : List Pr} {x y : List V} (h1 : SqL K H c x) (h2 : SqL K H d y) (l1 : Lks H x ps) (l2 : Lks H y qs) (k : Q (.bl (decide (ps = qs))) H) : rEqD K (.ref c) (.ref d) H Q :=
  ⟨_, _, .lst h1 (dp_lks l1), .lst h2 (dp_lks l2), shaped_lks ps, shaped_lks qs, by rw [eqv_lks]; exact k⟩
/-- sorted(links): frozen -/
theorem n_sortPG {ps : List Pr} (S : Own G L H) (hx : SqL K G a xs) (hl : Lks G xs ps) (k : ∀ p ys G1 H1, H p = none → Ex G G1 → Ex H H1 → G1 p = some (.lst ys) → Lks G1 ys (sortP ps) → Own G1 L H1 → Q (.ref p) H1) : rSortedPO K [.ref a] H Q :=
  n_sortP S (S.sl hx) S.ex hl fun p ys G1 H1 h1 h2 h3 h4 h5 h6 => k p ys G1 H1 h1 h2 h3 h4 (h5.mono h2) h6
/-- xs.index(y): numbers, each once -/
theorem n_index {ns : List Int} {i : Nat} {x : Int} (h : SqL K H a (ns.map V.int)) (nd : ns.Nodup) (hi : ns[i]? = some x) (k : Q (.int (i : Nat)) H) : rIndex K (.ref a) [.int x] H Q :=
  ⟨a, _, .int x, i, .int x, rfl, rfl, h, rfl, all_flat ns, by rw [List.getElem?_map, hi] <;> rfl, by simp [eqV], fun m z' hm hz => by
    obtain ⟨y, hy, rfl⟩ := get_map hz
    obtain ⟨h1, e1⟩ := List.getElem?_eq_some_iff.mp hy
    obtain ⟨h2, e2⟩ := List.getElem?_eq_some_iff.mp hi
    have ne : y ≠ x := fun e => by
      have := (List.getElem_inj nd).mp (e1.trans (e.trans e2.symm))
      omega
    simp [eqV, ne], k⟩
end
end NX

namespace NX
open PySem PySem.Spec PyProof.Rows L2
open Evl (Ex ex_l ex_t fresh_back)
abbrev s_Network___len__ : Stmt := inClass (top 9) 2
theorem sc_Network___len__ : FnScope ["self"] ["self"] (defScope s_Network___len__) := ⟨rfl, rfl, rfl, by decide +kernel, rfl, by decide +kernel, by decide +kernel⟩
abbrev s_Network___eq__ : Stmt := inClass (top 9) 3
theorem sc_Network___eq__ : FnScope ["self", "other"] ["self", "other"] (defScope s_Network___eq__) := ⟨rfl, rfl, rfl, by decide +kernel, rfl, by decide +kernel, by decide +kernel⟩
section
variable {P : Program} {w : World} {K : PySem.W.Frag} {mg : Str → Option Value} {base : Heap}
theorem ok_len {f C : Addr} {fd : FuncData} (F : Fun K "__len__" "Network.__len__" s_Network___len__ f fd) (T : Txt mg) (NC : NetC K C) : FnOk P w K mg base CX0 1 f fd ["self"] (spLen C) := by
  refine F.ok sc_Network___len__ (fun vs H Q E h => ?_) (fun cdv A outer s H vs Q E hr h => ?_)
  · obtain ⟨a, n, ks, rfl, _⟩ := h
    rfl
  · obtain ⟨a, n, ks, rfl, N, k⟩ := h
    obtain ⟨dx, kp, np, xs, nps, o⟩ := N.at_
    refine ⟨_, (pss_one (ps_ret (pe_callB call_lenN (by rfl) T.n_len (by decide +kernel) (pa_cons (pe_fld (pv 0) rfl) pa_nil)))), ?_⟩
    walk_at "go"
    refine n_fld o.ins NC.cl NC.nN (nf_near kp np) ?_
    walk_at "go"
    refine n_len (SqL.of o.near) ?_
    rw [List.length_map, o.len]
    exact k
theorem ok_eq {f C : Addr} {fd : FuncData} (F : Fun K "__eq__" "Network.__eq__" s_Network___eq__ f fd) (T : Txt mg) (NC : NetC K C) (hC : mg "Network" = some (.ref C)) (M_len : Mth P w K mg base 1 C "__len__" ["self"] (spLen C)) :
    FnOk P w K mg base CX0 3 f fd ["self", "other"] (spEqN C) := by
  refine F.ok sc_Network___eq__ (fun vs H Q E h => ?_) (fun cdv A outer s H vs Q E hr h => ?_)
  · obtain ⟨a, b, n, m, ks, ls, rfl, _⟩ := h
    rfl
  · obtain ⟨a, b, n, m, ks, ls, rfl, N1, N2, k⟩ := h
    have hu65 : ∀ X : Cx, X.A = A.deeper (envOfC "Network.__eq__" (defScope s_Network___eq__) s.heap.objs.size f cdv) → X.A.units + 65 < cLine := fun X e => by rw [e]; have := hr.un; omega
    obtain ⟨dx, kp, np, xs, nps, o⟩ := N1.at_
    obtain ⟨dx', kp', np', xs', nps', o'⟩ := N2.at_
    refine ⟨_, (pss_one (ps_ret (pe_and (pe_callB call_isi (by rfl) T.n_isinstance (by decide +kernel) (pa_cons (pv 1) (pa_cons (pe_glob (v := .ref C) (by rfl) hC rfl) pa_nil))) (pe_and (pe_cmpR op_eq (pe_callB (call_lenNet NC M_len (hr.mono (by first | decide | omega))) (by rfl) T.n_len (by decide +kernel) (pa_cons (pv 0) pa_nil)) (pe_callB (call_lenNet NC M_len (hr.mono (by first | decide | omega))) (by rfl) T.n_len (by decide +kernel) (pa_cons (pv 1) pa_nil)) (nomark _)) (pe_one (pe_cmpR (op_eqD (Nat.lt_of_succ_lt (hu65 _ rfl))) (pe_fld (pv 0) rfl) (pe_fld (pv 1) rfl) (nomark _))))))), ?_⟩
    walk_at "go"
    refine ⟨_, _, _, _, _, rfl, .own C, .base (.ins o'.ins NC.cl NC.ha NC.hn NC.ht NC.hm), NC.kit, ?_⟩
    walk_at "go"
    refine n_lenNet N1 ?_
    walk_at "go"
    refine n_lenNet N2 ?_
    walk_at "go"
    refine if_2 (fun e => ?_) (fun e => ?_)
    · have e := of_decide_eq_true e
      walk_at "go"
      refine n_fld o.ins NC.cl NC.nK (nf_kept kp np) ?_
      walk_at "go"
      refine n_fld o'.ins NC.cl NC.nK (nf_kept kp' np') ?_
      refine ⟨_, _, .lst (SqL.of o.kept) (dp_lks o.lks), .lst (SqL.of o'.kept) (dp_lks o'.lks), shaped_lks ks, shaped_lks ls, ?_⟩
      rw [eqv_lks]
      have z := k H (Ex.refl H)
      have e2 : decide (n = m ∧ ks = ls) = decide (ks = ls) := by
        have hnm : n = m := by omega
        rw [Bool.eq_iff_iff]
        simp [hnm]
      rw [e2] at z
      exact z
    · have e := of_decide_eq_false e
      have z := k H (Ex.refl H)
      have e2 : decide (n = m ∧ ks = ls) = false := decide_eq_false fun c => e (by rw [c.1])
      rw [e2] at z
      exact z
end
end NX

namespace NX
open PySem PySem.Spec PyProof.Rows L2
open Evl (Ex ex_l ex_t fresh_back)
open RZ (ItzT iZipA)
/-- the links behind a step: one less, if it is there, else one more -/
def stepL (ls : List Pr) (q : Pr) : List Pr := ls.filter (fun x => !decide (x = q)) ++ (if q ∈ ls then [] else [q])
theorem step_ok {n : Nat} {ls : List Pr} {q : Pr} (ok : Okl n ls) (hq : 0 ≤ q.1 ∧ q.1 < q.2 ∧ q.2 < (n : Int)) : Okl n (stepL ls q) := fun x hx => by
  rcases List.mem_append.mp hx with hx | hx
  · exact ok x (List.mem_filter.mp hx).1
  · by_cases c : q ∈ ls
    · rw [if_pos c] at hx
      cases hx
    · rw [if_neg c] at hx
      have : x = q := by simpa using hx
      subst this
      exact hq
theorem step_nd {ls : List Pr} {q : Pr} (nd : ls.Nodup) : (stepL ls q).Nodup := by
  refine List.nodup_append.mpr ⟨nd_filter nd, ?_, fun x hx y hy e => ?_⟩
  · split <;> simp
  · by_cases c : q ∈ ls
    · rw [if_pos c] at hy
      cases hy
    · rw [if_neg c] at hy
      have : y = q := by simpa using hy
      subst this
      subst e
      exact c (List.mem_filter.mp hx).1
abbrev s__law_right : Stmt := top 26
theorem sc__law_right : FnScope ["_law_well_here", "_law_size", "_law_links_here", "_law_turn", "_law_network", "_law_one", "_law_two", "_law_link", "_law_old"] ["_law_well_here"] (defScope s__law_right) := ⟨rfl, rfl, rfl, by decide +kernel, rfl, by decide +kernel, by decide +kernel⟩
abbrev s_law : Stmt := top 27
theorem sc_law : FnScope ["_law_script", "_law_turn", "_law_cell"] ["_law_script"] (defScope s_law) := ⟨rfl, rfl, rfl, by decide +kernel, rfl, by decide +kernel, by decide +kernel⟩
/-- linked or unlinked by a pair of stations is right -/
def spPair (C : Addr) : Sp := fun vs H Q _ => ∃ (x lp : Addr) (n : Nat) (i j : Int) (xs : List V) (ls : List Pr), vs = [.ref x, .int (n : Int), .ref lp, .int i, .int j] ∧ NetAt C H x n (sortP ls) ∧ H lp = some (.lst xs) ∧ Lks H xs ls ∧ Okl n ls ∧ ls.Nodup ∧
  (0 ≤ i ∧ i < (n : Int)) ∧ (0 ≤ j ∧ j < (n : Int)) ∧ ∀ H', Ex H H' → Q (.bl true) H'
def spRight : Sp := fun vs H Q _ => ∃ (W : Addr) (a b c : Int), vs = [.ref W] ∧ H W = some (wl a b c) ∧ ∀ H', Ex (cut H [(W, wl a b c)]) H' → Q (.bl true) H'
def spLaw (K : PySem.W.Frag) : Sp := fun vs H Q _ => ∃ (a : Addr) (ns : List Int), vs = [.ref a] ∧ SqL K H a (ns.map V.int) ∧ ns.length ≤ 63 ∧ ∀ H', Q (.bl true) H'
theorem e_join {te : TE} {σ : L2.St} {H : Hp} {Q : VK} (J : V → Hp → Prop) (hj : ∀ x H', J x H' → Q x H') (h : ∀ Q' : VK, (∀ x H', J x H' → Q' x H') → te σ H Q') : te σ H Q := h Q hj
theorem b01 (c : Prop) [Decidable c] : (if decide c = true then (1 : Int) else 0) = if c then 1 else 0 := by
  by_cases h : c <;> simp [h]
section
variable {P : Program} {w : World} {K : PySem.W.Frag} {mg : Str → Option Value} {base : Heap} {C CL : Addr}
theorem ok_pair {f : Addr} {fd : FuncData} (F : Fun K "_law_pair_right" "_law_pair_right" s__law_pair_right f fd) (T : Txt mg) (NC : NetC K C) (M_len : Mth P w K mg base 1 C "__len__" ["self"] (spLen C)) (M_links : Mth P w K mg base 1 C "links" ["self"] (spLinks C)) (M_eq : Mth P w K mg base 3 C "__eq__" ["self", "other"] (spEqN C))
    (c_Network : Cnw P w K mg base 3 "Network" C ["self", "stations", "links"] (spInit C)) (c_linked : Cal P w K mg base 5 "linked" ["network", "one", "other"] [] (spLinked C CL)) (c_unlinked : Cal P w K mg base 5 "unlinked" ["network", "one", "other"] [] (spUnlinked C CL))
    (c_greatest_channels : Cal P w K mg base 3 "greatest_channels" ["network"] [] (spGC C)) (c__law_near : Cal P w K mg base 1 "_law_near" ["_law_size", "_law_links_here"] [] spNear) (c__law_table : Cal P w K mg base 1 "_law_table" ["_law_near_here"] [] (spTable K))
    (c__law_refused : Cal P w K mg base 6 "_law_refused" ["_law_way", "_law_network", "_law_one", "_law_two"] [] (spRefused C)) : FnOk P w K mg base CX0 7 f fd ["_law_network", "_law_size", "_law_links_here", "_law_one", "_law_two"] (spPair C) := by
  refine F.ok sc__law_pair_right (fun vs H Q E h => ?_) (fun cdv A outer s H vs Q E hr h => ?_)
  · obtain ⟨x, lp, n, i, j, xs, ls, rfl, _⟩ := h
    rfl
  · obtain ⟨x, lp, n, i, j, xs, ls, rfl, N, hlp, hl, ok, nd, hi, hj, k⟩ := h
    have hu65 : ∀ X : Cx, X.A = A.deeper (envOfC "_law_pair_right" (defScope s__law_pair_right) s.heap.objs.size f cdv) → X.A.units + 65 < cLine := fun X e => by rw [e]; have := hr.un; omega
    have hn := N.sz
    have hz := okl_len ok nd hn.2
    refine ⟨_, (pss_cons (ps_set (i := 5) sc__law_pair_right.nd rfl (Or.inr rfl) (pe_tup (pa_cons (pe_callB (call_minN rfl) (by rfl) T.n_min (by decide +kernel) (pa_cons (pv 3) (pa_cons (pv 4) pa_nil))) (pa_cons (pe_callB (call_maxN rfl) (by rfl) T.n_max (by decide +kernel) (pa_cons (pv 3) (pa_cons (pv 4) pa_nil))) pa_nil))))
      (pss_cons (ps_set (i := 6) sc__law_pair_right.nd rfl (Or.inr rfl) (pe_callTy call_intN (by rfl) T.n_int (by decide +kernel) (pa_cons (pe_cmpR (op_inD (hu65 _ rfl)) (pv 5) (pv 2) rfl) pa_nil)))
      (pss_cons (ps_if (pt_cmpR op_eq (pv 3) (pv 4) (nomark _)) (pss_one (ps_ret (pe_cmpR (op_eqD (Nat.lt_of_succ_lt (hu65 _ rfl))) (pe_lc (own := [("_law_way", 13)]) (by rfl) sc__law_pair_right.nd (pi_tup (pe_tup (pa_cons pe_int (pa_cons pe_int pa_nil)))) (blkOk_by (own := [("_law_way", 13)]) (N := ["_law_network", "_law_size", "_law_links_here", "_law_one", "_law_two", "_law_link", "_law_there", "_law_kept", "_law_due", "_law_told", "_law_before", "_law_after_it", "_law_some", "_law_way", "_law_old", "_law_low", "_law_high"]) (sc := defScope s__law_pair_right) (by decide +kernel)) (fun _ _ _ _ _ => (pg_name (i := 13) sc__law_pair_right.nd rfl (Or.inl rfl))) (fun _ _ _ _ _ => pts_nil) (fun _ _ _ _ _ => (pe_cal c__law_refused (hr.mono (by first | decide | omega)) passN (pa_cons (pv 13) (pa_cons (pv 0) (pa_cons (pv 3) (pa_cons (pv 4) pa_nil))))))) (pe_op op_rep (pe_lst (pa_cons (pe_tup (pa_cons (pv 3) (pa_cons (pv 4) pa_nil))) pa_nil)) pe_int) (nomark _)))) pss_nil)
      (pss_cons (ps_if (pt_cmpR (op_neD (Nat.lt_of_succ_lt (hu65 _ rfl))) (pe_cal c__law_refused (hr.mono (by first | decide | omega)) passN (pa_cons (pe_op op_sub pe_int (pv 6)) (pa_cons (pv 0) (pa_cons (pv 3) (pa_cons (pv 4) pa_nil))))) (pe_tup (pa_cons (pv 3) (pa_cons (pv 4) pa_nil))) (nomark _)) (pss_one (ps_ret pe_bl)) pss_nil)
      (pss_cons (ps_setLc (i := 7) (own := [("_law_old", 14)]) (by rfl) sc__law_pair_right.nd rfl rfl (sw_true rfl rfl rfl (by decide +kernel)) (pi_list (pv 2)) (blkOk_by (own := [("_law_old", 14)]) (N := ["_law_network", "_law_size", "_law_links_here", "_law_one", "_law_two", "_law_link", "_law_there", "_law_kept", "_law_due", "_law_told", "_law_before", "_law_after_it", "_law_some", "_law_way", "_law_old", "_law_low", "_law_high"]) (sc := defScope s__law_pair_right) (by decide +kernel)) (fun _ _ _ _ _ => (pg_name (i := 14) sc__law_pair_right.nd rfl (Or.inl rfl))) (fun _ _ _ _ _ => (pts_one (pt_cmpR (op_neDK (K := K) (Nat.lt_of_succ_lt (hu65 _ rfl))) (pv 14) (pv 5) (nomark _)))) (fun _ _ _ _ _ => (pv 14)))
      (pss_cons (ps_set (i := 8) sc__law_pair_right.nd rfl (Or.inl rfl) (pe_callB cr_sortedPO (by rfl) T.n_sorted (by decide +kernel) (pa_cons (pe_ix ix_list (pe_lst (pa_cons (pe_op op_catL (pv 7) (pe_lst (pa_cons (pv 5) pa_nil))) (pa_cons (pv 7) pa_nil))) (pv 6) (fun _ _ => rfl)) pa_nil)))
      (pss_cons (ps_set (i := 9) sc__law_pair_right.nd rfl (Or.inl rfl) (pe_ifExp (pt_cmpR op_eq (pv 6) pe_int (nomark _)) (pe_cal c_unlinked (hr.mono (by first | decide | omega)) passN (pa_cons (pv 0) (pa_cons (pv 3) (pa_cons (pv 4) pa_nil)))) (pe_cal c_linked (hr.mono (by first | decide | omega)) passN (pa_cons (pv 0) (pa_cons (pv 3) (pa_cons (pv 4) pa_nil))))))
      (pss_cons (ps_if (PW.pt (pw_or (pt_cmpR (op_neD (Nat.lt_of_succ_lt (hu65 _ rfl))) (pe_mth0 (pv 9) M_links NC.cl (hr.mono (by first | decide | omega)) passN) (pv 8) (nomark _)) (pw_or (pt_cmpR op_ne (pe_callB (call_lenNet NC M_len (hr.mono (by first | decide | omega))) (by rfl) T.n_len (by decide +kernel) (pa_cons (pv 9) pa_nil)) (pv 1) (nomark _)) (pw_or (pt_cmpR (op_neNet NC M_eq (hr.mono (by first | decide | omega))) (pv 9) (pe_new c_Network (hr.mono (by first | decide | omega)) passN (pa_cons (pv 1) (pa_cons (pv 8) pa_nil))) (nomark _)) (pw_or1 (pt_cmpR (op_neD (Nat.lt_of_succ_lt (hu65 _ rfl))) (pe_mth0 (pv 0) M_links NC.cl (hr.mono (by first | decide | omega)) passN) (pe_callB cr_sortedPO (by rfl) T.n_sorted (by decide +kernel) (pa_cons (pv 2) pa_nil)) (nomark _))))))) (pss_one (ps_ret pe_bl)) pss_nil)
      (pss_cons (ps_par (i := 10) (j := 11) rfl sc__law_pair_right.nd rfl rfl (by decide) rfl rfl (pa_cons (pe_cal c__law_table (hr.mono (by first | decide | omega)) passN (pa_cons (pe_cal c__law_near (hr.mono (by first | decide | omega)) passN (pa_cons (pv 1) (pa_cons (pv 2) pa_nil))) pa_nil)) (pa_cons (pe_cal c__law_table (hr.mono (by first | decide | omega)) passN (pa_cons (pe_cal c__law_near (hr.mono (by first | decide | omega)) passN (pa_cons (pv 1) (pa_cons (pv 8) pa_nil))) pa_nil)) pa_nil)) rfl)
      (pss_cons (ps_if (PW.pt (pw_or (pt_cmpR (op_neD (Nat.lt_of_succ_lt (hu65 _ rfl))) (pe_cal c_greatest_channels (hr.mono (by first | decide | omega)) passN (pa_cons (pv 0) pa_nil)) (pv 10) (nomark _)) (pw_or1 (pt_cmpR (op_neD (Nat.lt_of_succ_lt (hu65 _ rfl))) (pe_cal c_greatest_channels (hr.mono (by first | decide | omega)) passN (pa_cons (pv 9) pa_nil)) (pv 11) (nomark _))))) (pss_one (ps_ret pe_bl)) pss_nil)
      (pss_cons (ps_setLc (i := 12) (own := [("_law_low", 15), ("_law_high", 16)]) (by rfl) sc__law_pair_right.nd rfl rfl (sw_true rfl rfl rfl (by decide +kernel)) (RZ.pi_zipA (by rfl) T.n_zip (pa_cons (pv 10) (pa_cons (pv 11) pa_nil))) (blkOk_by (own := [("_law_low", 15), ("_law_high", 16)]) (N := ["_law_network", "_law_size", "_law_links_here", "_law_one", "_law_two", "_law_link", "_law_there", "_law_kept", "_law_due", "_law_told", "_law_before", "_law_after_it", "_law_some", "_law_way", "_law_old", "_law_low", "_law_high"]) (sc := defScope s__law_pair_right) (by decide +kernel)) (fun _ _ _ _ _ => (pg_tupK (K := K) (n := 2) rfl (pgs_cons (pg_name (i := 15) sc__law_pair_right.nd rfl (Or.inl rfl)) (pgs_cons (pg_name (i := 16) sc__law_pair_right.nd rfl (Or.inl rfl)) pgs_nil)))) (fun _ _ _ _ _ => (pts_one (pt_cmpR op_lt (pe_op op_mul (pe_op op_sub (pv 16) (pv 15)) (pe_op op_sub pe_int (pe_op op_mul pe_int (pv 6)))) pe_int (nomark _)))) (fun _ _ _ _ _ => (pe_tup (pa_cons (pv 15) (pa_cons (pv 16) pa_nil)))))
      (pss_one (ps_ret (pe_cmpR (op_eqD (Nat.lt_of_succ_lt (hu65 _ rfl))) (pv 12) (pe_lst pa_nil) (nomark _))))))))))))))), ?_⟩
    walk_at "go"
    refine n_tup (Own.start H) (by show 2 ≤ 10000000; decide) fun t1 G1 H1 _ e1 _ ht1 S1 => ?_
    walk_at "go"
    refine n_inP (q := mmP i j) (S1.ex _ _ ht1) (SqL.of (S1.ex _ _ (e1 _ _ hlp))) (hl.mono (e1.trans S1.ex)) ?_
    walk_at "go"
    rw [b01]
    refine if_2 (fun c => ?_) (fun c => ?_)
    · have c := of_decide_eq_true c
      subst c
      have hno : mmP i i ∉ ls := fun m => by
        have := ok _ m
        unfold mmP at this
        simp only at this
        omega
      have hno' : mmP i i ∉ sortP ls := fun m => hno (mem_sortP.mp m)
      walk_at "go"
      refine n_tup S1 (by show 2 ≤ 10000000; decide) fun t2 G2 H2 _ e2 _ ht2 S2 => ?_
      refine v_tup (xs := [.int 0, .int 1]) (fun m acc G' L' => L' = [] ∧ Lks G' acc (List.replicate m (i, i))) S2 (SqT.of ht2) (by show 2 ≤ 1000000; decide) ⟨rfl, .nil⟩ ?_ ?_
      · rintro D m y acc G' L' H' hy hm e' hl' ⟨rfl, ha⟩ S'
        obtain ⟨wy, rfl, hw⟩ : ∃ wy : Int, y = .int wy ∧ (wy = 0 ∨ wy = 1) := by
          match m, hy with
          | 0, hy => exact ⟨0, (Option.some.inj hy).symm, .inl rfl⟩
          | 1, hy => exact ⟨1, (Option.some.inj hy).symm, .inr rfl⟩
          | m + 2, hy => simp at hy
        walk_at "go"
        refine ⟨rfl, ?_⟩
        walk_at "go"
        have eH := ((e1.trans e2).trans e').trans S'.ex
        refine ⟨wy, x, n, sortP ls, i, i, rfl, N.mono eH, hi, hi, ?_, fun t H3 e3 ht => ?_⟩
        · rcases hw with rfl | rfl
          · exact .inl ⟨rfl, .inl rfl⟩
          · exact .inr ⟨by decide, hno'⟩
        · obtain ⟨S3, ez, ey⟩ := S'.absorb e3
          refine c_yes S3 (e'.trans ez) hl' hm ⟨rfl, ?_⟩
          rw [List.replicate_succ']
          exact pr_snoc (ha.mono ez) ⟨t, rfl, ey _ _ (nw_tup' e3 ht)⟩
      · rintro D acc G3 L3 H3 e3 _ ⟨rfl, ha⟩ S3
        walk_at "go"
        refine n_tup S3 (by show 2 ≤ 10000000; decide) fun t4 G4 H4 _ e4 _ ht4 S4 => ?_
        walk_at "go"
        refine n_lst S4 (by show 1 ≤ 10000000; decide) fun q5 H5 _ S5 => ?_
        walk_at "go"
        refine ⟨q5, 2, _, rfl, rfl, S5.get0, by decide, by decide, small (by show 1 * 2 ≤ 10000000; decide), fun p6 hp6 => ?_⟩
        have S6 := S5.lay (o := .lst (List.replicate (2 : Int).toNat [V.ref t4]).flatten) hp6
        refine n_eqP (ps := [(i, i), (i, i)]) (qs := [(i, i), (i, i)]) (SqL.of S6.get2) (SqL.of S6.get0) (ha.mono (e4.trans S6.ex)) (.cons ⟨t4, rfl, S6.ex _ _ ht4⟩ (.cons ⟨t4, rfl, S6.ex _ _ ht4⟩ .nil)) ?_
        rw [dtrue rfl]
        exact k _ ((e1.trans (e2.trans (e3.trans e4))).trans S6.ex)
    · have hne := of_decide_eq_false c
      have hb : 0 ≤ (mmP i j).1 ∧ (mmP i j).1 < (mmP i j).2 ∧ (mmP i j).2 < (n : Int) := by unfold mmP; simp only; omega
      have hth : (if mmP i j ∈ ls then (1 : Int) else 0) = 1 ∧ mmP i j ∈ ls ∨ (if mmP i j ∈ ls then (1 : Int) else 0) = 0 ∧ mmP i j ∉ ls := by
        by_cases h : mmP i j ∈ ls
        · exact .inl ⟨if_pos h, h⟩
        · exact .inr ⟨if_neg h, h⟩
      generalize (if mmP i j ∈ ls then (1 : Int) else 0) = th at hth
      walk_at "go"
      refine ⟨1 - th, x, n, sortP ls, i, j, rfl, N.mono (e1.trans S1.ex), hi, hj, ?_, fun t H2 e2 ht => ?_⟩
      · rcases hth with ⟨h, m⟩ | ⟨h, m⟩
        · exact .inl ⟨by omega, .inr (mem_sortP.mpr m)⟩
        · exact .inr ⟨by omega, fun z => m (mem_sortP.mp z)⟩
      · obtain ⟨S2, ez, ey⟩ := S1.absorb e2
        have ht2 := ey _ _ (nw_tup' e2 ht)
        generalize cut H2 ([] : List (Addr × HO)) = G2 at S2 ez ey ht2
        walk_at "go"
        refine n_tup S2 (by show 2 ≤ 10000000; decide) fun t3 G3 H3 _ e3 _ ht3 S3 => ?_
        refine n_nePr (q := (i, j)) (r := (i, j)) (S3.ex _ _ (e3 _ _ ht2)) (S3.ex _ _ ht3) ?_
        walk_at "go"
        refine if_ff (ntrue rfl) ?_
        have eG3 := (e1.trans ez).trans e3
        walk_at "go"
        refine v_list (xs := xs) (fun m acc G' L' => L' = [] ∧ Lks G' acc ((ls.take m).filter fun q => !decide (q = mmP i j))) S3 (SqL.of (eG3 _ _ hlp)) (by rw [pr_len hl]; omega) ⟨rfl, .nil⟩ ?_ ?_
        · rintro D m y acc G' L' H' hy hm e' hl' ⟨rfl, ha⟩ S'
          obtain ⟨q, hq, u, rfl, hu⟩ := pr_get hl hy
          walk_at "go"
          refine ⟨rfl, ?_⟩
          walk_at "go"
          refine n_nePr (q := q) (r := mmP i j) (S'.ex _ _ (e' _ _ (eG3 _ _ hu))) (S'.ex _ _ (e' _ _ (e3 _ _ (ez _ _ ht1)))) ?_
          walk_at "go"
          have e4 : (ls.take (m + 1)).filter (fun q => !decide (q = mmP i j)) = (ls.take m).filter (fun q => !decide (q = mmP i j)) ++ [q].filter (fun q => !decide (q = mmP i j)) := by rw [take_snoc hq, List.filter_append]
          refine if_2 (fun c => ?_) (fun c => ?_)
          · walk_at "go"
            refine c_yes S' e' hl' hm ⟨rfl, ?_⟩
            rw [e4, List.filter_cons, if_pos c]
            exact pr_snoc ha ⟨u, rfl, e' _ _ (eG3 _ _ hu)⟩
          · refine c_no S' e' hl' ⟨rfl, ?_⟩
            rw [e4, List.filter_cons, if_neg (by rw [c]; exact Bool.false_ne_true)]
            show Lks G' acc (_ ++ [])
            rw [List.append_nil]
            exact ha
        · rintro kq acc G4 L4 H4 e4 hl4 ⟨rfl, ha⟩ S4
          rw [pr_len hl, List.take_length] at ha
          have hkl : acc.length ≤ 10000 := by rw [pr_len ha]; exact Nat.le_trans (List.length_filter_le ..) hz
          obtain ⟨S5, e5, hkq⟩ := S4.freeze
          have ha5 := ha.mono e5
          generalize upd G4 kq (.lst acc) = G5 at S5 e5 hkq ha5
          have eG5 := (eG3.trans e4).trans e5
          have ht1_5 := e5 _ _ (e4 _ _ (e3 _ _ (ez _ _ ht1)))
          walk_at "go"
          refine n_lstG S5 (by show 1 ≤ 10000000; decide) fun q6 G6 H6 _ e6 _ hq6 S6 => ?_
          walk_at "go"
          refine n_catG S6 (SqL.of (S6.ex _ _ (e6 _ _ hkq))) (SqL.of (S6.ex _ _ hq6)) (by rw [List.length_singleton]; omega) fun q7 G7 H7 _ e7 _ hq7 S7 => ?_
          walk_at "go"
          refine n_lst S7 (by show 2 ≤ 10000000; decide) fun q8 H8 _ S8 => ?_
          walk_at "go"
          have e5_7 := e6.trans e7
          -- the one chosen
          obtain ⟨dq, dxs, hat, hdq, hdl⟩ : ∃ (dq : Addr) (dxs : List V), atI [V.ref q7, V.ref kq] th = some (.ref dq) ∧ G7 dq = some (.lst dxs) ∧ Lks G7 dxs (stepL ls (mmP i j)) := by
            rcases hth with ⟨rfl, m⟩ | ⟨rfl, m⟩
            · refine ⟨kq, acc, rfl, e5_7 _ _ hkq, ?_⟩
              unfold stepL
              rw [if_pos m, List.append_nil]
              exact ha5.mono e5_7
            · refine ⟨q7, _, rfl, hq7, ?_⟩
              unfold stepL
              rw [if_neg m]
              exact pr_app (ha5.mono e5_7) (.cons ⟨t1, rfl, e5_7 _ _ ht1_5⟩ .nil)
          refine g_ixL S8.l0 hat ?_
          have hokL := step_ok ok hb
          have hndL := step_nd (q := mmP i j) nd
          have hzL := okl_len hokL hndL hn.2
          walk_at "go"
          refine n_sortPG S8.forget (SqL.of hdq) hdl fun p9 ys G9 H9 _ e9 _ hp9 hl9 S9 => ?_
          have eG9 := (eG5.trans e5_7).trans e9
          have N9 := N.mono eG9
          refine s_name ?_
          refine s_seq ?_
          refine s_asg ?_
          refine e_join (fun y H10 => ∃ (a10 : Addr) (G10 : Hp), y = .ref a10 ∧ Ex G9 G10 ∧ Own G10 [] H10 ∧ NetAt C G10 a10 n (sortP (stepL ls (mmP i j)))) ?_ (fun Q' hQ => ?_)
          · rintro y H10 ⟨a10, G10, rfl, e10, S10, N10⟩
            walk_at "go"
            refine ⟨(N10.mono S10.ex).ins (by decide) (by decide), ?_⟩
            walk_at "go"
            refine n_links S10 N10 fun xs11 p11 G11 H11 hl11 _ e11 _ hp11 S11 => ?_
            walk_at "go"
            have hp9' := e11 _ _ (e10 _ _ hp9)
            have hl9' := hl9.mono (e10.trans e11)
            refine n_neP (SqL.of (S11.ex _ _ hp11)) (SqL.of (S11.ex _ _ hp9')) (hl11.mono S11.ex) (hl9'.mono S11.ex) ?_
            walk_at "go"
            refine if_ff (ntrue rfl) ?_
            walk_at "go"
            refine n_lenNet ((N10.mono e11).mono S11.ex) ?_
            walk_at "go"
            refine if_ff (ntrue rfl) ?_
            walk_at "go"
            refine n_net S11 (S11.ex _ _ hp9') (hl9'.mono S11.ex) hokL.sort ((sortP_perm _).nodup_iff.mpr hndL) hn (by rw [sortP_len]; exact hzL) fun y12 G12 H12 _ e12 _ S12 N12 => ?_
            rw [sortP_id (sortP_up _)] at N12
            refine n_neNet S12 (N10.mono (e11.trans e12)) N12 fun H13 S13 => ?_
            walk_at "go"
            refine if_ff (ntrue ⟨rfl, rfl⟩) ?_
            walk_at "go"
            have e9_12 := (e10.trans e11).trans e12
            have N13 := N9.mono e9_12
            refine ⟨(N13.mono S13.ex).ins (by decide) (by decide), ?_⟩
            walk_at "go"
            refine n_links S13 N13 fun xs14 p14 G14 H14 hl14 _ e14 _ hp14 S14 => ?_
            walk_at "go"
            have eG14 := (eG9.trans e9_12).trans e14
            refine n_sortPG S14 (SqL.of (eG14 _ _ hlp)) (hl.mono eG14) fun p15 ys15 G15 H15 _ e15 _ hp15 hl15 S15 => ?_
            refine n_neP (SqL.of (S15.ex _ _ (e15 _ _ hp14))) (SqL.of (S15.ex _ _ hp15)) (hl14.mono (e15.trans S15.ex)) (hl15.mono S15.ex) ?_
            walk_at "go"
            refine if_ff (ntrue rfl) ?_
            walk_at "go"
            have eG15 := eG14.trans e15
            refine n_near S15 (S15.ex _ _ (eG15 _ _ hlp)) (hl.mono (eG15.trans S15.ex)) ok (by omega) hz fun p16 G16 H16 _ e16 _ S16 N16 => ?_
            walk_at "go"
            refine n_table S16 N16 ok (by omega) hz fun tb p17 G17 H17 htb _ e17 _ hp17 S17 => ?_
            walk_at "go"
            have e9_17 := (e9_12.trans e14).trans (e15.trans (e16.trans e17))
            have hp9_17 := e9_17 _ _ hp9
            refine n_near S17 (S17.ex _ _ hp9_17) (hl9.mono (e9_17.trans S17.ex)) hokL.sort (by omega) (by rw [sortP_len]; exact hzL) fun p18 G18 H18 _ e18 _ S18 N18 => ?_
            walk_at "go"
            refine n_table S18 N18 hokL.sort (by omega) (by rw [sortP_len]; exact hzL) fun ta p19 G19 H19 hta _ e19 _ hp19 S19 => ?_
            have hp17_19 := e19 _ _ (e18 _ _ hp17)
            walk_at "go"
            have e9_19 := (e9_17.trans e18).trans e19
            refine n_gc S19 (N9.mono e9_19) fun t20 p20 G20 H20 ht20 _ e20 _ hp20 S20 => ?_
            walk_at "go"
            refine n_neIT (SqT.of (S20.ex _ _ hp20)) (SqT.of (S20.ex _ _ (e20 _ _ hp17_19))) ?_
            walk_at "go"
            refine if_ff (ntrue (TabF.uniq ok (TabF.perm ht20 (sortP_perm _)) htb)) ?_
            walk_at "go"
            have N20 := N10.mono (((e11.trans e12).trans e14).trans (e15.trans (e16.trans (e17.trans (e18.trans (e19.trans e20))))))
            refine n_gc S20 N20 fun t21 p21 G21 H21 ht21 _ e21 _ hp21 S21 => ?_
            walk_at "go"
            refine n_neIT (SqT.of (S21.ex _ _ hp21)) (SqT.of (S21.ex _ _ (e21 _ _ (e20 _ _ hp19)))) ?_
            walk_at "go"
            refine if_ff (ntrue (TabF.uniq hokL.sort ht21 hta)) ?_
            walk_at "go"
            refine g_iZipA ?_
            walk_at "go"
            have hta' := TabF.perm hta (sortP_perm _)
            refine v_zipT (xs := tb.map V.int) (ys := ta.map V.int) (fun m acc G' L' => L' = [] ∧ acc = []) S21 (SqT.of (e21 _ _ (e20 _ _ hp17_19))) (SqT.of (e21 _ _ (e20 _ _ hp19))) (by rw [List.length_map, List.length_map, htb.1, hta.1]) (by rw [List.length_map, htb.1]; omega) ⟨rfl, rfl⟩ ?_ ?_
            · rintro D m u v T22 acc G' L' H' hu hv hm e' hl' ⟨rfl, rfl⟩ S' hT
              obtain ⟨lo, hlo, rfl⟩ := get_map hu
              obtain ⟨hi', hhi, rfl⟩ := get_map hv
              have hmn : m < n := by rw [← htb.1]; exact (List.getElem?_eq_some_iff.mp hlo).1
              have z1 := tv_get hlo
              have z2 := tv_get hhi
              refine s_gtup (SqT.of upd_same) rfl ?_
              walk_at "go"
              refine ⟨rfl, ?_⟩
              walk_at "go"
              have le : ¬ (hi' - lo) * (1 - 2 * th) < 0 := by
                rcases hth with ⟨rfl, q⟩ | ⟨rfl, q⟩
                · have := tab_mono hokL (ls := ls) (by unfold stepL; rw [if_pos q, List.append_nil]; exact List.filter_sublist) hta' htb hmn
                  rw [z1, z2] at this
                  omega
                · have := tab_mono ok (ls := stepL ls (mmP i j)) (by unfold stepL; rw [if_neg q, filt_none q]; exact List.sublist_append_left _ _) htb hta' hmn
                  rw [z1, z2] at this
                  omega
              refine g_I (.inl ⟨by decide, by rcases hth with ⟨rfl, _⟩ | ⟨rfl, _⟩ <;> decide⟩) ?_
              walk_at "go"
              refine g_I (.inr (by rcases hth with ⟨rfl, _⟩ | ⟨rfl, _⟩ <;> decide)) ?_
              walk_at "go"
              refine if_ff (dfalse le) ?_
              exact c_no (S'.grow (Ex.new hT)) e' hl' ⟨rfl, rfl⟩
            · rintro D acc G' L' H' e' hl' ⟨rfl, rfl⟩ S'
              walk_at "go"
              refine n_lst S' (by decide) fun q H23 _ S23 => ?_
              refine n_eqIL (ns := []) (ms := []) S23.l1 S23.l0 ?_
              exact k _ (((eG9.trans e9_19).trans (e20.trans (e21.trans e'))).trans S23.ex)
          · walk_at "go"
            refine if_2 (fun c => ?_) (fun c => ?_)
            · have c := of_decide_eq_true c
              have hm : mmP i j ∈ ls := by
                rcases hth with ⟨_, m⟩ | ⟨h, _⟩
                · exact m
                · omega
              walk_at "go"
              refine ⟨x, n, sortP ls, i, j, rfl, N9.mono S9.ex, hi, hj, fun q => absurd (mem_sortP.mpr hm) q, fun _ => n_spNet S9 fun y10 G10 H10 _ e10 _ S10 N10 => hQ _ _ ⟨y10, G10, rfl, e10, S10, ?_⟩⟩
              have e : sortP ((sortP ls).filter fun q => !decide (q = mmP i j)) = sortP (stepL ls (mmP i j)) := by
                unfold stepL
                rw [if_pos hm, List.append_nil]
                exact sortP_congr ((sortP_perm ls).filter _)
              rw [← e]
              exact N10
            · have c := of_decide_eq_false c
              have hm : mmP i j ∉ ls := by
                rcases hth with ⟨h, _⟩ | ⟨_, m⟩
                · omega
                · exact m
              have hm' : mmP i j ∉ sortP ls := fun z => hm (mem_sortP.mp z)
              walk_at "go"
              refine ⟨x, n, sortP ls, i, j, rfl, N9.mono S9.ex, hi, hj, fun q => absurd q (by rintro (q | q); exact hne q; exact hm' q), fun _ _ => n_spNet S9 fun y10 G10 H10 _ e10 _ S10 N10 => hQ _ _ ⟨y10, G10, rfl, e10, S10, ?_⟩⟩
              have e : sortP (sortP ls ++ [mmP i j]) = sortP (stepL ls (mmP i j)) := by
                unfold stepL
                rw [if_neg hm, filt_none hm]
                exact sortP_congr ((sortP_perm ls).append_right _)
              rw [← e]
              exact N10
end
end NX

namespace NX
open PySem PySem.Spec PyProof.Rows L2
open Evl (Ex ex_l ex_t fresh_back)
theorem n_repV {H G : Hp} {L : List (Addr × HO)} {p : Addr} {x : V} {m : Int} {Q : VK} (S : Own G ((p, .lst [x]) :: L) H) (h0 : 0 ≤ m) (hz : m ≤ 100000) (k : ∀ q G1 H1, H q = none → Ex G G1 → Ex H H1 → G1 q = some (.lst (List.replicate m.toNat x)) → Own G1 L H1 → Q (.ref q) H1) : rRep (.ref p) (.int m) H Q :=
  ⟨p, m, _, rfl, rfl, S.get0, by omega, by omega, small (by simp; omega), fun q hq => by
    have T := S.forget.still (o := .lst (List.replicate m.toNat [x]).flatten) hq
    refine k q _ _ hq T.2.1 (Ex.new hq) ?_ T.1
    rw [T.2.2, rep_flat]⟩
section
variable {P : Program} {w : World} {K : PySem.W.Frag} {mg : Str → Option Value} {base : Heap} {C CL : Addr}
theorem ok_right {f : Addr} {fd : FuncData} (F : Fun K "_law_right" "_law_right" s__law_right f fd) (T : Txt mg) (NC : NetC K C)
    (c__law_take : Cal P w K mg base 1 "_law_take" ["_law_well_here", "_law_bound"] [] spTake) (c__law_links : Cal P w K mg base 3 "_law_links" ["_law_well_here", "_law_size"] [] spLinksT) (c_Network : Cnw P w K mg base 3 "Network" C ["self", "stations", "links"] (spInit C))
    (c__law_pair_right : Cal P w K mg base 7 "_law_pair_right" ["_law_network", "_law_size", "_law_links_here", "_law_one", "_law_two"] [] (spPair C)) : FnOk P w K mg base CX0 8 f fd ["_law_well_here"] spRight := by
  refine F.ok sc__law_right (fun vs H Q E h => ?_) (fun cdv A outer s H vs Q E hr h => ?_)
  · obtain ⟨W, a, b, c, rfl, _⟩ := h
    rfl
  · obtain ⟨W, a, b, c, rfl, hW, k⟩ := h
    have hu65 : ∀ X : Cx, X.A = A.deeper (envOfC "_law_right" (defScope s__law_right) s.heap.objs.size f cdv) → X.A.units + 65 < cLine := fun X e => by rw [e]; have := hr.un; omega
    have S0 := Own.give (o := wl a b c) hW
    generalize cut H [(W, wl a b c)] = G at S0 k
    refine ⟨_, (pss_cons (ps_set (i := 1) sc__law_right.nd rfl (Or.inl rfl) (pe_op op_add pe_int (pe_cal c__law_take (hr.mono (by first | decide | omega)) passN (pa_cons (pv 0) (pa_cons (pe_ix ix_list (pe_lst (pa_cons pe_int (pa_cons pe_int (pa_cons pe_int (pa_cons pe_int pa_nil))))) (pe_cal c__law_take (hr.mono (by first | decide | omega)) passN (pa_cons (pv 0) (pa_cons pe_int pa_nil))) (fun _ _ => rfl)) pa_nil)))))
      (pss_cons (ps_set (i := 2) sc__law_right.nd rfl (Or.inl rfl) (pe_cal c__law_links (hr.mono (by first | decide | omega)) passN (pa_cons (pv 0) (pa_cons (pv 1) pa_nil))))
      (pss_cons (ps_for PassesOwn.never rfl (pi_range1 (by rfl) T.n_range (pa_cons (pe_ix ix_list (pe_lst (pa_cons pe_int (pa_cons pe_int pa_nil))) (pe_callTy call_intN (by rfl) T.n_int (by decide +kernel) (pa_cons (pe_cmpR op_gt (pv 1) pe_int (nomark _)) pa_nil)) (fun _ _ => rfl)) pa_nil)) (pg_name (i := 3) sc__law_right.nd rfl (Or.inl rfl)) (pss_cons (ps_set (i := 4) sc__law_right.nd rfl (Or.inl rfl) (pe_new c_Network (hr.mono (by first | decide | omega)) passN (pa_cons (pv 1) (pa_cons (pe_callTy call_listN (by rfl) T.n_list (by decide +kernel) (pa_cons (pv 2) pa_nil)) pa_nil))))
      (pss_cons (ps_par (i := 5) (j := 6) rfl sc__law_right.nd rfl rfl (by decide) rfl rfl (pa_cons (pe_cal c__law_take (hr.mono (by first | decide | omega)) passN (pa_cons (pv 0) (pa_cons (pv 1) pa_nil))) (pa_cons (pe_cal c__law_take (hr.mono (by first | decide | omega)) passN (pa_cons (pv 0) (pa_cons (pv 1) pa_nil))) pa_nil)) rfl)
      (pss_cons (ps_if (pt_not (pt_val (pe_cal c__law_pair_right (hr.mono (by first | decide | omega)) passN (pa_cons (pv 4) (pa_cons (pv 1) (pa_cons (pv 2) (pa_cons (pv 5) (pa_cons (pv 6) pa_nil)))))))) (pss_one (ps_ret pe_bl)) pss_nil)
      (pss_cons (ps_set (i := 7) sc__law_right.nd rfl (Or.inr rfl) (pe_tup (pa_cons (pe_callB (call_minN rfl) (by rfl) T.n_min (by decide +kernel) (pa_cons (pv 5) (pa_cons (pv 6) pa_nil))) (pa_cons (pe_callB (call_maxN rfl) (by rfl) T.n_max (by decide +kernel) (pa_cons (pv 5) (pa_cons (pv 6) pa_nil))) pa_nil))))
      (pss_one (ps_if (pt_cmpR op_ne (pv 5) (pv 6) (nomark _)) (pss_one (ps_set (i := 2) sc__law_right.nd rfl (Or.inl rfl) (pe_op op_catL (pe_lc (own := [("_law_old", 8)]) (by rfl) sc__law_right.nd (pi_list (pv 2)) (blkOk_by (own := [("_law_old", 8)]) (N := ["_law_well_here", "_law_size", "_law_links_here", "_law_turn", "_law_network", "_law_one", "_law_two", "_law_link", "_law_old"]) (sc := defScope s__law_right) (by decide +kernel)) (fun _ _ _ _ _ => (pg_name (i := 8) sc__law_right.nd rfl (Or.inl rfl))) (fun _ _ _ _ _ => (pts_one (pt_cmpR (op_neDK (K := K) (Nat.lt_of_succ_lt (hu65 _ rfl))) (pv 8) (pv 7) (nomark _)))) (fun _ _ _ _ _ => (pv 8))) (pe_op op_rep (pe_lst (pa_cons (pv 7) pa_nil)) (pe_callTy call_intN (by rfl) T.n_int (by decide +kernel) (pa_cons (pe_cmpR (op_notInD (hu65 _ rfl)) (pv 7) (pv 2) rfl) pa_nil)))))) pss_nil)))))))
      (pss_one (ps_ret pe_bl))))), ?_⟩
    walk_at "go"
    refine n_lstG S0 (by show 4 ≤ 10000000; decide) fun q1 G1 H1 _ e1 _ hq1 S1 => ?_
    walk_at "go"
    refine n_take S1 ⟨by decide, by decide⟩ fun r2 a2 b2 c2 H2 h20 h21 S2 => ?_
    obtain ⟨v, hv, hv1⟩ : ∃ v : Int, atI [V.int 12, V.int 12, V.int 12, V.int 60] r2 = some (.int v) ∧ (v = 12 ∨ v = 60) := by
      have : r2 = 0 ∨ r2 = 1 ∨ r2 = 2 ∨ r2 = 3 := by omega
      rcases this with rfl | rfl | rfl | rfl
      · exact ⟨12, rfl, .inl rfl⟩
      · exact ⟨12, rfl, .inl rfl⟩
      · exact ⟨12, rfl, .inl rfl⟩
      · exact ⟨60, rfl, .inr rfl⟩
    walk_at "go"
    refine g_ixL (SqL.of (S2.ex _ _ hq1)) hv ?_
    walk_at "go"
    refine n_take S2 ⟨by omega, by omega⟩ fun r3 a3 b3 c3 H3 h30 h31 S3 => ?_
    obtain ⟨n, hn⟩ : ∃ n : Nat, 1 + r3 = (n : Int) := ⟨(1 + r3).toNat, by omega⟩
    have hn2 : 1 ≤ n ∧ n ≤ 60 := by omega
    walk_at "go"
    rw [hn]
    refine n_linksT S3 (by omega) (by omega) fun xs ls lq G4 H4 a4 b4 c4 e4 S4 hl4 ok nd => ?_
    obtain ⟨S5, e5, hlq⟩ := S4.swap.freeze
    have hl5 := hl4.mono e5
    generalize upd G4 lq (.lst xs) = G5 at S5 e5 hlq hl5
    walk_at "go"
    refine n_lst S5 (by show 2 ≤ 10000000; decide) fun q6 H6 _ S6 => ?_
    walk_at "go"
    obtain ⟨m, hm, hm1⟩ : ∃ m : Nat, atI [V.int 8, V.int 1] (if decide ((12 : Int) < (n : Int)) = true then 1 else 0) = some (.int (m : Int)) ∧ m ≤ 8 := by
      by_cases c : (12 : Int) < (n : Int)
      · rw [decide_eq_true c]
        exact ⟨1, rfl, by decide⟩
      · rw [decide_eq_false c]
        exact ⟨8, rfl, by decide⟩
    refine g_ixL S6.l0 hm ?_
    walk_at "go"
    refine w_rng1 (j := (m : Int)) (fun i σ' H' => ∃ (lq : Addr) (G' : Hp) (a' b' c' : Int) (xs : List V) (ls : List Pr), (∃ x1 x2 x3 x4 x5 x6, σ' = [some (.ref W), some (.int (n : Int)), some (.ref lq), x1, x2, x3, x4, x5, x6]) ∧ Ex G5 G' ∧ Own G' [(W, wl a' b' c')] H' ∧ G' lq = some (.lst xs) ∧ Lks G' xs ls ∧ Okl n ls ∧ ls.Nodup) ⟨by omega, by omega⟩
      ⟨lq, G5, a4, b4, c4, xs, ls, ⟨_, _, _, _, _, _, rfl⟩, Ex.refl _, S6.forget, hlq, hl5, ok, nd⟩ ?_ ?_
    · rintro i σ' H' hi ⟨lq, G', a', b', c', xs, ls, ⟨x1, x2, x3, x4, x5, x6, rfl⟩, eG, S, hlq, hl, ok, nd⟩
      have hz := okl_len ok nd hn2.2
      walk_at "go"
      refine n_list S (SqL.of (S.ex _ _ hlq)) fun l7 H7 _ S7 => ?_
      walk_at "go"
      refine n_net S7 S7.get0 (hl.mono S7.ex) ok nd ⟨by omega, by omega⟩ hz fun y G8 H8 _ e8 _ S8 N8 => ?_
      walk_at "go"
      refine n_take S8.swap ⟨by omega, by omega⟩ fun r9 a9 b9 c9 H9 h90 h91 S9 => ?_
      walk_at "go"
      refine n_take S9 ⟨by omega, by omega⟩ fun r10 a10 b10 c10 H10 h100 h101 S10 => ?_
      walk_at "go"
      refine ⟨y, lq, n, r9, r10, xs, ls, rfl, N8.mono S10.ex, S10.ex _ _ (e8 _ _ hlq), hl.mono (e8.trans S10.ex), ok, nd, ⟨h90, h91⟩, ⟨h100, h101⟩, fun H11 e11 => ?_⟩
      have S11 := (S10.swap.forget).grow e11
      have hlq8 := e8 _ _ hlq
      have hl8 := hl.mono e8
      walk_at "go"
      refine n_tup S11 (by show 2 ≤ 10000000; decide) fun t12 G12 H12 _ e12 _ ht12 S12 => ?_
      walk_at "go"
      refine if_2 (fun c => ?_) (fun c => ?_)
      · have hne : r9 ≠ r10 := fun z => by rw [dtrue z] at c; cases c
        have hb : 0 ≤ (mmP r9 r10).1 ∧ (mmP r9 r10).1 < (mmP r9 r10).2 ∧ (mmP r9 r10).2 < (n : Int) := by unfold mmP; simp only; omega
        walk_at "go"
        refine v_list (xs := xs) (fun m acc G' L' => L' = [(W, wl a10 b10 c10)] ∧ Lks G' acc ((ls.take m).filter fun q => !decide (q = mmP r9 r10))) S12 (SqL.of (e12 _ _ hlq8)) (by rw [pr_len hl]; omega) ⟨rfl, .nil⟩ ?_ ?_
        · rintro D m y acc G' L' H' hy hm e' hl' ⟨rfl, ha⟩ S'
          obtain ⟨q, hq, u, rfl, hu⟩ := pr_get hl8 hy
          walk_at "go"
          refine ⟨rfl, ?_⟩
          walk_at "go"
          refine n_nePr (q := q) (r := mmP r9 r10) (S'.ex _ _ (e' _ _ (e12 _ _ hu))) (S'.ex _ _ (e' _ _ ht12)) ?_
          walk_at "go"
          have e4 : (ls.take (m + 1)).filter (fun q => !decide (q = mmP r9 r10)) = (ls.take m).filter (fun q => !decide (q = mmP r9 r10)) ++ [q].filter (fun q => !decide (q = mmP r9 r10)) := by rw [take_snoc hq, List.filter_append]
          refine if_2 (fun c => ?_) (fun c => ?_)
          · walk_at "go"
            refine c_yes S' e' hl' hm ⟨rfl, ?_⟩
            rw [e4, List.filter_cons, if_pos c]
            exact pr_snoc ha ⟨u, rfl, e' _ _ (e12 _ _ hu)⟩
          · refine c_no S' e' hl' ⟨rfl, ?_⟩
            rw [e4, List.filter_cons, if_neg (by rw [c]; exact Bool.false_ne_true)]
            show Lks G' acc (_ ++ [])
            rw [List.append_nil]
            exact ha
        · rintro D acc G13 L13 H13 e13 _ ⟨rfl, ha⟩ S13
          rw [pr_len hl, List.take_length] at ha
          have hal : acc.length ≤ 10000 := by rw [pr_len ha]; exact Nat.le_trans (List.length_filter_le ..) hz
          walk_at "go"
          refine n_lst S13 (by show 1 ≤ 10000000; decide) fun q14 H14 _ S14 => ?_
          walk_at "go"
          have eX : Ex G8 G13 := e12.trans e13
          refine n_ninP (q := mmP r9 r10) (S14.ex _ _ (e13 _ _ ht12)) (SqL.of (S14.ex _ _ (eX _ _ hlq8))) (hl8.mono (eX.trans S14.ex)) ?_
          walk_at "go"
          refine n_repV S14 (by split <;> decide) (by split <;> decide) fun q15 G15 H15 _ e15 _ hq15 S15 => ?_
          refine n_catG S15 S15.l0 (SqL.of (S15.ex _ _ hq15)) (by rw [List.length_replicate]; split <;> simp <;> omega) fun q16 G16 H16 _ e16 _ hq16 S16 => ?_
          walk_at "go"
          have eY : Ex G8 G16 := (eX.trans e15).trans e16
          refine ⟨q16, G16, a10, b10, c10, _, stepL ls (mmP r9 r10), ⟨_, _, _, _, _, _, rfl⟩, eG.trans (e8.trans eY), (S16.forget), hq16, ?_, step_ok ok hb, step_nd nd⟩
          unfold stepL
          by_cases hm : mmP r9 r10 ∈ ls
          · rw [if_pos hm, decide_eq_true hm]
            show Lks G16 (acc ++ []) (_ ++ [])
            rw [List.append_nil, List.append_nil]
            exact ha.mono (e15.trans e16)
          · rw [if_neg hm, decide_eq_false hm]
            exact pr_app (ha.mono (e15.trans e16)) (.cons ⟨t12, rfl, e16 _ _ (e15 _ _ (e13 _ _ ht12))⟩ .nil)
      · walk_at "go"
        exact ⟨lq, G12, a10, b10, c10, xs, ls, ⟨_, _, _, _, _, _, rfl⟩, eG.trans (e8.trans e12), S12, e12 _ _ hlq8, hl8.mono e12, ok, nd⟩
    · rintro σ' H' ⟨lq, G', a', b', c', xs, ls, ⟨x1, x2, x3, x4, x5, x6, rfl⟩, eG, S, _⟩
      walk_at "go"
      exact k _ (((e1.trans e4).trans e5).trans (eG.trans S.ex))
theorem ok_law {f : Addr} {fd : FuncData} (F : Fun K "law" "law" s_law f fd) (T : Txt mg) (NC : NetC K C) (M_links : Mth P w K mg base 1 C "links" ["self"] (spLinks C))
    (c__law_well : Cal P w K mg base 1 "_law_well" ["_law_cell", "_law_turn"] [] spWell) (c__law_right : Cal P w K mg base 8 "_law_right" ["_law_well_here"] [] spRight) (c_Network : Cnw P w K mg base 3 "Network" C ["self", "stations", "links"] (spInit C))
    (c_linked : Cal P w K mg base 5 "linked" ["network", "one", "other"] [] (spLinked C CL)) : FnOk P w K mg base CX0 9 f fd ["_law_script"] (spLaw K) := by
  refine F.ok sc_law (fun vs H Q E h => ?_) (fun cdv A outer s H vs Q E hr h => ?_)
  · obtain ⟨a, ns, rfl, _⟩ := h
    rfl
  · obtain ⟨a, ns, rfl, hS, hn, k⟩ := h
    have hu65 : ∀ X : Cx, X.A = A.deeper (envOfC "law" (defScope s_law) s.heap.objs.size f cdv) → X.A.units + 65 < cLine := fun X e => by rw [e]; have := hr.un; omega
    refine ⟨_, (pss_cons (ps_for PassesOwn.never rfl (pi_enum (by rfl) T.n_enumerate (pa_cons (pe_slice sl_list (pe_op op_catL (pv 0) (pe_lst (pa_cons pe_int pa_nil))) po_none (po_some pe_int)) pa_nil)) (pg_tup (n := 2) rfl (pgs_cons (pg_name (i := 1) sc_law.nd rfl (Or.inl rfl)) (pgs_cons (pg_name (i := 2) sc_law.nd rfl (Or.inl rfl)) pgs_nil))) (pss_one (ps_if (pt_not (pt_val (pe_cal c__law_right (hr.mono (by first | decide | omega)) passN (pa_cons (pe_cal c__law_well (hr.mono (by first | decide | omega)) passN (pa_cons (pv 2) (pa_cons (pv 1) pa_nil))) pa_nil)))) (pss_one (ps_ret pe_bl)) pss_nil)))
      (pss_one (ps_ret (pe_cmpR (op_eqD (Nat.lt_of_succ_lt (hu65 _ rfl))) (pe_mth0 (pe_cal c_linked (hr.mono (by first | decide | omega)) passN (pa_cons (pe_new c_Network (hr.mono (by first | decide | omega)) passN (pa_cons pe_int (pa_cons (pe_lst (pa_cons (pe_tup (pa_cons pe_int (pa_cons pe_int pa_nil))) pa_nil)) pa_nil))) (pa_cons pe_int (pa_cons pe_int pa_nil)))) M_links NC.cl (hr.mono (by first | decide | omega)) passN) (pe_lst (pa_cons (pe_tup (pa_cons pe_int (pa_cons pe_int pa_nil))) (pa_cons (pe_tup (pa_cons pe_int (pa_cons pe_int pa_nil))) pa_nil))) (nomark _))))), ?_⟩
    walk_at "go"
    refine n_lstG (Own.start H) (by decide) fun p G1 H1 _ e1 _ hp S1 => ?_
    walk_at "go"
    refine n_catG S1 (S1.sl (ex_l e1 hS)) (SqL.of (S1.ex _ _ hp)) (by rw [List.length_map]; simp; omega) fun q G2 H2 _ e2 _ hq S2 => ?_
    walk_at "go"
    refine n_sl S2 (SqL.of (S2.ex _ _ hq)) fun t G3 H3 _ e3 _ ht S3 => ?_
    have hc : cutV (ns.map V.int ++ [.int 0]) none (some ((4 : Nat) : Int)) = ((ns ++ [0]).take 4).map V.int := by
      rw [cutV_to, List.map_take, List.map_append] <;> rfl
    have ht : G3 t = some (.lst (((ns ++ [0]).take 4).map V.int)) := ht.trans (by rw [← hc] <;> rfl)
    walk_at "go"
    refine w_enum (fun i σ' H' => (∃ x y, σ' = [some (.ref a), x, y]) ∧ Own G3 [] H') (SqL.of (S3.ex _ _ ht)) ⟨⟨_, _, rfl⟩, S3⟩ (fun i σ' H' h => SqL.of (h.2.ex _ _ ht)) ?_ ?_
    · rintro i x T' σ' H' hx ⟨⟨x0, y0, rfl⟩, S⟩ hT
      obtain ⟨z, _, rfl⟩ := get_map hx
      have S4 := S.grow (Ex.new (o := .tup [.int (i : Int), .int z]) hT)
      refine s_gtup (SqT.of upd_same) rfl ?_
      walk_at "go"
      refine ⟨_, _, rfl, fun a5 b5 c5 => n_retO S4 rfl fun W H5 _ _ S5 => ?_⟩
      walk_at "go"
      refine ⟨W, _, _, _, rfl, S5.get0, fun H6 e6 => ?_⟩
      walk_at "go"
      exact ⟨⟨_, _, rfl⟩, (Own.start G3).grow (S5.keep.trans e6)⟩
    · rintro σ' H' ⟨⟨x, y, rfl⟩, S4⟩
      walk_at "go"
      refine n_tup S4 (by show 2 ≤ 10000000; decide) fun u1 G5 H5 _ e5 _ hu1 S5 => ?_
      walk_at "go"
      refine n_lst S5 (by show 1 ≤ 10000000; decide) fun l7 H7 _ S7 => ?_
      walk_at "go"
      refine n_net (n := 3) (ps := [(0, 1)]) S7 S7.get0 (.cons ⟨u1, rfl, S7.ex _ _ hu1⟩ .nil) (by unfold Okl; decide +kernel) (by decide +kernel) ⟨by decide, by decide⟩ (by decide) fun y8 G8 H8 _ e8 _ S8 N8 => ?_
      walk_at "go"
      refine ⟨y8, 3, [(0, 1)], 2, 1, rfl, (show NetAt C H8 y8 3 [(0, 1)] from N8.mono S8.ex), ⟨by decide, by decide⟩, ⟨by decide, by decide⟩, fun q => absurd q (by decide +kernel), fun _ _ => n_spNet S8 fun y9 G9 H9 _ e9 _ S9 N9 => ?_⟩
      refine ⟨(N9.mono S9.ex).ins (by decide) (by decide), ?_⟩
      walk_at "go"
      refine n_links S9 N9 fun xs10 p10 G10 H10 hl10 _ e10 _ hp10 S10 => ?_
      walk_at "go"
      refine n_tup S10 (by show 2 ≤ 10000000; decide) fun u11 G11 H11 _ e11 _ hu11 S11 => ?_
      walk_at "go"
      refine n_tup S11 (by show 2 ≤ 10000000; decide) fun u12 G12 H12 _ e12 _ hu12 S12 => ?_
      walk_at "go"
      refine n_lst S12 (by show 2 ≤ 10000000; decide) fun l13 H13 _ S13 => ?_
      refine n_eqP (qs := [(0, 1), (1, 2)]) (SqL.of (S13.ex _ _ (e12 _ _ (e11 _ _ hp10)))) S13.l0 (hl10.mono ((e11.trans e12).trans S13.ex)) (.cons ⟨u11, rfl, S13.ex _ _ (e12 _ _ hu11)⟩ (.cons ⟨u12, rfl, S13.ex _ _ hu12⟩ .nil)) ?_
      rw [dtrue (by decide +kernel)]
      exact k _
end
end NX

namespace NX
open PySem PySem.Spec PyProof.Rows L2
section
variable {P : Program} {w : World} {K : PySem.W.Frag} {mg : Str → Option Value} {base : Heap}
theorem mkCal {x : Str} {f : Addr} {fd : FuncData} {k : Nat} {ps : List Str} {sp : Sp} (F : FnOk P w K mg base (L2.CX P w) k f fd ps sp) (g : mg x = some (.ref f)) (kp : PySem.W.keepIn K (.ref f) = true) (b : Binds K fd ps []) : Cal P w K mg base k x ps [] sp := ⟨f, fd, [], F, g, kp, b, .nil⟩
/-- how a plain def binds keywords -/
theorem fun_kbn {x qual : Str} {st : Stmt} {f : Addr} {fd : FuncData} {ps ks : List Str} {n : Nat} {g : List Value → List Value → List Value} {gV : List V → List V → List V} (F : Fun K x qual st f fd)
    (hrel : ∀ {vs : List V} {us : List Value} {zs : List V} {ws : List Value}, Vals vs us → Vals zs ws → Vals (gV vs zs) (g us ws))
    (h : ∀ (kV doc pm : Value) (an : Option Addr) (cdv ct : Value) (us ws : List Value), us.length = n → ws.length = ks.length → bindArgs (PySem.W.fnOf x qual (defArgs st) (defBody st) (defScope st) .none kV doc pm an cdv ct) ⟨us, ks.zip ws⟩ = pure (ps.zip (g us ws))) : KBn K fd ps n ks g gV := by
  obtain ⟨oc, od, kV, doc, pm, an, cdv, ct, osl, rfl, lk, hcd⟩ := F.ex
  exact ⟨fun s us ws _ h1 h2 => .of_eq (h kV doc pm an cdv ct us ws h1 h2), hrel⟩
theorem mkCalK {x : Str} {f : Addr} {fd : FuncData} {k n : Nat} {ps ks : List Str} {g : List Value → List Value → List Value} {gV : List V → List V → List V} {sp : Sp} (F : FnOk P w K mg base (L2.CX P w) k f fd ps sp) (hm : mg x = some (.ref f)) (kp : PySem.W.keepIn K (.ref f) = true) (b : KBn K fd ps n ks g gV) :
    CalK P w K mg base k x ps n ks gV sp := ⟨f, fd, g, F, hm, kp, b⟩
theorem walk {l : PySem.W.OpenLaw} {q : Program} {loose : List Str} {XP : (Str → Option Value) → Heap → Prop} {YP : World → Heap → Prop} {d : DefRec} {K : Params → PySem.W.Frag} {k : Nat} (hn : l.most = some 63) (hdf : d.params.defaults = []) (hr : Room k callerA)
    (hY : ∀ (w : World) (h : Heap), YP w h → (K w.params).In h) {sp : PySem.W.Frag → Sp}
    (F : ∀ (w : World) (mg : Str → Option Value) (fa : Addr) (h : Heap), (K w.params).In h → h.Ns mainGlobals mg → mg d.name = some (.ref fa) →
      ∃ fd : FuncData, (∀ (s : Shared) (u : Value), BindsTo s fd ⟨[u], []⟩ [("_law_script", u)]) ∧ ∀ base : Heap, (K w.params).In base → base.Ns mainGlobals mg → FnOk l.prog w (K w.params) mg base CX0 k fa fd ["_law_script"] (sp (K w.params)))
    (hsp : ∀ (K : PySem.W.Frag) (H : Hp) (a : Addr) (ns : List Int), ns.length ≤ 63 → SqL K H a (ns.map V.int) → sp K [.ref a] H (fun v _ => v = .bl true) fun _ _ _ => False) :
    PySem.W.WalkO q loose XP YP l.row.toRowW d [] (fun f vs => PySem.call f vs) :=
  L2.walk_of (n := 63) (k := k) (x := "_law_script") (CX := fun _ => CX0) (sp := fun w => sp (K w.params)) hn (by decide) hdf hr hY F (fun w _ a ns hl _ hS => hsp (K w.params) _ a ns hl hS) fun _ _ _ _ _ z => z
end
end NX


namespace NX
open PySem PySem.Spec PyProof.Rows L2
theorem all_mk {l : PySem.W.OpenLaw} {w : World} {K : PySem.W.Frag} {h : Heap} {mg : Str → Option Value} {fa f_is_int f_is_link f_chain f_greatest_channels f_link_of f_linked f_unlinked f__law_well f__law_take f__law_mixed f__law_links f__law_near f__law_table f__law_refused f__law_pair_right f__law_right f_law C f_M_init f_M_len f_M_eq f_M_links f_M_check_station C0 C_NoLink f_I_NoLink : Addr} (X : K.In h) (G : h.Ns mainGlobals mg) (hfa : mg "law" = some (.ref fa))
    {od_is_int an_is_int od_is_link an_is_link od_chain an_chain od_greatest_channels an_greatest_channels od_link_of an_link_of od_linked an_linked od_unlinked an_unlinked od__law_well an__law_well od__law_take an__law_take od__law_mixed an__law_mixed od__law_links an__law_links od__law_near an__law_near od__law_table an__law_table od__law_refused an__law_refused od__law_pair_right an__law_pair_right od__law_right an__law_right od_law an_law od_M_init an_M_init od_M_len an_M_len od_M_eq an_M_eq od_M_links an_M_links od_M_check_station an_M_check_station od_I_NoLink an_I_NoLink : Option Addr} {sl_is_int sl_is_link sl_chain sl_greatest_channels sl_link_of sl_linked sl_unlinked sl__law_well sl__law_take sl__law_mixed sl__law_links sl__law_near sl__law_table sl__law_refused sl__law_pair_right sl__law_right sl_law sl_M_init sl_M_len sl_M_eq sl_M_links sl_M_check_station sl_I_NoLink : Array (Option Value)} {oc_is_int dc_is_int pm_is_int cd_is_int ct_is_int kV_is_int oc_is_link dc_is_link pm_is_link cd_is_link ct_is_link kV_is_link oc_chain dc_chain pm_chain cd_chain ct_chain kV_chain oc_greatest_channels dc_greatest_channels pm_greatest_channels cd_greatest_channels ct_greatest_channels kV_greatest_channels oc_link_of dc_link_of pm_link_of cd_link_of ct_link_of kV_link_of oc_linked dc_linked pm_linked cd_linked ct_linked kV_linked oc_unlinked dc_unlinked pm_unlinked cd_unlinked ct_unlinked kV_unlinked oc__law_well dc__law_well pm__law_well cd__law_well ct__law_well kV__law_well oc__law_take dc__law_take pm__law_take cd__law_take ct__law_take kV__law_take oc__law_mixed dc__law_mixed pm__law_mixed cd__law_mixed ct__law_mixed kV__law_mixed oc__law_links dc__law_links pm__law_links cd__law_links ct__law_links kV__law_links oc__law_near dc__law_near pm__law_near cd__law_near ct__law_near kV__law_near oc__law_table dc__law_table pm__law_table cd__law_table ct__law_table kV__law_table oc__law_refused dc__law_refused pm__law_refused cd__law_refused ct__law_refused kV__law_refused oc__law_pair_right dc__law_pair_right pm__law_pair_right cd__law_pair_right ct__law_pair_right kV__law_pair_right oc__law_right dc__law_right pm__law_right cd__law_right ct__law_right kV__law_right oc_law dc_law pm_law cd_law ct_law kV_law oc_M_init dc_M_init pm_M_init cd_M_init ct_M_init kV_M_init oc_M_len dc_M_len pm_M_len cd_M_len ct_M_len kV_M_len oc_M_eq dc_M_eq pm_M_eq cd_M_eq ct_M_eq kV_M_eq oc_M_links dc_M_links pm_M_links cd_M_links ct_M_links kV_M_links oc_M_check_station dc_M_check_station pm_M_check_station cd_M_check_station ct_M_check_station kV_M_check_station oc_I_NoLink dc_I_NoLink pm_I_NoLink cd_I_NoLink ct_I_NoLink kV_I_NoLink : Value} {t_MAX_STATIONS : Tok} {nm_NoLink q_NoLink : Str} {N_NoLink : Addr} {bs_NoLink sub_NoLink : List Value} {sn_NoLink : List Str} {ab_NoLink : Bool} {col_NoLink : Option Bool} {dd_NoLink : Option Addr} {m0_NoLink m1_NoLink m2_NoLink m3_NoLink m5_NoLink : Option Value}
    (z_all : PySem.W.nsIn K mainGlobals "all" = some none)
    (z_bool : PySem.W.nsIn K mainGlobals "bool" = some none)
    (z_enumerate : PySem.W.nsIn K mainGlobals "enumerate" = some none)
    (z_int : PySem.W.nsIn K mainGlobals "int" = some none)
    (z_isinstance : PySem.W.nsIn K mainGlobals "isinstance" = some none)
    (z_len : PySem.W.nsIn K mainGlobals "len" = some none)
    (z_list : PySem.W.nsIn K mainGlobals "list" = some none)
    (z_max : PySem.W.nsIn K mainGlobals "max" = some none)
    (z_min : PySem.W.nsIn K mainGlobals "min" = some none)
    (z_range : PySem.W.nsIn K mainGlobals "range" = some none)
    (z_set : PySem.W.nsIn K mainGlobals "set" = some none)
    (z_sorted : PySem.W.nsIn K mainGlobals "sorted" = some none)
    (z_tuple : PySem.W.nsIn K mainGlobals "tuple" = some none)
    (z_zip : PySem.W.nsIn K mainGlobals "zip" = some none)
    (v_MAX_STATIONS : PySem.W.nsIn K mainGlobals "MAX_STATIONS" = some (some (.int 60 t_MAX_STATIONS)))
    (a_is_int : PySem.W.nsIn K mainGlobals "is_int" = some (some (.ref f_is_int)))
    (l_is_int : K.lookup f_is_int = some ⟨oc_is_int, od_is_int, .func (PySem.W.fnOf "is_int" "is_int" (defArgs s_is_int) (defBody s_is_int) (defScope s_is_int) .none kV_is_int dc_is_int pm_is_int an_is_int cd_is_int ct_is_int), sl_is_int⟩)
    (c_is_int : PySem.W.codeIn K cd_is_int "is_int" = true)
    (k_is_int : PySem.W.keepIn K (.ref f_is_int) = true)
    (a_is_link : PySem.W.nsIn K mainGlobals "is_link" = some (some (.ref f_is_link)))
    (l_is_link : K.lookup f_is_link = some ⟨oc_is_link, od_is_link, .func (PySem.W.fnOf "is_link" "is_link" (defArgs s_is_link) (defBody s_is_link) (defScope s_is_link) .none kV_is_link dc_is_link pm_is_link an_is_link cd_is_link ct_is_link), sl_is_link⟩)
    (c_is_link : PySem.W.codeIn K cd_is_link "is_link" = true)
    (k_is_link : PySem.W.keepIn K (.ref f_is_link) = true)
    (a_chain : PySem.W.nsIn K mainGlobals "chain" = some (some (.ref f_chain)))
    (l_chain : K.lookup f_chain = some ⟨oc_chain, od_chain, .func (PySem.W.fnOf "chain" "chain" (defArgs s_chain) (defBody s_chain) (defScope s_chain) .none kV_chain dc_chain pm_chain an_chain cd_chain ct_chain), sl_chain⟩)
    (c_chain : PySem.W.codeIn K cd_chain "chain" = true)
    (k_chain : PySem.W.keepIn K (.ref f_chain) = true)
    (a_greatest_channels : PySem.W.nsIn K mainGlobals "greatest_channels" = some (some (.ref f_greatest_channels)))
    (l_greatest_channels : K.lookup f_greatest_channels = some ⟨oc_greatest_channels, od_greatest_channels, .func (PySem.W.fnOf "greatest_channels" "greatest_channels" (defArgs s_greatest_channels) (defBody s_greatest_channels) (defScope s_greatest_channels) .none kV_greatest_channels dc_greatest_channels pm_greatest_channels an_greatest_channels cd_greatest_channels ct_greatest_channels), sl_greatest_channels⟩)
    (c_greatest_channels : PySem.W.codeIn K cd_greatest_channels "greatest_channels" = true)
    (k_greatest_channels : PySem.W.keepIn K (.ref f_greatest_channels) = true)
    (a_link_of : PySem.W.nsIn K mainGlobals "link_of" = some (some (.ref f_link_of)))
    (l_link_of : K.lookup f_link_of = some ⟨oc_link_of, od_link_of, .func (PySem.W.fnOf "link_of" "link_of" (defArgs s_link_of) (defBody s_link_of) (defScope s_link_of) .none kV_link_of dc_link_of pm_link_of an_link_of cd_link_of ct_link_of), sl_link_of⟩)
    (c_link_of : PySem.W.codeIn K cd_link_of "link_of" = true)
    (k_link_of : PySem.W.keepIn K (.ref f_link_of) = true)
    (a_linked : PySem.W.nsIn K mainGlobals "linked" = some (some (.ref f_linked)))
    (l_linked : K.lookup f_linked = some ⟨oc_linked, od_linked, .func (PySem.W.fnOf "linked" "linked" (defArgs s_linked) (defBody s_linked) (defScope s_linked) .none kV_linked dc_linked pm_linked an_linked cd_linked ct_linked), sl_linked⟩)
    (c_linked : PySem.W.codeIn K cd_linked "linked" = true)
    (k_linked : PySem.W.keepIn K (.ref f_linked) = true)
    (a_unlinked : PySem.W.nsIn K mainGlobals "unlinked" = some (some (.ref f_unlinked)))
    (l_unlinked : K.lookup f_unlinked = some ⟨oc_unlinked, od_unlinked, .func (PySem.W.fnOf "unlinked" "unlinked" (defArgs s_unlinked) (defBody s_unlinked) (defScope s_unlinked) .none kV_unlinked dc_unlinked pm_unlinked an_unlinked cd_unlinked ct_unlinked), sl_unlinked⟩)
    (c_unlinked : PySem.W.codeIn K cd_unlinked "unlinked" = true)
    (k_unlinked : PySem.W.keepIn K (.ref f_unlinked) = true)
    (a__law_well : PySem.W.nsIn K mainGlobals "_law_well" = some (some (.ref f__law_well)))
    (l__law_well : K.lookup f__law_well = some ⟨oc__law_well, od__law_well, .func (PySem.W.fnOf "_law_well" "_law_well" (defArgs s__law_well) (defBody s__law_well) (defScope s__law_well) .none kV__law_well dc__law_well pm__law_well an__law_well cd__law_well ct__law_well), sl__law_well⟩)
    (c__law_well : PySem.W.codeIn K cd__law_well "_law_well" = true)
    (k__law_well : PySem.W.keepIn K (.ref f__law_well) = true)
    (a__law_take : PySem.W.nsIn K mainGlobals "_law_take" = some (some (.ref f__law_take)))
    (l__law_take : K.lookup f__law_take = some ⟨oc__law_take, od__law_take, .func (PySem.W.fnOf "_law_take" "_law_take" (defArgs s__law_take) (defBody s__law_take) (defScope s__law_take) .none kV__law_take dc__law_take pm__law_take an__law_take cd__law_take ct__law_take), sl__law_take⟩)
    (c__law_take : PySem.W.codeIn K cd__law_take "_law_take" = true)
    (k__law_take : PySem.W.keepIn K (.ref f__law_take) = true)
    (a__law_mixed : PySem.W.nsIn K mainGlobals "_law_mixed" = some (some (.ref f__law_mixed)))
    (l__law_mixed : K.lookup f__law_mixed = some ⟨oc__law_mixed, od__law_mixed, .func (PySem.W.fnOf "_law_mixed" "_law_mixed" (defArgs s__law_mixed) (defBody s__law_mixed) (defScope s__law_mixed) .none kV__law_mixed dc__law_mixed pm__law_mixed an__law_mixed cd__law_mixed ct__law_mixed), sl__law_mixed⟩)
    (c__law_mixed : PySem.W.codeIn K cd__law_mixed "_law_mixed" = true)
    (k__law_mixed : PySem.W.keepIn K (.ref f__law_mixed) = true)
    (a__law_links : PySem.W.nsIn K mainGlobals "_law_links" = some (some (.ref f__law_links)))
    (l__law_links : K.lookup f__law_links = some ⟨oc__law_links, od__law_links, .func (PySem.W.fnOf "_law_links" "_law_links" (defArgs s__law_links) (defBody s__law_links) (defScope s__law_links) .none kV__law_links dc__law_links pm__law_links an__law_links cd__law_links ct__law_links), sl__law_links⟩)
    (c__law_links : PySem.W.codeIn K cd__law_links "_law_links" = true)
    (k__law_links : PySem.W.keepIn K (.ref f__law_links) = true)
    (a__law_near : PySem.W.nsIn K mainGlobals "_law_near" = some (some (.ref f__law_near)))
    (l__law_near : K.lookup f__law_near = some ⟨oc__law_near, od__law_near, .func (PySem.W.fnOf "_law_near" "_law_near" (defArgs s__law_near) (defBody s__law_near) (defScope s__law_near) .none kV__law_near dc__law_near pm__law_near an__law_near cd__law_near ct__law_near), sl__law_near⟩)
    (c__law_near : PySem.W.codeIn K cd__law_near "_law_near" = true)
    (k__law_near : PySem.W.keepIn K (.ref f__law_near) = true)
    (a__law_table : PySem.W.nsIn K mainGlobals "_law_table" = some (some (.ref f__law_table)))
    (l__law_table : K.lookup f__law_table = some ⟨oc__law_table, od__law_table, .func (PySem.W.fnOf "_law_table" "_law_table" (defArgs s__law_table) (defBody s__law_table) (defScope s__law_table) .none kV__law_table dc__law_table pm__law_table an__law_table cd__law_table ct__law_table), sl__law_table⟩)
    (c__law_table : PySem.W.codeIn K cd__law_table "_law_table" = true)
    (k__law_table : PySem.W.keepIn K (.ref f__law_table) = true)
    (a__law_refused : PySem.W.nsIn K mainGlobals "_law_refused" = some (some (.ref f__law_refused)))
    (l__law_refused : K.lookup f__law_refused = some ⟨oc__law_refused, od__law_refused, .func (PySem.W.fnOf "_law_refused" "_law_refused" (defArgs s__law_refused) (defBody s__law_refused) (defScope s__law_refused) .none kV__law_refused dc__law_refused pm__law_refused an__law_refused cd__law_refused ct__law_refused), sl__law_refused⟩)
    (c__law_refused : PySem.W.codeIn K cd__law_refused "_law_refused" = true)
    (k__law_refused : PySem.W.keepIn K (.ref f__law_refused) = true)
    (a__law_pair_right : PySem.W.nsIn K mainGlobals "_law_pair_right" = some (some (.ref f__law_pair_right)))
    (l__law_pair_right : K.lookup f__law_pair_right = some ⟨oc__law_pair_right, od__law_pair_right, .func (PySem.W.fnOf "_law_pair_right" "_law_pair_right" (defArgs s__law_pair_right) (defBody s__law_pair_right) (defScope s__law_pair_right) .none kV__law_pair_right dc__law_pair_right pm__law_pair_right an__law_pair_right cd__law_pair_right ct__law_pair_right), sl__law_pair_right⟩)
    (c__law_pair_right : PySem.W.codeIn K cd__law_pair_right "_law_pair_right" = true)
    (k__law_pair_right : PySem.W.keepIn K (.ref f__law_pair_right) = true)
    (a__law_right : PySem.W.nsIn K mainGlobals "_law_right" = some (some (.ref f__law_right)))
    (l__law_right : K.lookup f__law_right = some ⟨oc__law_right, od__law_right, .func (PySem.W.fnOf "_law_right" "_law_right" (defArgs s__law_right) (defBody s__law_right) (defScope s__law_right) .none kV__law_right dc__law_right pm__law_right an__law_right cd__law_right ct__law_right), sl__law_right⟩)
    (c__law_right : PySem.W.codeIn K cd__law_right "_law_right" = true)
    (k__law_right : PySem.W.keepIn K (.ref f__law_right) = true)
    (a_law : PySem.W.nsIn K mainGlobals "law" = some (some (.ref f_law)))
    (l_law : K.lookup f_law = some ⟨oc_law, od_law, .func (PySem.W.fnOf "law" "law" (defArgs s_law) (defBody s_law) (defScope s_law) .none kV_law dc_law pm_law an_law cd_law ct_law), sl_law⟩)
    (c_law : PySem.W.codeIn K cd_law "law" = true)
    (k_law : PySem.W.keepIn K (.ref f_law) = true)
    (aC : PySem.W.nsIn K mainGlobals "Network" = some (some (.ref C)))
    (a_M_init : PySem.W.findIn K (.ref C) "__init__" = some (some (.ref f_M_init)))
    (i_M_init : PySem.W.isFn K (.ref f_M_init) = true)
    (l_M_init : K.lookup f_M_init = some ⟨oc_M_init, od_M_init, .func (PySem.W.fnOf "__init__" "Network.__init__" (defArgs s_Network___init__) (defBody s_Network___init__) (defScope s_Network___init__) .none kV_M_init dc_M_init pm_M_init an_M_init cd_M_init ct_M_init), sl_M_init⟩)
    (c_M_init : PySem.W.codeIn K cd_M_init "Network.__init__" = true)
    (k_M_init : PySem.W.keepIn K (.ref f_M_init) = true)
    (a_M_len : PySem.W.findIn K (.ref C) "__len__" = some (some (.ref f_M_len)))
    (i_M_len : PySem.W.isFn K (.ref f_M_len) = true)
    (l_M_len : K.lookup f_M_len = some ⟨oc_M_len, od_M_len, .func (PySem.W.fnOf "__len__" "Network.__len__" (defArgs s_Network___len__) (defBody s_Network___len__) (defScope s_Network___len__) .none kV_M_len dc_M_len pm_M_len an_M_len cd_M_len ct_M_len), sl_M_len⟩)
    (c_M_len : PySem.W.codeIn K cd_M_len "Network.__len__" = true)
    (k_M_len : PySem.W.keepIn K (.ref f_M_len) = true)
    (a_M_eq : PySem.W.findIn K (.ref C) "__eq__" = some (some (.ref f_M_eq)))
    (i_M_eq : PySem.W.isFn K (.ref f_M_eq) = true)
    (l_M_eq : K.lookup f_M_eq = some ⟨oc_M_eq, od_M_eq, .func (PySem.W.fnOf "__eq__" "Network.__eq__" (defArgs s_Network___eq__) (defBody s_Network___eq__) (defScope s_Network___eq__) .none kV_M_eq dc_M_eq pm_M_eq an_M_eq cd_M_eq ct_M_eq), sl_M_eq⟩)
    (c_M_eq : PySem.W.codeIn K cd_M_eq "Network.__eq__" = true)
    (k_M_eq : PySem.W.keepIn K (.ref f_M_eq) = true)
    (a_M_links : PySem.W.findIn K (.ref C) "links" = some (some (.ref f_M_links)))
    (i_M_links : PySem.W.isFn K (.ref f_M_links) = true)
    (l_M_links : K.lookup f_M_links = some ⟨oc_M_links, od_M_links, .func (PySem.W.fnOf "links" "Network.links" (defArgs s_Network_links) (defBody s_Network_links) (defScope s_Network_links) .none kV_M_links dc_M_links pm_M_links an_M_links cd_M_links ct_M_links), sl_M_links⟩)
    (c_M_links : PySem.W.codeIn K cd_M_links "Network.links" = true)
    (k_M_links : PySem.W.keepIn K (.ref f_M_links) = true)
    (a_M_check_station : PySem.W.findIn K (.ref C) "check_station" = some (some (.ref f_M_check_station)))
    (i_M_check_station : PySem.W.isFn K (.ref f_M_check_station) = true)
    (l_M_check_station : K.lookup f_M_check_station = some ⟨oc_M_check_station, od_M_check_station, .func (PySem.W.fnOf "check_station" "Network.check_station" (defArgs s_Network_check_station) (defBody s_Network_check_station) (defScope s_Network_check_station) .none kV_M_check_station dc_M_check_station pm_M_check_station an_M_check_station cd_M_check_station ct_M_check_station), sl_M_check_station⟩)
    (c_M_check_station : PySem.W.codeIn K cd_M_check_station "Network.check_station" = true)
    (k_M_check_station : PySem.W.keepIn K (.ref f_M_check_station) = true)
    (pg : PySem.W.plainGet K C Str.empty = true)
    (hd : PySem.W.hasDictIn K C = true)
    (po : PySem.W.plainOver K C = true)
    (sa : PySem.W.findIn K (.ref C) "__setattr__" = some (some (.builtin "object.__setattr__")))
    (mk : PySem.W.makesIn K C = true)
    (kc : PySem.W.keepIn K (.ref C) = true)
    (nK : PySem.W.findIn K (.ref C) "kept" = some none)
    (nN : PySem.W.findIn K (.ref C) "near" = some none)
    (ha : PySem.W.findIn K (.ref C) "__class__" = some (some (.builtin "object.__class__")))
    (hn : PySem.W.specialIn K (.builtin "object.__class__") "__get__" = some (some (.builtin "getset_descriptor.__get__")))
    (ht : PySem.W.takesIn K (.builtin "object.__class__") = some true)
    (hm : PySem.W.mroIn K C (.type "object") = some true)
    (ne : PySem.W.findIn K (.ref C) "__ne__" = some (some (.builtin "object.__ne__")))
    (aB : PySem.W.nsIn K mainGlobals "ChannelError" = some (some (.ref C0)))
    (rdB : PySem.W.readsIn K C0 (.type "type") = true)
    (gaB : PySem.W.specialIn K (.ref C0) "__getattribute__" = some (some (.builtin "type.__getattribute__")))
    (vVB : PySem.W.findCls K (.ref C0) (.type "type") "__init__" = some (.val (.builtin "ValueError.__init__")))
    (aX_NoLink : PySem.W.nsIn K mainGlobals "NoLink" = some (some (.ref C_NoLink)))
    (xL_NoLink : K.lookup C_NoLink = some (excClassObj nm_NoLink q_NoLink C_NoLink N_NoLink bs_NoLink [.ref C0, .type "ValueError", .type "Exception", .type "BaseException", .type "object"] true sn_NoLink sub_NoLink ab_NoLink col_NoLink dd_NoLink m0_NoLink m1_NoLink m2_NoLink m3_NoLink m5_NoLink "ValueError.__new__"))
    (sa_NoLink : PySem.W.findIn K (.ref C_NoLink) "__setattr__" = some (some (.builtin "object.__setattr__")))
    (ga_NoLink : PySem.W.findIn K (.ref C_NoLink) "__getattribute__" = some (some (.builtin "BaseException.__getattribute__")))
    (gg_NoLink : PySem.W.findIn K (.ref C_NoLink) "__getattr__" = some none)
    (nf_NoLink : PySem.W.findIn K (.ref C_NoLink) "link" = some none)
    (aI_NoLink : PySem.W.findIn K (.ref C_NoLink) "__init__" = some (some (.ref f_I_NoLink)))
    (tI_NoLink : PySem.W.typeIn K (.ref f_I_NoLink) = some (.type "function"))
    (l_I_NoLink : K.lookup f_I_NoLink = some ⟨oc_I_NoLink, od_I_NoLink, .func (PySem.W.fnOf "__init__" "NoLink.__init__" (defArgs s_NoLink___init__) (defBody s_NoLink___init__) (defScope s_NoLink___init__) .none kV_I_NoLink dc_I_NoLink pm_I_NoLink an_I_NoLink cd_I_NoLink ct_I_NoLink), sl_I_NoLink⟩)
    (c_I_NoLink : PySem.W.codeIn K cd_I_NoLink "NoLink.__init__" = true)
    (k_I_NoLink : PySem.W.keepIn K (.ref f_I_NoLink) = true)
    (kC_NoLink : PySem.W.keepIn K (.ref C_NoLink) = true)
    (eC_NoLink : PySem.W.subIn K (.ref C_NoLink) (.type "BaseException") = some true)
    (tC_NoLink : PySem.W.typeIn K (.ref C_NoLink) = some (.type "type"))
    (hC_NoLink : PySem.W.hasDictIn K C_NoLink = true)
    (sC_NoLink : PySem.W.subIn K (.ref C_NoLink) (.ref C_NoLink) = some true) :
    ∃ fd : FuncData, (∀ (s : Shared) (v : Value), BindsTo s fd ⟨[v], []⟩ [("_law_script", v)]) ∧ ∀ base : Heap, K.In base → base.Ns mainGlobals mg → FnOk l.prog w K mg base CX0 9 fa fd ["_law_script"] (spLaw K) := by
  have e := hfa.symm.trans (PySem.W.mg_of X G a_law)
  cases e
  have T : Txt mg := ⟨PySem.W.mg_none_of X G z_all, PySem.W.mg_none_of X G z_bool, PySem.W.mg_none_of X G z_enumerate, PySem.W.mg_none_of X G z_int, PySem.W.mg_none_of X G z_isinstance, PySem.W.mg_none_of X G z_len, PySem.W.mg_none_of X G z_list, PySem.W.mg_none_of X G z_max, PySem.W.mg_none_of X G z_min, PySem.W.mg_none_of X G z_range, PySem.W.mg_none_of X G z_set, PySem.W.mg_none_of X G z_sorted, PySem.W.mg_none_of X G z_tuple, PySem.W.mg_none_of X G z_zip, ⟨_, PySem.W.mg_of X G v_MAX_STATIONS⟩⟩
  have F_is_int := fun_mk (st := s_is_int) l_is_int c_is_int k_is_int
  have g_is_int := PySem.W.mg_of X G a_is_int
  have b_is_int := F_is_int.binds (ps := ["value"]) fun _ _ _ _ _ _ us hl => match us, hl with | [_], _ => rfl
  have F_is_link := fun_mk (st := s_is_link) l_is_link c_is_link k_is_link
  have g_is_link := PySem.W.mg_of X G a_is_link
  have b_is_link := F_is_link.binds (ps := ["value", "stations"]) fun _ _ _ _ _ _ us hl => match us, hl with | [_, _], _ => rfl
  have F_chain := fun_mk (st := s_chain) l_chain c_chain k_chain
  have g_chain := PySem.W.mg_of X G a_chain
  have b_chain := F_chain.binds (ps := ["numbers"]) fun _ _ _ _ _ _ us hl => match us, hl with | [_], _ => rfl
  have F_greatest_channels := fun_mk (st := s_greatest_channels) l_greatest_channels c_greatest_channels k_greatest_channels
  have g_greatest_channels := PySem.W.mg_of X G a_greatest_channels
  have b_greatest_channels := F_greatest_channels.binds (ps := ["network"]) fun _ _ _ _ _ _ us hl => match us, hl with | [_], _ => rfl
  have F_link_of := fun_mk (st := s_link_of) l_link_of c_link_of k_link_of
  have g_link_of := PySem.W.mg_of X G a_link_of
  have b_link_of := F_link_of.binds (ps := ["network", "one", "other"]) fun _ _ _ _ _ _ us hl => match us, hl with | [_, _, _], _ => rfl
  have F_linked := fun_mk (st := s_linked) l_linked c_linked k_linked
  have g_linked := PySem.W.mg_of X G a_linked
  have b_linked := F_linked.binds (ps := ["network", "one", "other"]) fun _ _ _ _ _ _ us hl => match us, hl with | [_, _, _], _ => rfl
  have F_unlinked := fun_mk (st := s_unlinked) l_unlinked c_unlinked k_unlinked
  have g_unlinked := PySem.W.mg_of X G a_unlinked
  have b_unlinked := F_unlinked.binds (ps := ["network", "one", "other"]) fun _ _ _ _ _ _ us hl => match us, hl with | [_, _, _], _ => rfl
  have F__law_well := fun_mk (st := s__law_well) l__law_well c__law_well k__law_well
  have g__law_well := PySem.W.mg_of X G a__law_well
  have b__law_well := F__law_well.binds (ps := ["_law_cell", "_law_turn"]) fun _ _ _ _ _ _ us hl => match us, hl with | [_, _], _ => rfl
  have F__law_take := fun_mk (st := s__law_take) l__law_take c__law_take k__law_take
  have g__law_take := PySem.W.mg_of X G a__law_take
  have b__law_take := F__law_take.binds (ps := ["_law_well_here", "_law_bound"]) fun _ _ _ _ _ _ us hl => match us, hl with | [_, _], _ => rfl
  have F__law_mixed := fun_mk (st := s__law_mixed) l__law_mixed c__law_mixed k__law_mixed
  have g__law_mixed := PySem.W.mg_of X G a__law_mixed
  have b__law_mixed := F__law_mixed.binds (ps := ["_law_well_here", "_law_some"]) fun _ _ _ _ _ _ us hl => match us, hl with | [_, _], _ => rfl
  have F__law_links := fun_mk (st := s__law_links) l__law_links c__law_links k__law_links
  have g__law_links := PySem.W.mg_of X G a__law_links
  have b__law_links := F__law_links.binds (ps := ["_law_well_here", "_law_size"]) fun _ _ _ _ _ _ us hl => match us, hl with | [_, _], _ => rfl
  have F__law_near := fun_mk (st := s__law_near) l__law_near c__law_near k__law_near
  have g__law_near := PySem.W.mg_of X G a__law_near
  have b__law_near := F__law_near.binds (ps := ["_law_size", "_law_links_here"]) fun _ _ _ _ _ _ us hl => match us, hl with | [_, _], _ => rfl
  have F__law_table := fun_mk (st := s__law_table) l__law_table c__law_table k__law_table
  have g__law_table := PySem.W.mg_of X G a__law_table
  have b__law_table := F__law_table.binds (ps := ["_law_near_here"]) fun _ _ _ _ _ _ us hl => match us, hl with | [_], _ => rfl
  have F__law_refused := fun_mk (st := s__law_refused) l__law_refused c__law_refused k__law_refused
  have g__law_refused := PySem.W.mg_of X G a__law_refused
  have b__law_refused := F__law_refused.binds (ps := ["_law_way", "_law_network", "_law_one", "_law_two"]) fun _ _ _ _ _ _ us hl => match us, hl with | [_, _, _, _], _ => rfl
  have F__law_pair_right := fun_mk (st := s__law_pair_right) l__law_pair_right c__law_pair_right k__law_pair_right
  have g__law_pair_right := PySem.W.mg_of X G a__law_pair_right
  have b__law_pair_right := F__law_pair_right.binds (ps := ["_law_network", "_law_size", "_law_links_here", "_law_one", "_law_two"]) fun _ _ _ _ _ _ us hl => match us, hl with | [_, _, _, _, _], _ => rfl
  have F__law_right := fun_mk (st := s__law_right) l__law_right c__law_right k__law_right
  have g__law_right := PySem.W.mg_of X G a__law_right
  have b__law_right := F__law_right.binds (ps := ["_law_well_here"]) fun _ _ _ _ _ _ us hl => match us, hl with | [_], _ => rfl
  have F_law := fun_mk (st := s_law) l_law c_law k_law
  have g_law := PySem.W.mg_of X G a_law
  have hC := PySem.W.mg_of X G aC
  have NC : NetC K C := ⟨⟨pg, hd, po, sa⟩, nK, nN, ha, hn, ht, hm, if_pos (beq_self_eq_true _), ne⟩
  have F_M_init := fun_mk (st := s_Network___init__) l_M_init c_M_init k_M_init
  have b_M_init := F_M_init.binds (ps := ["self", "stations", "links"]) fun _ _ _ _ _ _ us hl => match us, hl with | [_, _, _], _ => rfl
  have F_M_len := fun_mk (st := s_Network___len__) l_M_len c_M_len k_M_len
  have b_M_len := F_M_len.binds (ps := ["self"]) fun _ _ _ _ _ _ us hl => match us, hl with | [_], _ => rfl
  have F_M_eq := fun_mk (st := s_Network___eq__) l_M_eq c_M_eq k_M_eq
  have b_M_eq := F_M_eq.binds (ps := ["self", "other"]) fun _ _ _ _ _ _ us hl => match us, hl with | [_, _], _ => rfl
  have F_M_links := fun_mk (st := s_Network_links) l_M_links c_M_links k_M_links
  have b_M_links := F_M_links.binds (ps := ["self"]) fun _ _ _ _ _ _ us hl => match us, hl with | [_], _ => rfl
  have F_M_check_station := fun_mk (st := s_Network_check_station) l_M_check_station c_M_check_station k_M_check_station
  have b_M_check_station := F_M_check_station.binds (ps := ["self", "station"]) fun _ _ _ _ _ _ us hl => match us, hl with | [_, _], _ => rfl
  have BC : BaseC K C0 := ⟨rdB, gaB, vVB⟩
  have m_ChannelError := PySem.W.mg_of X G aB
  have m_NoLink := PySem.W.mg_of X G aX_NoLink
  have OX_NoLink : OexC K C_NoLink := ⟨⟨_, _, _, _, _, _, _, _, _, _, _, _, _, _, _, xL_NoLink, rfl⟩, sa_NoLink, eC_NoLink, tC_NoLink, kC_NoLink⟩
  have F_I_NoLink := fun_mk (st := s_NoLink___init__) l_I_NoLink c_I_NoLink k_I_NoLink
  have b_I_NoLink := F_I_NoLink.binds (ps := ["self", "link"]) fun _ _ _ _ _ _ us hl => match us, hl with | [_, _], _ => rfl
  have XF_NoLink : XfC K C_NoLink := ⟨ga_NoLink, gg_NoLink, eC_NoLink, hC_NoLink⟩
  have te_NoLink : PySem.W.exmOne K (.ref C_NoLink) (.ref C_NoLink) = some true := PySem.W.exm_ref eC_NoLink hC_NoLink tC_NoLink sC_NoLink
  refine ⟨PySem.W.fnOf "law" "law" (defArgs s_law) (defBody s_law) (defScope s_law) .none kV_law dc_law pm_law an_law cd_law ct_law, fun s v => .of_eq rfl, fun base _ _ => ?_⟩
  have O_is_int : FnOk l.prog w K mg base (L2.CX l.prog w) 1 _ _ _ _ := fn_up (ok_is_int F_is_int T)
  have c_is_int := mkCal O_is_int g_is_int F_is_int.kp b_is_int
  have O_is_link : FnOk l.prog w K mg base (L2.CX l.prog w) 2 _ _ _ _ := fn_up (ok_is_link F_is_link T c_is_int)
  have c_is_link := mkCal O_is_link g_is_link F_is_link.kp b_is_link
  have O_init : FnOk l.prog w K mg base (L2.CX l.prog w) 3 _ _ _ _ := fn_up (ok_init F_M_init T NC c_is_int c_is_link)
  have c_Network : Cnw l.prog w K mg base 3 "Network" C ["self", "stations", "links"] (spInit C) := ⟨_, _, ⟨mk, a_M_init, i_M_init, kc⟩, O_init, hC, b_M_init⟩
  have M_len : Mth l.prog w K mg base 1 C "__len__" ["self"] (spLen C) := ⟨_, _, ⟨a_M_len, i_M_len, F_M_len.kp⟩, fn_up (ok_len F_M_len T NC), b_M_len⟩
  have M_eq : Mth l.prog w K mg base 3 C "__eq__" ["self", "other"] (spEqN C) := ⟨_, _, ⟨a_M_eq, i_M_eq, F_M_eq.kp⟩, fn_up (ok_eq F_M_eq T NC hC M_len), b_M_eq⟩
  have M_links : Mth l.prog w K mg base 1 C "links" ["self"] (spLinks C) := ⟨_, _, ⟨a_M_links, i_M_links, F_M_links.kp⟩, fn_up (ok_links F_M_links T NC), b_M_links⟩
  have M_chk : Mth l.prog w K mg base 2 C "check_station" ["self", "station"] (spChk C) := ⟨_, _, ⟨a_M_check_station, i_M_check_station, F_M_check_station.kp⟩, fn_up (ok_chk F_M_check_station T NC c_is_int), b_M_check_station⟩
  have O_chain : FnOk l.prog w K mg base (L2.CX l.prog w) 1 _ _ _ _ := fn_up (ok_chain F_chain T)
  have c_chain := mkCal O_chain g_chain F_chain.kp b_chain
  have O_gc : FnOk l.prog w K mg base (L2.CX l.prog w) 3 _ _ _ _ := fn_up (ok_gc F_greatest_channels T NC c_chain M_len)
  have c_gc := mkCal O_gc g_greatest_channels F_greatest_channels.kp b_greatest_channels
  have X_NoLink : Exn l.prog w K mg base "NoLink" C_NoLink "link" := ⟨_, _, m_NoLink, OX_NoLink, aI_NoLink, tI_NoLink, fn_up (ok_ini_NoLink F_I_NoLink m_ChannelError BC nf_NoLink), b_I_NoLink⟩
  have O_lof : FnOk l.prog w K mg base (L2.CX l.prog w) 4 _ _ _ _ := ok_linkOf F_link_of T NC M_chk X_NoLink
  have c_lof := mkCal O_lof g_link_of F_link_of.kp b_link_of
  have O_lkd : FnOk l.prog w K mg base (L2.CX l.prog w) 5 _ _ _ _ := ok_linked F_linked T NC M_len M_links c_Network c_lof X_NoLink
  have c_lkd := mkCal O_lkd g_linked F_linked.kp b_linked
  have O_ulk : FnOk l.prog w K mg base (L2.CX l.prog w) 5 _ _ _ _ := ok_unlinked F_unlinked T NC M_len M_links c_Network c_lof X_NoLink
  have c_ulk := mkCal O_ulk g_unlinked F_unlinked.kp b_unlinked
  have O_well : FnOk l.prog w K mg base (L2.CX l.prog w) 1 _ _ _ _ := fn_up (ok_well F__law_well T)
  have c_well := mkCal O_well g__law_well F__law_well.kp b__law_well
  have O_take : FnOk l.prog w K mg base (L2.CX l.prog w) 1 _ _ _ _ := fn_up (ok_take F__law_take)
  have c_take := mkCal O_take g__law_take F__law_take.kp b__law_take
  have O_mixed : FnOk l.prog w K mg base (L2.CX l.prog w) 2 _ _ _ _ := fn_up (ok_mixed F__law_mixed T c_take)
  have c_mixed := mkCal O_mixed g__law_mixed F__law_mixed.kp b__law_mixed
  have O_links : FnOk l.prog w K mg base (L2.CX l.prog w) 3 _ _ _ _ := fn_up (ok_linksT F__law_links T c_take c_mixed)
  have c_links := mkCal O_links g__law_links F__law_links.kp b__law_links
  have O_near : FnOk l.prog w K mg base (L2.CX l.prog w) 1 _ _ _ _ := fn_up (ok_near F__law_near T)
  have c_near := mkCal O_near g__law_near F__law_near.kp b__law_near
  have O_table : FnOk l.prog w K mg base (L2.CX l.prog w) 1 _ _ _ _ := fn_up (ok_table F__law_table T)
  have c_table := mkCal O_table g__law_table F__law_table.kp b__law_table
  have O_ref : FnOk l.prog w K mg base (L2.CX l.prog w) 6 _ _ _ _ := fn_up (ok_refused F__law_refused T c_lkd c_ulk m_NoLink XF_NoLink nf_NoLink te_NoLink)
  have c_ref := mkCal O_ref g__law_refused F__law_refused.kp b__law_refused
  have O_pair : FnOk l.prog w K mg base (L2.CX l.prog w) 7 _ _ _ _ := fn_up (ok_pair F__law_pair_right T NC M_len M_links M_eq c_Network c_lkd c_ulk c_gc c_near c_table c_ref)
  have c_pair := mkCal O_pair g__law_pair_right F__law_pair_right.kp b__law_pair_right
  have O_right : FnOk l.prog w K mg base (L2.CX l.prog w) 8 _ _ _ _ := fn_up (ok_right F__law_right T NC c_take c_links c_Network c_pair)
  have c_right := mkCal O_right g__law_right F__law_right.kp b__law_right
  exact ok_law F_law T NC M_links c_well c_right c_Network c_lkd
end NX
open PySem PySem.W PyProof.Rows in
set_option maxRecDepth 100000 in
set_option maxHeartbeats 0 in
theorem PySem.Challenge.cw_nextchannel_k50_links_added_and_removed_holds : PySem.Challenge.rw_nextchannel_k50_links_added_and_removed.Holds := by
  w_on; o_law; k_head; (case hw => w_witness2)
  k_fill
  refine NX.walk (l := PySem.Challenge.rw_nextchannel_k50_links_added_and_removed) (k := 9) (sp := NX.spLaw) rfl rfl ⟨rfl, by decide, by decide⟩ (fun w h Y => PySem.W.kIn_of Y) ?F (fun K H a ns hl hS => ⟨a, ns, rfl, hS, hl, fun _ => rfl⟩)
  case F =>
    intro w mg fa h KX G hmg
    refine' NX.all_mk KX G hmg ?h_z_all ?h_z_bool ?h_z_enumerate ?h_z_int ?h_z_isinstance ?h_z_len ?h_z_list ?h_z_max ?h_z_min ?h_z_range ?h_z_set ?h_z_sorted ?h_z_tuple ?h_z_zip ?h_v_MAX_STATIONS ?h_a_is_int ?h_l_is_int ?h_c_is_int ?h_k_is_int ?h_a_is_link ?h_l_is_link ?h_c_is_link ?h_k_is_link ?h_a_chain ?h_l_chain ?h_c_chain ?h_k_chain ?h_a_greatest_channels ?h_l_greatest_channels ?h_c_greatest_channels ?h_k_greatest_channels ?h_a_link_of ?h_l_link_of ?h_c_link_of ?h_k_link_of ?h_a_linked ?h_l_linked ?h_c_linked ?h_k_linked ?h_a_unlinked ?h_l_unlinked ?h_c_unlinked ?h_k_unlinked ?h_a__law_well ?h_l__law_well ?h_c__law_well ?h_k__law_well ?h_a__law_take ?h_l__law_take ?h_c__law_take ?h_k__law_take ?h_a__law_mixed ?h_l__law_mixed ?h_c__law_mixed ?h_k__law_mixed ?h_a__law_links ?h_l__law_links ?h_c__law_links ?h_k__law_links ?h_a__law_near ?h_l__law_near ?h_c__law_near ?h_k__law_near ?h_a__law_table ?h_l__law_table ?h_c__law_table ?h_k__law_table ?h_a__law_refused ?h_l__law_refused ?h_c__law_refused ?h_k__law_refused ?h_a__law_pair_right ?h_l__law_pair_right ?h_c__law_pair_right ?h_k__law_pair_right ?h_a__law_right ?h_l__law_right ?h_c__law_right ?h_k__law_right ?h_a_law ?h_l_law ?h_c_law ?h_k_law ?h_aC ?h_a_M_init ?h_i_M_init ?h_l_M_init ?h_c_M_init ?h_k_M_init ?h_a_M_len ?h_i_M_len ?h_l_M_len ?h_c_M_len ?h_k_M_len ?h_a_M_eq ?h_i_M_eq ?h_l_M_eq ?h_c_M_eq ?h_k_M_eq ?h_a_M_links ?h_i_M_links ?h_l_M_links ?h_c_M_links ?h_k_M_links ?h_a_M_check_station ?h_i_M_check_station ?h_l_M_check_station ?h_c_M_check_station ?h_k_M_check_station ?h_pg ?h_hd ?h_po ?h_sa ?h_mk ?h_kc ?h_nK ?h_nN ?h_ha ?h_hn ?h_ht ?h_hm ?h_ne ?h_aB ?h_rdB ?h_gaB ?h_vVB ?h_aX_NoLink ?h_xL_NoLink ?h_sa_NoLink ?h_ga_NoLink ?h_gg_NoLink ?h_nf_NoLink ?h_aI_NoLink ?h_tI_NoLink ?h_l_I_NoLink ?h_c_I_NoLink ?h_k_I_NoLink ?h_kC_NoLink ?h_eC_NoLink ?h_tC_NoLink ?h_hC_NoLink ?h_sC_NoLink
    (case h_z_all => first | k_is | rfl)
    (case h_z_bool => first | k_is | rfl)
    (case h_z_enumerate => first | k_is | rfl)
    (case h_z_int => first | k_is | rfl)
    (case h_z_isinstance => first | k_is | rfl)
    (case h_z_len => first | k_is | rfl)
    (case h_z_list => first | k_is | rfl)
    (case h_z_max => first | k_is | rfl)
    (case h_z_min => first | k_is | rfl)
    (case h_z_range => first | k_is | rfl)
    (case h_z_set => first | k_is | rfl)
    (case h_z_sorted => first | k_is | rfl)
    (case h_z_tuple => first | k_is | rfl)
    (case h_z_zip => first | k_is | rfl)
    (case h_v_MAX_STATIONS => first | k_is | rfl)
    (case h_a_is_int => first | k_is | rfl)
    (case h_l_is_int => first | k_is | rfl)
    (case h_c_is_int => first | k_is | rfl)
    (case h_k_is_int => first | k_is | rfl)
    (case h_a_is_link => first | k_is | rfl)
    (case h_l_is_link => first | k_is | rfl)
    (case h_c_is_link => first | k_is | rfl)
    (case h_k_is_link => first | k_is | rfl)
    (case h_a_chain => first | k_is | rfl)
    (case h_l_chain => first | k_is | rfl)
    (case h_c_chain => first | k_is | rfl)
    (case h_k_chain => first | k_is | rfl)
    (case h_a_greatest_channels => first | k_is | rfl)
    (case h_l_greatest_channels => first | k_is | rfl)
    (case h_c_greatest_channels => first | k_is | rfl)
    (case h_k_greatest_channels => first | k_is | rfl)
    (case h_a_link_of => first | k_is | rfl)
    (case h_l_link_of => first | k_is | rfl)
    (case h_c_link_of => first | k_is | rfl)
    (case h_k_link_of => first | k_is | rfl)
    (case h_a_linked => first | k_is | rfl)
    (case h_l_linked => first | k_is | rfl)
    (case h_c_linked => first | k_is | rfl)
    (case h_k_linked => first | k_is | rfl)
    (case h_a_unlinked => first | k_is | rfl)
    (case h_l_unlinked => first | k_is | rfl)
    (case h_c_unlinked => first | k_is | rfl)
    (case h_k_unlinked => first | k_is | rfl)
    (case h_a__law_well => first | k_is | rfl)
    (case h_l__law_well => first | k_is | rfl)
    (case h_c__law_well => first | k_is | rfl)
    (case h_k__law_well => first | k_is | rfl)
    (case h_a__law_take => first | k_is | rfl)
    (case h_l__law_take => first | k_is | rfl)
    (case h_c__law_take => first | k_is | rfl)
    (case h_k__law_take => first | k_is | rfl)
    (case h_a__law_mixed => first | k_is | rfl)
    (case h_l__law_mixed => first | k_is | rfl)
    (case h_c__law_mixed => first | k_is | rfl)
    (case h_k__law_mixed => first | k_is | rfl)
    (case h_a__law_links => first | k_is | rfl)
    (case h_l__law_links => first | k_is | rfl)
    (case h_c__law_links => first | k_is | rfl)
    (case h_k__law_links => first | k_is | rfl)
    (case h_a__law_near => first | k_is | rfl)
    (case h_l__law_near => first | k_is | rfl)
    (case h_c__law_near => first | k_is | rfl)
    (case h_k__law_near => first | k_is | rfl)
    (case h_a__law_table => first | k_is | rfl)
    (case h_l__law_table => first | k_is | rfl)
    (case h_c__law_table => first | k_is | rfl)
    (case h_k__law_table => first | k_is | rfl)
    (case h_a__law_refused => first | k_is | rfl)
    (case h_l__law_refused => first | k_is | rfl)
    (case h_c__law_refused => first | k_is | rfl)
    (case h_k__law_refused => first | k_is | rfl)
    (case h_a__law_pair_right => first | k_is | rfl)
    (case h_l__law_pair_right => first | k_is | rfl)
    (case h_c__law_pair_right => first | k_is | rfl)
    (case h_k__law_pair_right => first | k_is | rfl)
    (case h_a__law_right => first | k_is | rfl)
    (case h_l__law_right => first | k_is | rfl)
    (case h_c__law_right => first | k_is | rfl)
    (case h_k__law_right => first | k_is | rfl)
    (case h_a_law => first | k_is | rfl)
    (case h_l_law => first | k_is | rfl)
    (case h_c_law => first | k_is | rfl)
    (case h_k_law => first | k_is | rfl)
    (case h_aC => first | k_is | rfl)
    (case h_a_M_init => first | k_is | rfl)
    (case h_i_M_init => first | k_is | rfl)
    (case h_l_M_init => first | k_is | rfl)
    (case h_c_M_init => first | k_is | rfl)
    (case h_k_M_init => first | k_is | rfl)
    (case h_a_M_len => first | k_is | rfl)
    (case h_i_M_len => first | k_is | rfl)
    (case h_l_M_len => first | k_is | rfl)
    (case h_c_M_len => first | k_is | rfl)
    (case h_k_M_len => first | k_is | rfl)
    (case h_a_M_eq => first | k_is | rfl)
    (case h_i_M_eq => first | k_is | rfl)
    (case h_l_M_eq => first | k_is | rfl)
    (case h_c_M_eq => first | k_is | rfl)
    (case h_k_M_eq => first | k_is | rfl)
    (case h_a_M_links => first | k_is | rfl)
    (case h_i_M_links => first | k_is | rfl)
    (case h_l_M_links => first | k_is | rfl)
    (case h_c_M_links => first | k_is | rfl)
    (case h_k_M_links => first | k_is | rfl)
    (case h_a_M_check_station => first | k_is | rfl)
    (case h_i_M_check_station => first | k_is | rfl)
    (case h_l_M_check_station => first | k_is | rfl)
    (case h_c_M_check_station => first | k_is | rfl)
    (case h_k_M_check_station => first | k_is | rfl)
    (case h_pg => first | k_is | rfl)
    (case h_hd => first | k_is | rfl)
    (case h_po => first | k_is | rfl)
    (case h_sa => first | k_is | rfl)
    (case h_mk => first | k_is | rfl)
    (case h_kc => first | k_is | rfl)
    (case h_nK => first | k_is | rfl)
    (case h_nN => first | k_is | rfl)
    (case h_ha => first | k_is | rfl)
    (case h_hn => first | k_is | rfl)
    (case h_ht => first | k_is | rfl)
    (case h_hm => first | k_is | rfl)
    (case h_ne => first | k_is | rfl)
    (case h_aB => first | k_is | rfl)
    (case h_rdB => first | k_is | rfl)
    (case h_gaB => first | k_is | rfl)
    (case h_vVB => first | k_is | rfl)
    (case h_aX_NoLink => first | k_is | rfl)
    (case h_xL_NoLink => first | k_is | rfl)
    (case h_sa_NoLink => first | k_is | rfl)
    (case h_ga_NoLink => first | k_is | rfl)
    (case h_gg_NoLink => first | k_is | rfl)
    (case h_nf_NoLink => first | k_is | rfl)
    (case h_aI_NoLink => first | k_is | rfl)
    (case h_tI_NoLink => first | k_is | rfl)
    (case h_l_I_NoLink => first | k_is | rfl)
    (case h_c_I_NoLink => first | k_is | rfl)
    (case h_k_I_NoLink => first | k_is | rfl)
    (case h_kC_NoLink => first | k_is | rfl)
    (case h_eC_NoLink => first | k_is | rfl)
    (case h_tC_NoLink => first | k_is | rfl)
    (case h_hC_NoLink => first | k_is | rfl)
    (case h_sC_NoLink => first | k_is | rfl)
#print axioms PySem.Challenge.cw_nextchannel_k50_links_added_and_removed_holds

