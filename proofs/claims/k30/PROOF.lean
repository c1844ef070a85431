import PyProof.Rows.All
import Wide.All
import OpenK.AllK
import Wide.FinOn
import HandS.ForMost
import HandS.ForExc
import HandS.Evl
import HandS.IsInst
import HandS.Defaults
import HandS.Conv
import HandS.Deep
import HandS.SortInts
import HandS.SortRule
import HandS.TupAny
import HandS.TupMul
import HandS.OwnEq
import HandS.Strs
import HandS.SetFor
import HandS.ExcInit
import HandS.ExcIs
import HandS.ExcField
import HandS.ClsMeth
import HandS.Zip
import HandS.MakeKwOnly
import HandS.Lambda
import HandS.EndTab
import KE.KExcIs
import PySem.Challenge.RW_nextchannel_k30_fewest_stations
set_option Elab.async false
set_option linter.all false
set_option maxRecDepth 100000
set_option maxHeartbeats 4000000
/-! Own layer over HandS: owned local objects (Own), readings step by step (g_..). -/
namespace NX
open PySem PySem.Spec PyProof.Rows L2
open Evl (Ex ex_l ex_t fresh_back)

/-! ### heaps -/
/-- H without the addresses of L -/
def cut (H : Hp) (L : List (Addr × HO)) : Hp := fun a => if a ∈ L.map Prod.fst then none else H a
theorem cut_in {H : Hp} {L : List (Addr × HO)} {a : Addr} (h : a ∈ L.map Prod.fst) : cut H L a = none := by unfold cut; rw [if_pos h]
theorem cut_out {H : Hp} {L : List (Addr × HO)} {a : Addr} (h : a ∉ L.map Prod.fst) : cut H L a = H a := by unfold cut; rw [if_neg h]
def noTup : HO → Bool
  | .tup _ => false
  | .frz _ _ => false
  | _ => true
/-- G: what stands still; L: what the body may change, as it is now -/
structure Own (G : Hp) (L : List (Addr × HO)) (H : Hp) : Prop where
  ex : Ex G H
  at_ : ∀ p ∈ L, G p.1 = none ∧ H p.1 = some p.2
  nd : (L.map Prod.fst).Nodup
  nt : ∀ p ∈ L, noTup p.2 = true
section
variable {G H H' : Hp} {L : List (Addr × HO)} {p q r s : Addr} {o o' o1 o2 o3 o4 : HO}
theorem Own.start (H : Hp) : Own H [] H := ⟨Ex.refl H, fun _ h => (nomatch h), by simp, fun _ h => (nomatch h)⟩
theorem Own.grow (S : Own G L H) (e : Ex H H') : Own G L H' := ⟨S.ex.trans e, fun p h => ⟨(S.at_ p h).1, e _ _ (S.at_ p h).2⟩, S.nd, S.nt⟩
theorem Own.fresh (S : Own G L H) (h : H p = none) : p ∉ L.map Prod.fst := fun m => by
  obtain ⟨x, hx, e⟩ := List.mem_map.mp m
  have z := (S.at_ x hx).2
  rw [e, h] at z
  cases z
theorem Own.new (S : Own G L H) (e : Ex H H') (hp : H p = none) (h : H' p = some o) (ht : noTup o = true := by rfl) : Own G ((p, o) :: L) H' :=
  ⟨S.ex.trans e, fun x hx => by
    rcases List.mem_cons.mp hx with rfl | hx
    · exact ⟨fresh_back S.ex hp, h⟩
    · exact ⟨(S.at_ x hx).1, e _ _ (S.at_ x hx).2⟩, by
    rw [List.map_cons, List.nodup_cons]
    exact ⟨S.fresh hp, S.nd⟩, fun x hx => by
    rcases List.mem_cons.mp hx with rfl | hx
    · exact ht
    · exact S.nt x hx⟩
theorem ex_upd (hp : H p = none) : Ex H (upd H p o) := Ex.new hp
theorem Own.lay (S : Own G L H) (hp : H p = none) (ht : noTup o = true := by rfl) : Own G ((p, o) :: L) (upd H p o) := S.new (Ex.new hp) hp upd_same ht
theorem Own.forget (S : Own G ((p, o) :: L) H) : Own G L H := ⟨S.ex, fun x hx => S.at_ x (List.mem_cons_of_mem _ hx), by
  have z := S.nd
  rw [List.map_cons, List.nodup_cons] at z
  exact z.2, fun x hx => S.nt x (List.mem_cons_of_mem _ hx)⟩
theorem Own.get0 (S : Own G ((p, o) :: L) H) : H p = some o := (S.at_ _ List.mem_cons_self).2
theorem Own.get1 (S : Own G ((q, o1) :: (p, o) :: L) H) : H p = some o := S.forget.get0
theorem Own.get2 (S : Own G ((r, o2) :: (q, o1) :: (p, o) :: L) H) : H p = some o := S.forget.get1
theorem Own.get3 (S : Own G ((s, o3) :: (r, o2) :: (q, o1) :: (p, o) :: L) H) : H p = some o := S.forget.get2
theorem Own.no0 (S : Own G ((p, o) :: L) H) : G p = none := (S.at_ _ List.mem_cons_self).1
theorem Own.nin (S : Own G ((p, o) :: L) H) : p ∉ L.map Prod.fst := by
  have z := S.nd
  rw [List.map_cons, List.nodup_cons] at z
  exact z.1
theorem ex_mut (e : Ex G H) (h : G p = none) : Ex G (upd H p o) := fun a u ha => by
  rw [upd_ne (ne_of_none ha h)]
  exact e a u ha
theorem Own.put0 (S : Own G ((p, o) :: L) H) (ht : noTup o' = true := by rfl) : Own G ((p, o') :: L) (upd H p o') :=
  ⟨ex_mut S.ex S.no0, fun x hx => by
    rcases List.mem_cons.mp hx with rfl | hx
    · exact ⟨S.no0, upd_same⟩
    · have ne : x.1 ≠ p := fun e => S.nin (e ▸ List.mem_map_of_mem hx)
      rw [upd_ne ne]
      exact S.at_ x (List.mem_cons_of_mem _ hx), S.nd, fun x hx => by
    rcases List.mem_cons.mp hx with rfl | hx
    · exact ht
    · exact S.nt x (List.mem_cons_of_mem _ hx)⟩
theorem Own.perm {L' : List (Addr × HO)} (S : Own G L H) (h : L'.Perm L) : Own G L' H :=
  ⟨S.ex, fun x hx => S.at_ x (h.mem_iff.mp hx), (h.map Prod.fst).nodup_iff.mpr S.nd, fun x hx => S.nt x (h.mem_iff.mp hx)⟩
theorem Own.getM (S : Own G L H) (h : (p, o) ∈ L) : H p = some o := (S.at_ _ h).2
theorem nd_ne {L : List (Addr × HO)} (nd : (L.map Prod.fst).Nodup) {i j : Nat} {a b : Addr × HO} (hi : L[i]? = some a) (hj : L[j]? = some b) (ne : i ≠ j) : a.1 ≠ b.1 := fun e => by
  have h1 : (L.map Prod.fst)[i]? = some a.1 := by rw [List.getElem?_map, hi] <;> rfl
  have h2 : (L.map Prod.fst)[j]? = some a.1 := by rw [List.getElem?_map, hj, e] <;> rfl
  obtain ⟨l1, e1⟩ := List.getElem?_eq_some_iff.mp h1
  obtain ⟨l2, e2⟩ := List.getElem?_eq_some_iff.mp h2
  exact ne ((List.getElem_inj nd).mp (e1.trans e2.symm))
theorem Own.putM {j : Nat} (S : Own G L H) (h : L[j]? = some (p, o)) (ht : noTup o' = true := by rfl) : Own G (L.set j (p, o')) (upd H p o') := by
  have hm : (p, o) ∈ L := List.mem_of_getElem? h
  have hj : j < L.length := (List.getElem?_eq_some_iff.mp h).1
  have np : G p = none := (S.at_ _ hm).1
  have em : (L.set j (p, o')).map Prod.fst = L.map Prod.fst := by
    rw [List.map_set]
    refine List.ext_getElem? fun i => ?_
    by_cases c : j = i
    · subst c
      rw [List.getElem?_set_self (by rw [List.length_map]; exact hj), List.getElem?_map, h] <;> rfl
    · rw [List.getElem?_set_ne c]
  have cases_ : ∀ x ∈ L.set j (p, o'), x = (p, o') ∨ (x ∈ L ∧ x.1 ≠ p) := fun x hx => by
    obtain ⟨i, hi, e⟩ := List.mem_iff_getElem.mp hx
    have e' : (L.set j (p, o'))[i]? = some x := by rw [List.getElem?_eq_getElem hi, e]
    by_cases c : j = i
    · subst c
      rw [List.getElem?_set_self hj] at e'
      exact .inl (Option.some.inj e').symm
    · rw [List.getElem?_set_ne c] at e'
      exact .inr ⟨List.mem_of_getElem? e', nd_ne S.nd e' h (Ne.symm c)⟩
  refine ⟨ex_mut S.ex np, fun x hx => ?_, by rw [em]; exact S.nd, fun x hx => ?_⟩
  · rcases cases_ x hx with rfl | ⟨m, ne⟩
    · exact ⟨np, upd_same⟩
    · rw [upd_ne ne]
      exact S.at_ x m
  · rcases cases_ x hx with rfl | ⟨m, ne⟩
    · exact ht
    · exact S.nt x m
theorem Own.swap (S : Own G ((p, o) :: (q, o1) :: L) H) : Own G ((q, o1) :: (p, o) :: L) H := S.perm (List.Perm.swap _ _ _)
theorem Own.put1 (S : Own G ((q, o1) :: (p, o) :: L) H) (ht : noTup o' = true := by rfl) : Own G ((q, o1) :: (p, o') :: L) (upd H p o') := (S.swap.put0 ht).swap
theorem rot_perm {α : Type} (a b c : α) (l : List α) : (c :: a :: b :: l).Perm (a :: b :: c :: l) := (List.Perm.swap a c _).trans ((List.Perm.swap b c _).cons _)
theorem Own.rot (S : Own G ((r, o2) :: (q, o1) :: (p, o) :: L) H) : Own G ((p, o) :: (r, o2) :: (q, o1) :: L) H := S.perm (rot_perm _ _ _ _)
theorem Own.unrot (S : Own G ((p, o) :: (r, o2) :: (q, o1) :: L) H) : Own G ((r, o2) :: (q, o1) :: (p, o) :: L) H := S.perm (rot_perm _ _ _ _).symm
theorem Own.put2 (S : Own G ((r, o2) :: (q, o1) :: (p, o) :: L) H) (ht : noTup o' = true := by rfl) : Own G ((r, o2) :: (q, o1) :: (p, o') :: L) (upd H p o') := (S.rot.put0 ht).unrot
/-- what is new in H' (and the tuples of H) -/
def nw (H H' : Hp) : Hp := fun a => match H a with
  | none => H' a
  | some o => if noTup o then none else H' a
theorem nw_new {a : Addr} (h : H a = none) : nw H H' a = H' a := by unfold nw; rw [h]
theorem nw_tup {a : Addr} {o : HO} (h : H a = some o) (ht : noTup o = false) : nw H H' a = H' a := by
  unfold nw; rw [h]
  show (if noTup o = true then none else H' a) = H' a
  rw [ht] <;> rfl
theorem nw_mono {G H H' : Hp} (e : Ex G H) : Ex (nw H H') (nw G H') := fun a u h => by
  cases q : H a with
  | none =>
    rw [nw_new q] at h
    rw [nw_new (fresh_back e q)]
    exact h
  | some o =>
    cases t : noTup o with
    | true => unfold nw at h; rw [q] at h; simp [t] at h
    | false =>
      rw [nw_tup q t] at h
      cases z : G a with
      | none => rw [nw_new z]; exact h
      | some o' =>
        have y := e _ _ z
        rw [q] at y
        cases y
        rw [nw_tup z t]
        exact h
/-- what is new stands still from now on -/
theorem Own.absorb (S : Own G L H) (e : Ex H H') : Own (cut H' L) L H' ∧ Ex G (cut H' L) ∧ Ex (nw H H') (cut H' L) :=
  ⟨⟨fun a u h => by
      by_cases m : a ∈ L.map Prod.fst
      · rw [cut_in m] at h; cases h
      · rw [cut_out m] at h; exact h, fun x hx => ⟨cut_in (List.mem_map_of_mem hx), e _ _ (S.at_ x hx).2⟩, S.nd, S.nt⟩,
    fun a u h => by
      have m : a ∉ L.map Prod.fst := fun m => by
        obtain ⟨x, hx, z⟩ := List.mem_map.mp m
        have y := (S.at_ x hx).1
        rw [z, h] at y
        cases y
      rw [cut_out m]
      exact e _ _ (S.ex _ _ h),
    fun a o h => by
      cases q : H a with
      | none => rw [cut_out (S.fresh q), ← nw_new (H' := H') q]; exact h
      | some u =>
        cases t : noTup u with
        | true => unfold nw at h; rw [q] at h; simp [t] at h
        | false =>
          have m : a ∉ L.map Prod.fst := fun m => by
            obtain ⟨x, hx, z⟩ := List.mem_map.mp m
            have y := (S.at_ x hx).2
            rw [z, q] at y
            have n := S.nt x hx
            rw [← Option.some.inj y, t] at n
            cases n
          rw [cut_out m, ← nw_tup (H' := H') q t]
          exact h⟩
/-- the head of L stands still from now on -/
theorem Own.freeze (S : Own G ((p, o) :: L) H) : Own (upd G p o) L H ∧ Ex G (upd G p o) ∧ upd G p o p = some o :=
  ⟨⟨fun a u h => by
      by_cases e : a = p
      · subst e
        rw [upd_same] at h
        cases h
        exact S.get0
      · rw [upd_ne e] at h
        exact S.ex _ _ h, fun x hx => ⟨by
      have ne : x.1 ≠ p := fun e => S.nin (e ▸ List.mem_map_of_mem hx)
      rw [upd_ne ne]
      exact (S.at_ x (List.mem_cons_of_mem _ hx)).1, (S.at_ x (List.mem_cons_of_mem _ hx)).2⟩, S.forget.nd, S.forget.nt⟩, Ex.new S.no0, upd_same⟩
/-- from all that is known: a call that may change the object at p -/
theorem Own.give (h : H p = some o) (ht : noTup o = true := by rfl) : Own (cut H [(p, o)]) [(p, o)] H :=
  ⟨fun a u e => by
      by_cases m : a ∈ ([(p, o)] : List (Addr × HO)).map Prod.fst
      · rw [cut_in m] at e; cases e
      · rw [cut_out m] at e; exact e, fun x hx => by
      have z : x = (p, o) := by simpa using hx
      subst z
      exact ⟨cut_in (by simp), h⟩, by simp, fun x hx => by
      have z : x = (p, o) := by simpa using hx
      subst z
      exact ht⟩
/-- behind such a call -/
theorem Own.back {L' : List (Addr × HO)} (S : Own G ((p, o) :: L) H) (T : Own (cut H [(p, o)]) ((p, o') :: L') H') : Own G ((p, o') :: L' ++ L) H' := by
  have k : ∀ a u, a ≠ p → H a = some u → H' a = some u := fun a u ne e => T.ex _ _ (by rw [cut_out (by simpa using ne)]; exact e)
  refine ⟨fun a u e => k a u (ne_of_none e S.no0) (S.ex _ _ e), fun x hx => ?_, ?_, fun x hx => (List.mem_append.mp hx).elim (T.nt x) (S.forget.nt x)⟩
  · rcases List.mem_append.mp hx with hx | hx
    · refine ⟨?_, (T.at_ x hx).2⟩
      have z := (T.at_ x hx).1
      by_cases e : x.1 = p
      · rw [e]; exact S.no0
      · rw [cut_out (by simpa using e)] at z
        exact fresh_back S.ex z
    · have ne : x.1 ≠ p := fun e => S.nin (e ▸ List.mem_map_of_mem hx)
      exact ⟨(S.at_ x (List.mem_cons_of_mem _ hx)).1, k _ _ ne (S.at_ x (List.mem_cons_of_mem _ hx)).2⟩
  · rw [List.map_append, List.nodup_append]
    refine ⟨T.nd, S.forget.nd, fun a ha b hb e => ?_⟩
    subst e
    obtain ⟨x, hx, ex⟩ := List.mem_map.mp ha
    obtain ⟨y, hy, ey⟩ := List.mem_map.mp hb
    have ne : y.1 ≠ p := fun e => S.nin (e ▸ List.mem_map_of_mem hy)
    have z := (T.at_ x hx).1
    rw [ex, ← ey, cut_out (by simpa using ne), (S.at_ y (List.mem_cons_of_mem _ hy)).2] at z
    cases z
/-- what stood still, without the object that a call may change -/
theorem Own.keep (S : Own G ((p, o) :: L) H) : Ex G (cut H [(p, o)]) := fun a u e => by
  rw [cut_out (by simpa using ne_of_none e S.no0)]
  exact S.ex _ _ e
end

/-! ### readings, one step back at a time -/
/-- a new list, a new tuple is laid -/
def NewL (xs : List V) (H : Hp) (Q : VK) : Prop := xs.length ≤ sizeLine ∧ ∀ p, H p = none → Q (.ref p) (upd H p (.lst xs))
def NewT (xs : List V) (H : Hp) (Q : VK) : Prop := xs.length ≤ sizeLine ∧ ∀ p, H p = none → Q (.ref p) (upd H p (.tup xs))
def NewR (a b : Int) (H : Hp) (Q : VK) : Prop := RgOk a b ∧ ∀ q, H q = none → Q (.ref q) (upd H q (.lst (rgV a b)))
def rTupS (K : PySem.W.Frag) : List V → Hp → VK → Prop := fun xs H Q => ∃ p ys, xs = [.ref p] ∧ ((SqL K H p ys ∧ ∀ l, H l = none → Q (.ref l) (upd H l (.tup ys))) ∨ (SqT K H p ys ∧ Q (.ref p) H))
def rInt1 : List V → Hp → VK → Prop := fun xs H Q => (∃ i, xs = [.int i] ∧ Q (.int i) H) ∨ ∃ k, xs = [.bl k] ∧ Q (.int (if k then 1 else 0)) H
def rMin2 : List V → Hp → VK → Prop := fun xs H Q => ∃ i j, xs = [.int i, .int j] ∧ Q (.int (if j < i then j else i)) H
def rMax2 : List V → Hp → VK → Prop := fun xs H Q => ∃ i j, xs = [.int i, .int j] ∧ Q (.int (if j > i then j else i)) H
def rIsN : R2 := fun x y H Q => y = .non ∧ Q (.bl (decide (x = .non))) H
def rNotN : R2 := fun x y H Q => y = .non ∧ Q (.bl (!decide (x = .non))) H
section
variable {X : Cx}
theorem call_lenN : CallR X (.builtin "len") (Evl.rLenS X.K) := call_len_seq
theorem call_listN : CallR X (.type "list") (Evl.rListS X.K) := call_list_of
theorem call_tupN : CallR X (.type "tuple") (rTupS X.K) := call_tuple_of
theorem call_intN : CallR X (.type "int") rInt1 := call_int1
theorem call_minN (hc : X.calm = true) : CallR X (.builtin "min") rMin2 := call_min2 hc
theorem call_maxN (hc : X.calm = true) : CallR X (.builtin "max") rMax2 := call_max2 hc
theorem op_isNone : OpR X (compareOp .Is) rIsN := op_isN
theorem op_notNone : OpR X (compareOp .IsNot) rNotN := op_notN
end
section
variable {K : PySem.W.Frag} {σ : L2.St} {H : Hp} {ta tb tc te : TE} {t u : TT} {tr : TA} {Q : VK} {v x y : V} {r : R2}
theorem g_var {i : Nat} (h : σ[i]? = some (some v)) (k : Q v H) : tVar i σ H Q := ⟨v, h, k⟩
theorem g_c (k : Q v H) : tC v σ H Q := k
theorem g_op (k : ta σ H fun x H1 => tb σ H1 fun y H2 => r x y H2 Q) : tOp r ta tb σ H Q := k
theorem g_un {r : V → Hp → VK → Prop} (k : ta σ H fun x H1 => r x H1 Q) : tUn r ta σ H Q := k
theorem g_I0 {g : Int → Int → V} {i j : Int} (k : Q (g i j) H) : rI0 g (.int i) (.int j) H Q := ⟨i, j, rfl, rfl, k⟩
theorem g_I {C : Int → Int → Prop} {g : Int → Int → V} {i j : Int} (c : C i j) (k : Q (g i j) H) : rI C g (.int i) (.int j) H Q := ⟨i, j, rfl, rfl, c, k⟩
theorem g_U {g : Int → V} {i : Int} (k : Q (g i) H) : rU g (.int i) H Q := ⟨i, rfl, k⟩
theorem g_eqI {i j : Int} (k : Q (.bl (decide (i = j))) H) : rEq (.int i) (.int j) H Q := ⟨rfl, by
  have e : decide (V.int i = V.int j) = decide (i = j) := by
    by_cases z : i = j
    · rw [decide_eq_true z, decide_eq_true (by rw [z])]
    · rw [decide_eq_false z, decide_eq_false (fun q => z (V.int.inj q))]
  rw [e]; exact k⟩
theorem g_neI {i j : Int} (k : Q (.bl (!decide (i = j))) H) : rNe (.int i) (.int j) H Q := ⟨rfl, by
  have e : decide (V.int i = V.int j) = decide (i = j) := by
    by_cases z : i = j
    · rw [decide_eq_true z, decide_eq_true (by rw [z])]
    · rw [decide_eq_false z, decide_eq_false (fun q => z (V.int.inj q))]
  rw [e]; exact k⟩
theorem g_neB {i j : Bool} (k : Q (.bl (!decide (i = j))) H) : rNe (.bl i) (.bl j) H Q := ⟨rfl, by
  have e : decide (V.bl i = V.bl j) = decide (i = j) := by
    by_cases z : i = j
    · rw [decide_eq_true z, decide_eq_true (by rw [z])]
    · rw [decide_eq_false z, decide_eq_false (fun q => z (V.bl.inj q))]
  rw [e]; exact k⟩
theorem g_eqB {i j : Bool} (k : Q (.bl (decide (i = j))) H) : rEq (.bl i) (.bl j) H Q := ⟨rfl, by
  have e : decide (V.bl i = V.bl j) = decide (i = j) := by
    by_cases z : i = j
    · rw [decide_eq_true z, decide_eq_true (by rw [z])]
    · rw [decide_eq_false z, decide_eq_false (fun q => z (V.bl.inj q))]
  rw [e]; exact k⟩
theorem g_cb {r : List V → Hp → VK → Prop} (k : tr σ H fun vs H1 => r vs H1 Q) : tCB r tr σ H Q := k
theorem g_call {sp : Sp} {dvs : List V} {E : XK} (k : tr σ H fun vs H1 => sp (vs ++ dvs) H1 Q E) : tCall sp dvs E tr σ H Q := k
theorem g_nil {Q : List V → Hp → Prop} (k : Q [] H) : tNil σ H Q := k
theorem g_cons {Q : List V → Hp → Prop} (k : ta σ H fun x H1 => tr σ H1 fun xs H2 => Q (x :: xs) H2) : tCons ta tr σ H Q := k
theorem g_test {Q : Bool → Hp → Prop} (k : te σ H fun x H1 => ∃ b, x = .bl b ∧ Q b H1) : tTest te σ H Q := k
theorem g_B {Q : Bool → Hp → Prop} (k : te σ H fun x H1 => ∃ b, x = .bl b ∧ Q b H1) : tB te σ H Q := k
theorem g_bl {b : Bool} {Q : Bool → Hp → Prop} (k : Q b H) : ∃ c, V.bl b = .bl c ∧ Q c H := ⟨b, rfl, k⟩
theorem g_and {Q : Bool → Hp → Prop} (k : t σ H fun c H1 => if c = true then u σ H1 Q else Q false H1) : tAnd t u σ H Q := k
theorem g_or {Q : Bool → Hp → Prop} (k : t σ H fun c H1 => if c = true then Q true H1 else u σ H1 Q) : tOr t u σ H Q := k
theorem g_not {Q : Bool → Hp → Prop} (k : t σ H fun c H1 => Q (!c) H1) : tNot t σ H Q := k
theorem g_andV (k : ta σ H fun x H1 => ∃ c, x = .bl c ∧ if c = true then tb σ H1 Q else Q (.bl false) H1) : tAndV ta tb σ H Q := k
theorem g_orV (k : ta σ H fun x H1 => ∃ c, x = .bl c ∧ if c = true then Q (.bl true) H1 else tb σ H1 Q) : tOrV ta tb σ H Q := k
theorem g_notV (k : ta σ H fun x H1 => ∃ c, x = .bl c ∧ Q (.bl (!c)) H1) : tNotV ta σ H Q := k
theorem g_exV {b : Bool} {P : Bool → Prop} (k : P b) : ∃ c, V.bl b = .bl c ∧ P c := ⟨b, rfl, k⟩
theorem g_if (k : t σ H fun c H1 => if c = true then ta σ H1 Q else tb σ H1 Q) : tIf t ta tb σ H Q := k
theorem g_chain {r' : R2} (k : ta σ H fun x H1 => tb σ H1 fun y H2 => r x y H2 fun z H3 => ∃ k, z = .bl k ∧ (if k = true then tc σ H3 fun w' H4 => r' y w' H4 Q else Q (.bl false) H3)) : tChain r r' ta tb tc σ H Q := k
theorem g_tup (k : tr σ H fun xs H1 => NewT xs H1 Q) : tTup tr σ H Q := k
theorem g_lst (k : tr σ H fun xs H1 => NewL xs H1 Q) : tLst tr σ H Q := k
theorem g_sl {rs : V → Option Int → Option Int → Hp → VK → Prop} {tl th : TO} (k : te σ H fun x H1 => tl σ H1 fun l H2 => th σ H2 fun u H3 => rs x l u H3 Q) : tSl rs te tl th σ H Q := k
theorem g_noPart {Q : Option Int → Hp → Prop} (k : Q none H) : tNoPart σ H Q := k
theorem g_part {Q : Option Int → Hp → Prop} (k : te σ H fun x H1 => ∃ i, x = .int i ∧ Q (some i) H1) : tPart te σ H Q := k
theorem g_exI {i : Int} {P : Int → Prop} (k : P i) : ∃ j, V.int i = .int j ∧ P j := ⟨i, rfl, k⟩
theorem g_bm {T : String} {rm : V → List V → Hp → VK → Prop} (k : te σ H fun x H1 => tyV K T x H1 ∧ tr σ H1 fun xs H2 => rm x xs H2 Q) : tBM K T rm te tr σ H Q := k
theorem g_bm0 {T : String} {rm : V → List V → Hp → VK → Prop} (k : te σ H fun x H1 => tyV K T x H1 ∧ rm x [] H1 Q) : tBM0 K T rm te σ H Q := k
end
section
variable {K : PySem.W.Frag} {σ : L2.St} {H : Hp} {te : TE} {tt : TT} {ts us : TS} {tr : TA} {v : V} {n b c : L2.St → Hp → Prop} {rt : VK} {g : TG}
theorem s_seq (k : ts ⟨us ⟨n, rt, b, c⟩, rt, b, c⟩ σ H) : tSeq ts us ⟨n, rt, b, c⟩ σ H := k
theorem s_next (k : n σ H) : tNext ⟨n, rt, b, c⟩ σ H := k
theorem s_brk (k : b σ H) : tBreak ⟨n, rt, b, c⟩ σ H := k
theorem s_cont (k : c σ H) : tCont ⟨n, rt, b, c⟩ σ H := k
theorem s_drop (k : te σ H fun _ H1 => n σ H1) : tDrop te ⟨n, rt, b, c⟩ σ H := k
theorem s_ret (k : te σ H rt) : tRet te ⟨n, rt, b, c⟩ σ H := k
theorem s_retN (k : rt .non H) : tRetN ⟨n, rt, b, c⟩ σ H := k
theorem s_if (k : tt σ H fun x H1 => if x = true then ts ⟨n, rt, b, c⟩ σ H1 else us ⟨n, rt, b, c⟩ σ H1) : tIfS tt ts us ⟨n, rt, b, c⟩ σ H := k
theorem s_asg (k : te σ H fun x H1 => g x σ H1 n) : tAsg te g ⟨n, rt, b, c⟩ σ H := k
theorem s_name {i : Nat} {Q : L2.St → Hp → Prop} (k : Q (σ.set i (some v)) H) : gName i v σ H Q := k
theorem s_par {i j : Nat} (k : tr σ H fun vs H1 => ∃ v w, vs = [v, w] ∧ n ((σ.set i (some v)).set j (some w)) H1) : tPar i j tr ⟨n, rt, b, c⟩ σ H := k
theorem s_two {v w : V} {P : V → V → Prop} (k : P v w) : ∃ v' w', [v, w] = [v', w'] ∧ P v' w' := ⟨v, w, rfl, k⟩
theorem s_aug {i : Nat} {ti : TIp} {x : V} (h : σ[i]? = some (some x)) (k : te σ H fun y H1 => ti x y H1 fun z H2 => n (σ.set i (some z)) H2) : tAug i te ti ⟨n, rt, b, c⟩ σ H := ⟨x, h, k⟩
theorem s_ipI {f : Int → Int → Int} {i j : Int} {Q : VK} (k : Q (.int (f i j)) H) : ipI f (.int i) (.int j) H Q := ⟨i, j, rfl, rfl, k⟩
theorem s_sub {to ti : TE} {t : TSet} {Q : L2.St → Hp → Prop} (k : to σ H fun o H1 => ti σ H1 fun i H2 => t o i v H2 fun H3 => Q σ H3) : gSub to ti t v σ H Q := k
theorem s_gtup {K : PySem.W.Frag} {m : Nat} {t : TGs} {a : Addr} {xs : List V} {Q : L2.St → Hp → Prop} (h : SqT K H a xs) (e : xs.length = m) (k : t xs σ H Q) : gTup K m t (.ref a) σ H Q := ⟨a, xs, rfl, h, e, k⟩
theorem s_gcons {t : TG} {u : TGs} {r : List V} {Q : L2.St → Hp → Prop} (k : t v σ H fun σ' H' => u r σ' H' Q) : gCons t u (v :: r) σ H Q := ⟨v, r, rfl, k⟩
theorem s_gnil {Q : L2.St → Hp → Prop} (k : Q σ H) : gNil [] σ H Q := ⟨rfl, k⟩
end
/-! ### what is read of the heap: G stands still -/
section
variable {K : PySem.W.Frag} {G H : Hp} {L : List (Addr × HO)} {p : Addr} {xs : List V} {v : V} {Q : VK}
theorem Own.sl (S : Own G L H) (h : SqL K G p xs) : SqL K H p xs := ex_l S.ex h
theorem Own.st (S : Own G L H) (h : SqT K G p xs) : SqT K H p xs := ex_t S.ex h
theorem g_ixL {i : Int} (h : SqL K H p xs) (a : atI xs i = some v) (k : Q v H) : rIxL K (.ref p) (.int i) H Q := ⟨p, xs, i, v, rfl, rfl, h, a, k⟩
theorem g_ixT {i : Int} (h : SqT K H p xs) (a : atI xs i = some v) (k : Q v H) : rIxT K (.ref p) (.int i) H Q := ⟨p, xs, i, v, rfl, rfl, h, a, k⟩
end
/-! ### calls of defs -/
/-- the def x: its promise, how its arguments come -/
def Cal (P : Program) (w : World) (K : PySem.W.Frag) (mg : Str → Option Value) (base : Heap) (k : Nat) (x : Str) (ps : List Str) (dvs : List V) (sp : Sp) : Prop :=
  ∃ (f : Addr) (fd : FuncData) (ds : List Value), FnOk P w K mg base (L2.CX P w) k f fd ps sp ∧ mg x = some (.ref f) ∧ PySem.W.keepIn K (.ref f) = true ∧ Binds K fd ps ds ∧ Vals dvs ds
/-- .. called with n positional arguments and the keywords ks -/
def CalK (P : Program) (w : World) (K : PySem.W.Frag) (mg : Str → Option Value) (base : Heap) (k : Nat) (x : Str) (ps : List Str) (n : Nat) (ks : List Str) (gV : List V → List V → List V) (sp : Sp) : Prop :=
  ∃ (f : Addr) (fd : FuncData) (g : List Value → List Value → List Value), FnOk P w K mg base (L2.CX P w) k f fd ps sp ∧ mg x = some (.ref f) ∧ PySem.W.keepIn K (.ref f) = true ∧ KBn K fd ps n ks g gV
theorem fn_up {P : Program} {w : World} {K : PySem.W.Frag} {mg : Str → Option Value} {base : Heap} {k : Nat} {f : Addr} {fd : FuncData} {ps : List Str} {sp : Sp} (F : FnOk P w K mg base CX0 k f fd ps sp) : FnOk P w K mg base (L2.CX P w) k f fd ps sp :=
  ⟨F.len, fun A outer s H args us vs Q E hr he hb hv hs => codeAny_mono (F.run A outer s H args us vs Q E hr he hb hv hs) fun r s' h => by
    cases r with
    | error e => exact (show False from h).elim
    | ok fl => cases fl <;> exact h⟩
section
variable {X : Cx} {k n : Nat} {ps ks : List Str} {sp : Sp} {dvs : List V} {E : XK} {x : Str} {p pos : Pos} {e : Expr} {es : List Expr} {kws : List Keyword} {t tk : TA} {gV : List V → List V → List V}
theorem passN : Passes (L2.CX X.prog X.w) X E0 := L2.passL
/-- f(e, ..): what is written, no defaults -/
def tCal (sp : Sp) (E : XK) (t : TA) : TE := fun σ H Q => t σ H fun vs H1 => sp vs H1 Q E
theorem pe_cal (C : Cal X.prog X.w X.K X.mg X.base k x ps [] sp) (hr : Room k X.A) (hx : Passes (L2.CX X.prog X.w) X E) (ha : PA X (e :: es) t) (hg : Gl X x := by rfl) (hdb : (x == ("__debug__" : Str)) = false := by decide)
    (he : starEach (e :: es) X.env = (false, eval e X.env) :: starEach es X.env := by rfl) (hpl : (backTo pos (starEach es X.env)).any (·.1) = false := by rfl) : PE X (.Call (.Name x p) (e :: es) [] pos) (tCal sp E t) := by
  obtain ⟨f, fd, ds, F, hm, hk, hb, hd⟩ := C
  have q : PE X (.Call (.Name x p) (e :: es) [] pos) (tCall sp [] E t) := pe_call F hr hg hm hk hb hd hx ha hdb he hpl
  refine ⟨fun pins s σ H Q I h => q.run pins s σ H Q I ?_⟩
  have e : (fun (vs : List V) (H1 : Hp) => sp (vs ++ []) H1 Q E) = (fun vs H1 => sp vs H1 Q E) := by
    funext vs H1
    rw [List.append_nil]
  show t σ H fun vs H1 => sp (vs ++ []) H1 Q E
  rw [e]
  exact h
theorem pe_calD (C : Cal X.prog X.w X.K X.mg X.base k x ps dvs sp) (hr : Room k X.A) (hx : Passes (L2.CX X.prog X.w) X E) (ha : PA X (e :: es) t) (hg : Gl X x := by rfl) (hdb : (x == ("__debug__" : Str)) = false := by decide)
    (he : starEach (e :: es) X.env = (false, eval e X.env) :: starEach es X.env := by rfl) (hpl : (backTo pos (starEach es X.env)).any (·.1) = false := by rfl) : PE X (.Call (.Name x p) (e :: es) [] pos) (tCall sp dvs E t) := by
  obtain ⟨f, fd, ds, F, hm, hk, hb, hd⟩ := C
  exact pe_call F hr hg hm hk hb hd hx ha hdb he hpl
theorem g_cal {sp : Sp} {E : XK} {tr : TA} {σ : L2.St} {H : Hp} {Q : VK} (k : tr σ H fun vs H1 => sp vs H1 Q E) : tCal sp E tr σ H Q := k
theorem g_calN {sp : Sp} {E : XK} {tr tk : TA} {n m : Nat} {gV : List V → List V → List V} {σ : L2.St} {H : Hp} {Q : VK} (k : tr σ H fun vs H1 => tk σ H1 fun zs H2 => vs.length = n ∧ zs.length = m ∧ sp (gV vs zs) H2 Q E) : tCallN n m sp gV E tr tk σ H Q := k
theorem pe_calK (C : CalK X.prog X.w X.K X.mg X.base k x ps n ks gV sp) (hr : Room k X.A) (hx : Passes (L2.CX X.prog X.w) X E) (ha : PA X (e :: es) t) (hkw : PK X kws tk) (hg : Gl X x := by rfl)
    (hall : (backToKw pos (keywordEach kws X.env)).all (·.1.isSome) = true := by rfl) (hks : (backToKw pos (keywordEach kws X.env)).filterMap (·.1) = ks := by rfl)
    (hdb : (x == ("__debug__" : Str)) = false := by decide) (he : starEach (e :: es) X.env = (false, eval e X.env) :: starEach es X.env := by rfl)
    (hpl : ((backTo pos (starEach (e :: es) X.env)).any (·.1) || (backToKw pos (keywordEach kws X.env)).any (·.1.isNone)) = false := by rfl) :
    PE X (.Call (.Name x p) (e :: es) kws pos) (tCallN n ks.length sp gV E t tk) := by
  obtain ⟨f, fd, g, F, hm, hk, hb⟩ := C
  exact pe_callN F hr hg hm hk hb hx ha hkw hall hks hdb he hpl
theorem pe_calK0 (C : CalK X.prog X.w X.K X.mg X.base k x ps 0 ks gV sp) (hr : Room k X.A) (hx : Passes (L2.CX X.prog X.w) X E) (hkw : PK X kws tk) (hg : Gl X x := by rfl)
    (hall : (backToKw pos (keywordEach kws X.env)).all (·.1.isSome) = true := by rfl) (hks : (backToKw pos (keywordEach kws X.env)).filterMap (·.1) = ks := by rfl)
    (hdb : (x == ("__debug__" : Str)) = false := by decide)
    (hpl : ((backTo pos (starEach [] X.env)).any (·.1) || (backToKw pos (keywordEach kws X.env)).any (·.1.isNone)) = false := by rfl) :
    PE X (.Call (.Name x p) [] kws pos) (tCallN 0 ks.length sp gV E tNil tk) := by
  obtain ⟨f, fd, g, F, hm, hk, hb⟩ := C
  refine ⟨fun pins s σ H Q I h => ?_⟩
  refine wpAny_Call_Name_kw (ld_glob I hg hm ?_ hdb)
  refine PySem.W.callWith_KW0 (h₀ := X.base) I.ok.mod.kin hk hall ?_ hpl
  refine thn (hkw.run pos pins s σ H _ I h) fun ws s2 ⟨zs, H2, I2, rz, l1, l2, q2⟩ => ⟨I2.kIn, ?_⟩
  rw [hks]
  exact run_fnN (us := []) (vs := []) F hr hb hx I2 .nil rz rfl l2 q2
/-- a module's whole number -/
theorem pe_cst {i : Int} (hg : Gl X x) (hm : ∃ t, X.mg x = some (.int i t)) (hd : (x == ("__debug__" : Str)) = false := by decide) : PE X (.Name x pos) (tC (.int i)) := by
  obtain ⟨t, hm⟩ := hm
  exact pe_glob hg hm ⟨t, rfl⟩ hd
/-- a op1 b op2 c op3 d -/
def tChain3 (r r' r'' : R2) (ta tb tc td : TE) : TE := fun σ H Q => ta σ H fun x H1 => tb σ H1 fun y H2 => r x y H2 fun z H3 => ∃ k, z = .bl k ∧
  (if k = true then tc σ H3 fun w H4 => r' y w H4 fun z' H5 => ∃ k', z' = .bl k' ∧ (if k' = true then td σ H5 fun w' H6 => r'' w w' H6 Q else Q (.bl false) H5) else Q (.bl false) H3)
theorem pe_chain3 {op op' op'' : CmpOp} {r r' r'' : R2} {a b c d : Expr} {ta tb tc td : TE} (ho : OpR X (compareOp op) r) (ho' : OpR X (compareOp op') r') (ho'' : OpR X (compareOp op'') r'') (ha : PE X a ta) (hb : PE X b tb) (hc : PE X c tc) (hd : PE X d td)
    (hm : lastMarks [op, op', op''] [b, c, d] = false := by with_unfolding_all rfl) : PE X (.Compare a [op, op', op''] [b, c, d] pos) (tChain3 r r' r'' ta tb tc td) := by
  refine ⟨fun pins s σ H Q I h => ?_⟩
  refine Compare_chain (thn (ha.run pins s σ H _ I h) fun v s1 ⟨x, H1, I1, r1, q1⟩ => chain_link (thn (hb.run pins s1 σ H1 _ I1 q1) fun u s2 ⟨y, H2, I2, r2, q2⟩ =>
    thn (ho pins s2 σ H2 x y v u _ I2 r1 r2 q2) fun w s3 ⟨z, H3, I3, r3, k, e, q3⟩ => ?_)) hm
  subst e
  cases r3
  refine wpAny_truthy_bool ?_
  cases k with
  | false => exact ite_ff ⟨.bl false, H3, I3, rfl, q3⟩
  | true =>
    refine ite_tt (chain_link (thn (hc.run pins s3 σ H3 _ I3 q3) fun w' s4 ⟨z', H4, I4, r4, q4⟩ => thn (ho' pins s4 σ H4 y z' u w' _ I4 r2 r4 q4) fun w5 s5 ⟨z5, H5, I5, r5, k5, e5, q5⟩ => ?_))
    subst e5
    cases r5
    refine wpAny_truthy_bool ?_
    cases k5 with
    | false => exact ite_ff ⟨.bl false, H5, I5, rfl, q5⟩
    | true => exact ite_tt (chain_last (thn (hd.run pins s5 σ H5 _ I5 q5) fun w6 s6 ⟨z6, H6, I6, r6, q6⟩ => ho'' pins s6 σ H6 z' z6 w' w6 Q I6 r4 r6 q6))
theorem g_chain3 {σ : L2.St} {H : Hp} {Q : VK} {r r' r'' : R2} {ta tb tc td : TE} (k : ta σ H fun x H1 => tb σ H1 fun y H2 => r x y H2 fun z H3 => ∃ k, z = .bl k ∧
  (if k = true then tc σ H3 fun w H4 => r' y w H4 fun z' H5 => ∃ k', z' = .bl k' ∧ (if k' = true then td σ H5 fun w' H6 => r'' w w' H6 Q else Q (.bl false) H5) else Q (.bl false) H3)) : tChain3 r r' r'' ta tb tc td σ H Q := k
end
/-! ### loops -/
/-- what a for asks of the iterator J -/
def FORJ (J : It) (g : TG) (tb : TS) (D : Ends) (σ : L2.St) (H1 : Hp) : Prop := ∃ W : Nat → Nat → L2.St → Hp → Prop, (∃ m, W 0 m σ H1) ∧ ∀ i m σ H, W i m σ H →
  (J.stop i H ∧ D.nx σ H) ∨ (J.go i H ∧ ∃ N : L2.St → Hp → Prop, (∀ σ' H', N σ' H' → ∃ m', m' < m ∧ W (i + 1) m' σ' H') ∧ ∀ x H', J.yld i H x H' → g x σ H' fun σ2 H2 => tb { D with nx := N, ct := N, bk := D.nx } σ2 H2)
/-- what a comprehension asks -/
def LCJ (J : It) (g : TG) (tt : TT) (te : TE) (vs : List Nat) (σ : L2.St) (H1 : Hp) (Q : VK) : Prop := ∀ D, H1 D = none → ∃ W : Nat → Nat → Hp → Prop, (∃ m, W 0 m (upd H1 D (.lst []))) ∧ ∀ i m H, W i m H →
  (J.stop i H ∧ Q (.ref D) H) ∨ (J.go i H ∧ ∃ Nx : Hp → Prop, (∀ H', Nx H' → ∃ m', m' < m ∧ W (i + 1) m' H') ∧ ∀ x H', J.yld i H x H' → g x (wipe σ vs) H' fun σ2 H2 => wipe σ2 vs = wipe σ vs ∧ tt σ2 H2 fun b H3 =>
    if b = true then te σ2 H3 fun y H4 => ∃ acc, H4 D = some (.lst acc) ∧ acc.length < sizeLine ∧ Nx (upd H4 D (.lst (acc ++ [y]))) else Nx H3)
section
variable {K : PySem.W.Frag} {σ : L2.St} {G H : Hp} {L : List (Addr × HO)} {te ta : TE} {tt tc : TT} {tb : TS} {tr : TA} {g : TG} {wi : TI} {vs : List Nat} {Q : VK} {n b c : L2.St → Hp → Prop} {rt : VK} {a : Addr} {xs : List V}
theorem s_for (k : wi σ H fun J H1 => FORJ J g tb ⟨n, rt, b, c⟩ σ H1) : tFor wi g tb ⟨n, rt, b, c⟩ σ H := k
theorem g_lc (k : wi σ H fun J H1 => LCJ J g tt te vs σ H1 Q) : tLc wi g tt te vs σ H Q := k
theorem g_iList {R : It → Hp → Prop} (k : te σ H fun x H1 => ∃ a, x = .ref a ∧ (∃ xs, SqL K H1 a xs) ∧ R (Itl K a) H1) : iList K te σ H R := k
theorem g_iTup {R : It → Hp → Prop} (k : te σ H fun x H1 => ∃ a, x = .ref a ∧ (∃ xs, SqT K H1 a xs) ∧ R (Itt K a) H1) : iTup K te σ H R := k
theorem g_iRng1 {R : It → Hp → Prop} (k : tr σ H fun vs H1 => ∃ j : Int, vs = [.int j] ∧ -(2 ^ 62) ≤ j ∧ j < 2 ^ 62 ∧ R (Itr 0 j.toNat) H1) : iRng1 tr σ H R := k
theorem g_iRng2 {R : It → Hp → Prop} (k : tr σ H fun vs H1 => ∃ i j : Int, vs = [.int i, .int j] ∧ (-(2 ^ 62) ≤ i ∧ i < 2 ^ 62 ∧ -(2 ^ 62) ≤ j ∧ j < 2 ^ 62) ∧ R (Itr i (j - i).toNat) H1) : iRng2 tr σ H R := k
theorem g_iEnum {R : It → Hp → Prop} (k : tr σ H fun vs H1 => ∃ a xs, vs = [.ref a] ∧ SqL K H1 a xs ∧ R (Ite K a) H1) : iEnum K tr σ H R := k
theorem s_while (W : Nat → L2.St → Hp → Prop) (m0 : Nat) (h0 : W m0 σ H)
    (hs : ∀ m σ' H', W m σ' H' → tc σ' H' fun x H1 => if x = true then ∃ N : L2.St → Hp → Prop, (∀ σ2 H2, N σ2 H2 → ∃ m', m' < m ∧ W m' σ2 H2) ∧ tb ⟨N, rt, n, N⟩ σ' H1 else n σ' H1) : tWhile tc tb ⟨n, rt, b, c⟩ σ H :=
  ⟨W, ⟨m0, h0⟩, hs⟩
theorem s_turn {m : Nat} {W : Nat → L2.St → Hp → Prop} (k : tb ⟨fun σ2 H2 => ∃ m', m' < m ∧ W m' σ2 H2, rt, n, fun σ2 H2 => ∃ m', m' < m ∧ W m' σ2 H2⟩ σ H) :
    ∃ N : L2.St → Hp → Prop, (∀ σ2 H2, N σ2 H2 → ∃ m', m' < m ∧ W m' σ2 H2) ∧ tb ⟨N, rt, n, N⟩ σ H := ⟨_, fun _ _ h => h, k⟩
theorem w_list (Pv : Nat → L2.St → Hp → Prop) (hx : SqL K H a xs) (h0 : Pv 0 σ H) (hl : ∀ i σ H, Pv i σ H → SqL K H a xs)
    (hs : ∀ i x σ H, xs[i]? = some x → Pv i σ H → g x σ H fun σ2 H2 => tb ⟨Pv (i + 1), rt, n, Pv (i + 1)⟩ σ2 H2) (hd : ∀ σ H, Pv xs.length σ H → n σ H) :
    ∃ p, V.ref a = .ref p ∧ (∃ xs, SqL K H p xs) ∧ FORJ (Itl K p) g tb ⟨n, rt, b, c⟩ σ H := ⟨a, rfl, ⟨xs, hx⟩, for_list Pv h0 (fun i σ H _ p => hl i σ H p) hs hd⟩
theorem w_tup (Pv : Nat → L2.St → Hp → Prop) (hx : SqT K H a xs) (h0 : Pv 0 σ H) (hl : ∀ i σ H, Pv i σ H → SqT K H a xs)
    (hs : ∀ i x σ H, xs[i]? = some x → Pv i σ H → g x σ H fun σ2 H2 => tb ⟨Pv (i + 1), rt, n, Pv (i + 1)⟩ σ2 H2) (hd : ∀ σ H, Pv xs.length σ H → n σ H) :
    ∃ p, V.ref a = .ref p ∧ (∃ xs, SqT K H p xs) ∧ FORJ (Itt K p) g tb ⟨n, rt, b, c⟩ σ H := ⟨a, rfl, ⟨xs, hx⟩, for_tup Pv h0 (fun i σ H _ p => hl i σ H p) hs hd⟩
theorem w_rng1 {j : Int} (Pv : Nat → L2.St → Hp → Prop) (hj : -(2 ^ 62) ≤ j ∧ j < 2 ^ 62) (h0 : Pv 0 σ H)
    (hs : ∀ (i : Nat) σ H, (i : Int) < j → Pv i σ H → g (.int (i : Int)) σ H fun σ2 H2 => tb ⟨Pv (i + 1), rt, n, Pv (i + 1)⟩ σ2 H2) (hd : ∀ σ H, Pv j.toNat σ H → n σ H) :
    ∃ j' : Int, [V.int j] = [.int j'] ∧ -(2 ^ 62) ≤ j' ∧ j' < 2 ^ 62 ∧ FORJ (Itr 0 j'.toNat) g tb ⟨n, rt, b, c⟩ σ H :=
  ⟨j, rfl, hj.1, hj.2, for_range (lo := 0) Pv h0 (fun i σ H hi p => by
    have e : (0 : Int) + (i : Int) = (i : Int) := Int.zero_add _
    rw [e]
    exact hs i σ H (by omega) p) hd⟩
theorem w_rng2 {lo j : Int} (Pv : Nat → L2.St → Hp → Prop) (hj : -(2 ^ 62) ≤ lo ∧ lo < 2 ^ 62 ∧ -(2 ^ 62) ≤ j ∧ j < 2 ^ 62) (h0 : Pv 0 σ H)
    (hs : ∀ (i : Nat) σ H, lo + (i : Int) < j → Pv i σ H → g (.int (lo + (i : Int))) σ H fun σ2 H2 => tb ⟨Pv (i + 1), rt, n, Pv (i + 1)⟩ σ2 H2) (hd : ∀ σ H, Pv (j - lo).toNat σ H → n σ H) :
    ∃ i' j' : Int, [V.int lo, V.int j] = [.int i', .int j'] ∧ (-(2 ^ 62) ≤ i' ∧ i' < 2 ^ 62 ∧ -(2 ^ 62) ≤ j' ∧ j' < 2 ^ 62) ∧ FORJ (Itr i' (j' - i').toNat) g tb ⟨n, rt, b, c⟩ σ H :=
  ⟨lo, j, rfl, hj, for_range (lo := lo) Pv h0 (fun i σ H hi p => hs i σ H (by omega) p) hd⟩
/-- over enumerate(a list): each turn's pair is a new tuple -/
theorem w_enum (Pv : Nat → L2.St → Hp → Prop) (hx : SqL K H a xs) (h0 : Pv 0 σ H) (hl : ∀ i σ H, Pv i σ H → SqL K H a xs)
    (hs : ∀ (i : Nat) x T σ H, xs[i]? = some x → Pv i σ H → H T = none → g (.ref T) σ (upd H T (.tup [.int (i : Int), x])) fun σ2 H2 => tb ⟨Pv (i + 1), rt, n, Pv (i + 1)⟩ σ2 H2) (hd : ∀ σ H, Pv xs.length σ H → n σ H) :
    ∃ p xs, [V.ref a] = [.ref p] ∧ SqL K H p xs ∧ FORJ (Ite K p) g tb ⟨n, rt, b, c⟩ σ H := by
  refine ⟨a, xs, rfl, hx, fun i m σ H => m = xs.length - i ∧ i ≤ xs.length ∧ Pv i σ H, ⟨xs.length, rfl, Nat.zero_le _, h0⟩, ?_⟩
  rintro i m σ H ⟨rfl, hi, p⟩
  have q := hl i σ H p
  by_cases hlt : i < xs.length
  · refine .inr ⟨⟨xs, xs[i], q, by simp [hlt]⟩, Pv (i + 1), fun σ' H' p' => ⟨xs.length - (i + 1), by omega, rfl, hlt, p'⟩, fun v H' y => ?_⟩
    obtain ⟨T, x, rfl, hT, rfl, hxx⟩ := y
    exact hs i x T σ H (hxx xs q) p hT
  · have e : i = xs.length := by omega
    subst e
    exact .inl ⟨⟨xs, q, Nat.le_refl _⟩, hd _ _ p⟩
/-! ### comprehensions: F says what holds behind i turns of what has been given (acc) and of what may be changed -/
def CP (G : Hp) (D : Addr) (F : Nat → List V → Hp → List (Addr × HO) → Prop) (i : Nat) (H : Hp) : Prop := ∃ acc G1 L1, Ex G G1 ∧ acc.length ≤ i ∧ F i acc G1 L1 ∧ Own G1 ((D, .lst acc) :: L1) H
def CE (G : Hp) (D : Addr) (F : Nat → List V → Hp → List (Addr × HO) → Prop) (i : Nat) (y : V) (H : Hp) : Prop := ∃ acc, H D = some (.lst acc) ∧ acc.length < sizeLine ∧ CP G D F (i + 1) (upd H D (.lst (acc ++ [y])))
theorem c_yes {F : Nat → List V → Hp → List (Addr × HO) → Prop} {D : Addr} {i : Nat} {acc : List V} {G1 : Hp} {L1 : List (Addr × HO)} {y : V} (S : Own G1 ((D, .lst acc) :: L1) H) (e : Ex G G1) (hl : acc.length ≤ i) (hi : i < 1000000) (f : F (i + 1) (acc ++ [y]) G1 L1) : CE G D F i y H :=
  ⟨acc, S.get0, Nat.lt_of_le_of_lt hl (Nat.lt_trans hi (by decide)), acc ++ [y], G1, L1, e, by rw [List.length_append]; exact Nat.succ_le_succ hl, f, S.put0⟩
theorem c_no {F : Nat → List V → Hp → List (Addr × HO) → Prop} {D : Addr} {i : Nat} {acc : List V} {G1 : Hp} {L1 : List (Addr × HO)} (S : Own G1 ((D, .lst acc) :: L1) H) (e : Ex G G1) (hl : acc.length ≤ i) (f : F (i + 1) acc G1 L1) : CP G D F (i + 1) H :=
  ⟨acc, G1, L1, e, Nat.le_succ_of_le hl, f, S⟩
theorem v_list (F : Nat → List V → Hp → List (Addr × HO) → Prop) (S : Own G L H) (hx : SqL K G a xs) (hz : xs.length ≤ 1000000) (h0 : F 0 [] G L)
    (hs : ∀ D i x acc G1 L1 H1, xs[i]? = some x → i < 1000000 → Ex G G1 → acc.length ≤ i → F i acc G1 L1 → Own G1 ((D, .lst acc) :: L1) H1 → g x (wipe σ vs) H1 fun σ2 H2 => wipe σ2 vs = wipe σ vs ∧ tt σ2 H2 fun b H3 =>
      if b = true then te σ2 H3 fun y H4 => CE G D F i y H4 else CP G D F (i + 1) H3)
    (hd : ∀ p acc G1 L1 H1, Ex G G1 → acc.length ≤ xs.length → F xs.length acc G1 L1 → Own G1 ((p, .lst acc) :: L1) H1 → Q (.ref p) H1) :
    ∃ p, V.ref a = .ref p ∧ (∃ xs, SqL K H p xs) ∧ LCJ (Itl K p) g tt te vs σ H Q :=
  ⟨a, rfl, ⟨xs, S.sl hx⟩, fun D hD => lc_list (K := K) (a := a) (xs := xs) (CP G D F) ⟨[], G, L, Ex.refl G, Nat.le_refl _, h0, S.lay hD⟩ (fun i H1 _ ⟨acc, G1, L1, e, _, _, S1⟩ => S1.sl (ex_l e hx))
    (fun i x H1 hi ⟨acc, G1, L1, e, hl, f, S1⟩ => hs D i x acc G1 L1 H1 hi (Nat.lt_of_lt_of_le (List.getElem?_eq_some_iff.mp hi).1 hz) e hl f S1) (fun H1 ⟨acc, G1, L1, e, hl, f, S1⟩ => hd D acc G1 L1 H1 e hl f S1)⟩
theorem v_tup (F : Nat → List V → Hp → List (Addr × HO) → Prop) (S : Own G L H) (hx : SqT K G a xs) (hz : xs.length ≤ 1000000) (h0 : F 0 [] G L)
    (hs : ∀ D i x acc G1 L1 H1, xs[i]? = some x → i < 1000000 → Ex G G1 → acc.length ≤ i → F i acc G1 L1 → Own G1 ((D, .lst acc) :: L1) H1 → g x (wipe σ vs) H1 fun σ2 H2 => wipe σ2 vs = wipe σ vs ∧ tt σ2 H2 fun b H3 =>
      if b = true then te σ2 H3 fun y H4 => CE G D F i y H4 else CP G D F (i + 1) H3)
    (hd : ∀ p acc G1 L1 H1, Ex G G1 → acc.length ≤ xs.length → F xs.length acc G1 L1 → Own G1 ((p, .lst acc) :: L1) H1 → Q (.ref p) H1) :
    ∃ p, V.ref a = .ref p ∧ (∃ xs, SqT K H p xs) ∧ LCJ (Itt K p) g tt te vs σ H Q :=
  ⟨a, rfl, ⟨xs, S.st hx⟩, fun D hD => lc_tup (K := K) (a := a) (xs := xs) (CP G D F) ⟨[], G, L, Ex.refl G, Nat.le_refl _, h0, S.lay hD⟩ (fun i H1 _ ⟨acc, G1, L1, e, _, _, S1⟩ => S1.st (ex_t e hx))
    (fun i x H1 hi ⟨acc, G1, L1, e, hl, f, S1⟩ => hs D i x acc G1 L1 H1 hi (Nat.lt_of_lt_of_le (List.getElem?_eq_some_iff.mp hi).1 hz) e hl f S1) (fun H1 ⟨acc, G1, L1, e, hl, f, S1⟩ => hd D acc G1 L1 H1 e hl f S1)⟩
theorem v_rng1 {j : Int} (F : Nat → List V → Hp → List (Addr × HO) → Prop) (S : Own G L H) (hj : 0 ≤ j ∧ j ≤ 1000000) (h0 : F 0 [] G L)
    (hs : ∀ D (i : Nat) acc G1 L1 H1, (i : Int) < j → i < 1000000 → Ex G G1 → acc.length ≤ i → F i acc G1 L1 → Own G1 ((D, .lst acc) :: L1) H1 → g (.int (i : Int)) (wipe σ vs) H1 fun σ2 H2 => wipe σ2 vs = wipe σ vs ∧ tt σ2 H2 fun b H3 =>
      if b = true then te σ2 H3 fun y H4 => CE G D F i y H4 else CP G D F (i + 1) H3)
    (hd : ∀ p acc G1 L1 H1, Ex G G1 → acc.length ≤ j.toNat → F j.toNat acc G1 L1 → Own G1 ((p, .lst acc) :: L1) H1 → Q (.ref p) H1) :
    ∃ j' : Int, [V.int j] = [.int j'] ∧ -(2 ^ 62) ≤ j' ∧ j' < 2 ^ 62 ∧ LCJ (Itr 0 j'.toNat) g tt te vs σ H Q :=
  ⟨j, rfl, by omega, by omega, fun D hD => lc_range (lo := 0) (n := j.toNat) (CP G D F) ⟨[], G, L, Ex.refl G, Nat.le_refl _, h0, S.lay hD⟩
    (fun i H1 hi ⟨acc, G1, L1, e, hl, f, S1⟩ => by
      have z : (0 : Int) + (i : Int) = (i : Int) := Int.zero_add _
      rw [z]
      exact hs D i acc G1 L1 H1 (by omega) (by omega) e hl f S1) (fun H1 ⟨acc, G1, L1, e, hl, f, S1⟩ => hd D acc G1 L1 H1 e hl f S1)⟩
theorem v_rng2 {lo j : Int} (F : Nat → List V → Hp → List (Addr × HO) → Prop) (S : Own G L H) (hj : -1000 ≤ lo ∧ lo ≤ 1000000 ∧ -1000 ≤ j ∧ j ≤ 900000) (h0 : F 0 [] G L)
    (hs : ∀ D (i : Nat) acc G1 L1 H1, lo + (i : Int) < j → i < 1000000 → Ex G G1 → acc.length ≤ i → F i acc G1 L1 → Own G1 ((D, .lst acc) :: L1) H1 → g (.int (lo + (i : Int))) (wipe σ vs) H1 fun σ2 H2 => wipe σ2 vs = wipe σ vs ∧ tt σ2 H2 fun b H3 =>
      if b = true then te σ2 H3 fun y H4 => CE G D F i y H4 else CP G D F (i + 1) H3)
    (hd : ∀ p acc G1 L1 H1, Ex G G1 → acc.length ≤ (j - lo).toNat → F (j - lo).toNat acc G1 L1 → Own G1 ((p, .lst acc) :: L1) H1 → Q (.ref p) H1) :
    ∃ i' j' : Int, [V.int lo, V.int j] = [.int i', .int j'] ∧ (-(2 ^ 62) ≤ i' ∧ i' < 2 ^ 62 ∧ -(2 ^ 62) ≤ j' ∧ j' < 2 ^ 62) ∧ LCJ (Itr i' (j' - i').toNat) g tt te vs σ H Q :=
  ⟨lo, j, rfl, ⟨by omega, by omega, by omega, by omega⟩, fun D hD => lc_range (lo := lo) (n := (j - lo).toNat) (CP G D F) ⟨[], G, L, Ex.refl G, Nat.le_refl _, h0, S.lay hD⟩
    (fun i H1 hi ⟨acc, G1, L1, e, hl, f, S1⟩ => hs D i acc G1 L1 H1 (by omega) (by omega) e hl f S1) (fun H1 ⟨acc, G1, L1, e, hl, f, S1⟩ => hd D acc G1 L1 H1 e hl f S1)⟩
theorem g_yes {Q : Bool → Hp → Prop} (k : Q true H) : tYes σ H Q := k
end
/-! ### tests -/
theorem if_tt {c : Bool} {A B : Prop} (e : c = true) (h : A) : if c = true then A else B := by rw [if_pos e]; exact h
theorem if_ff {c : Bool} {A B : Prop} (e : c = false) (h : B) : if c = true then A else B := by rw [if_neg (by rw [e]; exact Bool.false_ne_true)]; exact h
theorem if_2 {c : Bool} {A B : Prop} (h1 : c = true → A) (h2 : c = false → B) : if c = true then A else B := by
  cases c with
  | true => exact if_tt rfl (h1 rfl)
  | false => exact if_ff rfl (h2 rfl)
theorem dtrue' {p : Prop} [Decidable p] (h : p) : decide p = true := decide_eq_true h
theorem dfalse' {p : Prop} [Decidable p] (h : ¬p) : decide p = false := decide_eq_false h
theorem if_nt {A B : Prop} (h : B) : if (!true) = true then A else B := if_ff rfl h
theorem if_nf {A B : Prop} (h : A) : if (!false) = true then A else B := if_tt rfl h
theorem ntrue {p : Prop} [Decidable p] (h : p) : (!decide p) = false := by rw [dtrue' h]; rfl
theorem nfalse {p : Prop} [Decidable p] (h : ¬p) : (!decide p) = true := by rw [dfalse' h]; rfl
theorem dtrue {p : Prop} [Decidable p] (h : p) : decide p = true := decide_eq_true h
theorem dfalse {p : Prop} [Decidable p] (h : ¬p) : decide p = false := decide_eq_false h
theorem small {n : Nat} (h : n ≤ 10000000) : n ≤ sizeLine := Nat.le_trans h (by decide)
theorem smallL {n : Nat} (h : n ≤ 10000000) : n < sizeLine := Nat.lt_of_le_of_lt h (by decide)
section
variable {K : PySem.W.Frag} {G H : Hp} {L : List (Addr × HO)} {p : Addr} {xs : List V} {v : V} {Q : VK}
/-- a new list | a new tuple has been laid -/
theorem n_lst (S : Own G L H) (hz : xs.length ≤ 10000000) (k : ∀ p H1, H p = none → Own G ((p, .lst xs) :: L) H1 → Q (.ref p) H1) : NewL xs H Q :=
  ⟨small hz, fun p hp => k p _ hp (S.lay hp)⟩
/-- a new object stands still from now on -/
theorem Own.still {o : HO} (S : Own G L H) (hp : H p = none) : Own (upd G p o) L (upd H p o) ∧ Ex G (upd G p o) ∧ upd G p o p = some o :=
  ⟨⟨fun a u h => by
      by_cases e : a = p
      · subst e
        rw [upd_same] at h ⊢
        exact h
      · rw [upd_ne e] at h ⊢
        exact S.ex _ _ h, fun x hx => by
      have ne : x.1 ≠ p := fun e => S.fresh hp (e ▸ List.mem_map_of_mem hx)
      rw [upd_ne ne, upd_ne ne]
      exact S.at_ x hx, S.nd, S.nt⟩, Ex.new (fresh_back S.ex hp), upd_same⟩
theorem n_tup (S : Own G L H) (hz : xs.length ≤ 10000000) (k : ∀ p G1 H1, H p = none → Ex G G1 → Ex H H1 → G1 p = some (.tup xs) → Own G1 L H1 → Q (.ref p) H1) : NewT xs H Q :=
  ⟨small hz, fun p hp => k p _ _ hp (S.still hp).2.1 (Ex.new hp) (S.still hp).2.2 (S.still hp).1⟩
/-- a new list that is only read from now on -/
theorem n_lstG (S : Own G L H) (hz : xs.length ≤ 10000000) (k : ∀ p G1 H1, H p = none → Ex G G1 → Ex H H1 → G1 p = some (.lst xs) → Own G1 L H1 → Q (.ref p) H1) : NewL xs H Q :=
  ⟨small hz, fun p hp => k p _ _ hp (S.lay hp).freeze.2.1 (Ex.new hp) (S.lay hp).freeze.2.2 (S.lay hp).freeze.1⟩
/-- list(range(a, b)) -/
theorem n_rg {a b : Int} (S : Own G L H) (h : -1000 ≤ a ∧ a ≤ 1000000 ∧ -1000 ≤ b ∧ b ≤ 1000000) (k : ∀ p H1, H p = none → Own G ((p, .lst (rgV a b)) :: L) H1 → Q (.ref p) H1) : NewR a b H Q :=
  ⟨⟨by omega, by omega, by omega, by omega, by omega⟩, fun p hp => k p _ hp (S.lay hp)⟩
theorem n_rgG {a b : Int} (S : Own G L H) (h : -1000 ≤ a ∧ a ≤ 1000000 ∧ -1000 ≤ b ∧ b ≤ 1000000) (k : ∀ p G1 H1, H p = none → Ex G G1 → Ex H H1 → G1 p = some (.lst (rgV a b)) → Own G1 L H1 → Q (.ref p) H1) : NewR a b H Q :=
  ⟨⟨by omega, by omega, by omega, by omega, by omega⟩, fun p hp => k p _ _ hp (S.lay hp).freeze.2.1 (Ex.new hp) (S.lay hp).freeze.2.2 (S.lay hp).freeze.1⟩
theorem g_lrg {te : L2.St → Hp → (Int → Int → Hp → Prop) → Prop} {σ : L2.St} (k : te σ H fun a b H1 => NewR a b H1 Q) : tLstRg te σ H Q := k
theorem g_rg1 {ta : TE} {σ : L2.St} {R : Int → Int → Hp → Prop} (k : ta σ H fun x H1 => ∃ n, x = .int n ∧ R 0 n H1) : tRg1 ta σ H R := k
theorem g_rg2 {ta tb : TE} {σ : L2.St} {R : Int → Int → Hp → Prop} (k : ta σ H fun x H1 => tb σ H1 fun y H2 => ∃ i j, x = .int i ∧ y = .int j ∧ R i j H2) : tRg2 ta tb σ H R := k
theorem g_ex2I {i j : Int} {R : Int → Int → Prop} (k : R i j) : ∃ i' j', V.int i = .int i' ∧ V.int j = .int j' ∧ R i' j' := ⟨i, j, rfl, rfl, k⟩
/-- len(a list) -/
theorem n_len (h : SqL K H p xs) (k : Q (.int xs.length) H) : Evl.rLenS K [.ref p] H Q := ⟨p, xs, rfl, .inl h, k⟩
theorem n_lenT (h : SqT K H p xs) (k : Q (.int xs.length) H) : Evl.rLenS K [.ref p] H Q := ⟨p, xs, rfl, .inr h, k⟩
theorem n_int {i : Int} (k : Q (.int i) H) : rInt1 [.int i] H Q := .inl ⟨i, rfl, k⟩
theorem n_intB {b : Bool} (k : Q (.int (if b then 1 else 0)) H) : rInt1 [.bl b] H Q := .inr ⟨b, rfl, k⟩
theorem n_min {i j : Int} (k : Q (.int (min i j)) H) : rMin2 [.int i, .int j] H Q := ⟨i, j, rfl, by
  have e : (if j < i then j else i) = min i j := by split <;> omega
  rw [e]; exact k⟩
theorem n_max {i j : Int} (k : Q (.int (max i j)) H) : rMax2 [.int i, .int j] H Q := ⟨i, j, rfl, by
  have e : (if j > i then j else i) = max i j := by split <;> omega
  rw [e]; exact k⟩
/-- list(a list), tuple(a list) -/
theorem n_list (S : Own G L H) (h : SqL K H p xs) (k : ∀ p H1, H p = none → Own G ((p, .lst xs) :: L) H1 → Q (.ref p) H1) : Evl.rListS K [.ref p] H Q := ⟨p, xs, rfl, .inl h, fun p hp => k p _ hp (S.lay hp)⟩
theorem n_listT (S : Own G L H) (h : SqT K H p xs) (k : ∀ p H1, H p = none → Own G ((p, .lst xs) :: L) H1 → Q (.ref p) H1) : Evl.rListS K [.ref p] H Q := ⟨p, xs, rfl, .inr h, fun p hp => k p _ hp (S.lay hp)⟩
theorem n_tupL (S : Own G L H) (h : SqL K H p xs) (k : ∀ p G1 H1, H p = none → Ex G G1 → Ex H H1 → G1 p = some (.tup xs) → Own G1 L H1 → Q (.ref p) H1) : rTupS K [.ref p] H Q :=
  ⟨p, xs, rfl, .inl ⟨h, fun p hp => k p _ _ hp (S.still hp).2.1 (Ex.new hp) (S.still hp).2.2 (S.still hp).1⟩⟩
theorem n_isN (k : Q (.bl (decide (v = .non))) H) : rIsN v .non H Q := ⟨rfl, k⟩
theorem n_notN (k : Q (.bl (!decide (v = .non))) H) : rNotN v .non H Q := ⟨rfl, k⟩
/-- xs.append(v), the list at the head of what may be changed -/
theorem n_app (S : Own G ((p, .lst xs) :: L) H) (hz : xs.length ≤ 1000000) (k : ∀ H1, Own G ((p, .lst (xs ++ [v])) :: L) H1 → Q .non H1) : rAppend (.ref p) [v] H Q :=
  ⟨p, xs, v, rfl, rfl, S.get0, smallL (Nat.le_trans hz (by decide)), k _ S.put0⟩
theorem n_app1 {q : Addr} {o : HO} (S : Own G ((q, o) :: (p, .lst xs) :: L) H) (hz : xs.length ≤ 1000000) (k : ∀ H1, Own G ((q, o) :: (p, .lst (xs ++ [v])) :: L) H1 → Q .non H1) : rAppend (.ref p) [v] H Q :=
  ⟨p, xs, v, rfl, rfl, S.get1, smallL (Nat.le_trans hz (by decide)), k _ S.put1⟩
theorem n_app2 {q r : Addr} {o o2 : HO} (S : Own G ((r, o2) :: (q, o) :: (p, .lst xs) :: L) H) (hz : xs.length ≤ 1000000) (k : ∀ H1, Own G ((r, o2) :: (q, o) :: (p, .lst (xs ++ [v])) :: L) H1 → Q .non H1) : rAppend (.ref p) [v] H Q :=
  ⟨p, xs, v, rfl, rfl, S.get2, smallL (Nat.le_trans hz (by decide)), k _ S.put2⟩
/-- append to the j-th of what may be changed -/
theorem n_appM {j : Nat} (S : Own G L H) (h : L[j]? = some (p, .lst xs)) (hz : xs.length ≤ 1000000) (k : ∀ H1, Own G (L.set j (p, .lst (xs ++ [v]))) H1 → Q .non H1) : rAppend (.ref p) [v] H Q :=
  ⟨p, xs, v, rfl, rfl, S.getM (List.mem_of_getElem? h), smallL (Nat.le_trans hz (by decide)), k _ (S.putM h)⟩
theorem cutV_to (xs : List V) (i : Nat) : cutV xs none (some (i : Int)) = xs.take i := by
  unfold cutV
  rw [HT.sIx_none, HT.sIx_nat, List.drop_zero, Nat.sub_zero]
  by_cases h : i ≤ xs.length
  · rw [Nat.min_eq_left h]
  · rw [Nat.min_eq_right (by omega), List.take_length, List.take_of_length_le (by omega)]
theorem cutV_from (xs : List V) (i : Nat) : cutV xs (some (i : Int)) none = xs.drop i := by
  unfold cutV
  rw [HT.sIx_none, HT.sIx_nat]
  by_cases h : i ≤ xs.length
  · rw [Nat.min_eq_left h]
    exact List.take_of_length_le (by rw [List.length_drop]; omega)
  · rw [Nat.min_eq_right (by omega), List.drop_length, List.drop_of_length_le (by omega), List.take_nil]
theorem cutV_all (xs : List V) : cutV xs none none = xs := by
  unfold cutV
  rw [HT.sIx_none, HT.sIx_none, List.drop_zero, Nat.sub_zero, List.take_length]
/-- xs[lo:hi] of a list, read from now on -/
theorem n_sl {lo hi : Option Int} (S : Own G L H) (h : SqL K H p xs) (k : ∀ p G1 H1, H p = none → Ex G G1 → Ex H H1 → G1 p = some (.lst (cutV xs lo hi)) → Own G1 L H1 → Q (.ref p) H1) : rSlL K (.ref p) lo hi H Q :=
  ⟨p, xs, rfl, h, fun p hp => k p _ _ hp (S.still hp).2.1 (Ex.new hp) (S.still hp).2.2 (S.still hp).1⟩
theorem n_slL {lo hi : Option Int} (S : Own G L H) (h : SqL K H p xs) (k : ∀ p H1, H p = none → Own G ((p, .lst (cutV xs lo hi)) :: L) H1 → Q (.ref p) H1) : rSlL K (.ref p) lo hi H Q :=
  ⟨p, xs, rfl, h, fun p hp => k p _ hp (S.lay hp)⟩
theorem tyL (h : SqL K H p xs) : tyV K "list" (.ref p) H := .inl ⟨rfl, xs, h⟩
theorem Own.l0 (S : Own G ((p, .lst xs) :: L) H) : SqL K H p xs := SqL.of S.get0
theorem Own.l1 {q : Addr} {o : HO} (S : Own G ((q, o) :: (p, .lst xs) :: L) H) : SqL K H p xs := SqL.of S.get1
theorem Own.l2 {q r : Addr} {o o2 : HO} (S : Own G ((r, o2) :: (q, o) :: (p, .lst xs) :: L) H) : SqL K H p xs := SqL.of S.get2
end
/-! ### attributes -/
def GETF (K : PySem.W.Frag) (x : V) (f : Str) (H : Hp) (Q : VK) : Prop := ∃ a C dx fs v, x = .ref a ∧ H a = some (.ins C dx fs) ∧ Cls K C ∧ NoAttr K C f ∧ fs.lookup f = some v ∧ Q v H
def SETF (K : PySem.W.Frag) (x : V) (f : Str) (y : V) (H : Hp) (R : Hp → Prop) : Prop := ∃ a C dx fs, x = .ref a ∧ H a = some (.ins C dx fs) ∧ Cls K C ∧ NoAttr K C f ∧ fs.length < 1000 ∧ R (upd H a (.ins C dx (putF f y fs)))
section
variable {K : PySem.W.Frag} {σ : L2.St} {G H : Hp} {L : List (Addr × HO)} {ta tv : TE} {f : Str} {Q : VK} {n b c : L2.St → Hp → Prop} {rt : VK} {a C dx : Addr} {fs : List (Str × V)} {v y : V}
theorem g_fld (k : ta σ H fun x H1 => GETF K x f H1 Q) : tFld K ta f σ H Q := k
theorem s_fld (k : tv σ H fun y H1 => ta σ H1 fun x H2 => SETF K x f y H2 (n σ)) : sFld K ta tv f ⟨n, rt, b, c⟩ σ H := k
theorem n_fld (h : H a = some (.ins C dx fs)) (c : Cls K C) (n : NoAttr K C f) (l : fs.lookup f = some v) (k : Q v H) : GETF K (.ref a) f H Q := ⟨a, C, dx, fs, v, rfl, h, c, n, l, k⟩
theorem n_setF {R : Hp → Prop} (S : Own G ((a, .ins C dx fs) :: L) H) (c : Cls K C) (n : NoAttr K C f) (hl : fs.length < 1000) (k : ∀ H1, Own G ((a, .ins C dx (putF f y fs)) :: L) H1 → R H1) : SETF K (.ref a) f y H R := ⟨a, C, dx, fs, rfl, S.get0, c, n, hl, k _ S.put0⟩
end
/-! ### list + list, also of lists that are only known -/
def rCatL (K : PySem.W.Frag) : R2 := fun x y H Q => ∃ l b xs zs, x = .ref l ∧ y = .ref b ∧ SqL K H l xs ∧ SqL K H b zs ∧ xs.length + zs.length ≤ sizeLine ∧ ∀ p, H p = none → Q (.ref p) (upd H p (.lst (xs ++ zs)))
theorem op_catL {X : Cx} : OpR X (binaryOp .Add) (rCatL X.K) := by
  intro pins s σ H x y v u Q I rx ry h
  obtain ⟨l, b, xs, zs, rfl, rfl, hH, hB, hz, q⟩ := h
  cases rx
  cases ry
  obtain ⟨its, r, hl, h1⟩ := I.list hH
  obtain ⟨its2, r2, hb, h2⟩ := I.list hB
  obtain ⟨⟨cls, dd, data, sl⟩, ho, hc, n, hd⟩ := id hl.isList
  obtain ⟨⟨cls2, dd2, data2, sl2⟩, ho2, hc2, n2, hd2⟩ := id hb.isList
  simp only at hc hd hc2 hd2
  subst hc hd hc2 hd2
  have e : its.toArray ++ its2.toArray = (its ++ its2).toArray := by simp
  have hl1 := r.length
  have hl2 := r2.length
  refine concat_meets ⟨_, ho, rfl⟩ ⟨_, ho2, rfl⟩ noFill_list_add seq_list_add PySem.F.slot_list_add PySem.F.entry_list_add (PySem.F.args_list_add_2 _ _) (list_addW l b its.toArray its2.toArray n n2 dd dd2 sl sl2 (by simp; omega)) ⟨ho, ho2, ?_⟩
  rw [e]
  exact ⟨.ref _, _, I.lnew (t' := s.toks) (r.append r2) (by rw [List.length_append]; exact hz), rfl, q _ I.fresh⟩
theorem n_cat {K : PySem.W.Frag} {G H : Hp} {L : List (Addr × HO)} {l b : Addr} {xs zs : List V} {Q : VK} (S : Own G L H) (hx : SqL K H l xs) (hz : SqL K H b zs) (h : xs.length + zs.length ≤ 10000000) (k : ∀ p H1, H p = none → Own G ((p, .lst (xs ++ zs)) :: L) H1 → Q (.ref p) H1) : rCatL K (.ref l) (.ref b) H Q :=
  ⟨l, b, xs, zs, rfl, rfl, hx, hz, small h, fun p hp => k p _ hp (S.lay hp)⟩
theorem n_catG {K : PySem.W.Frag} {G H : Hp} {L : List (Addr × HO)} {l b : Addr} {xs zs : List V} {Q : VK} (S : Own G L H) (hx : SqL K H l xs) (hz : SqL K H b zs) (h : xs.length + zs.length ≤ 10000000) (k : ∀ p G1 H1, H p = none → Ex G G1 → Ex H H1 → G1 p = some (.lst (xs ++ zs)) → Own G1 L H1 → Q (.ref p) H1) : rCatL K (.ref l) (.ref b) H Q :=
  ⟨l, b, xs, zs, rfl, rfl, hx, hz, small h, fun p hp => k p _ _ hp (S.still hp).2.1 (Ex.new hp) (S.still hp).2.2 (S.still hp).1⟩
/-! ### methods, new instances -/
/-- the method m of the class at C -/
def Mth (P : Program) (w : World) (K : PySem.W.Frag) (mg : Str → Option Value) (base : Heap) (k : Nat) (C : Addr) (m : Str) (ps : List Str) (sp : Sp) : Prop :=
  ∃ (f : Addr) (fd : FuncData), Meth K C m f ∧ FnOk P w K mg base (L2.CX P w) k f fd ps sp ∧ Binds K fd ps []
/-- the class x at C, made by an __init__ that keeps sp -/
def Cnw (P : Program) (w : World) (K : PySem.W.Frag) (mg : Str → Option Value) (base : Heap) (k : Nat) (x : Str) (C : Addr) (ps : List Str) (sp : Sp) : Prop :=
  ∃ (f : Addr) (fd : FuncData), Mk K C f ∧ FnOk P w K mg base (L2.CX P w) k f fd ps sp ∧ mg x = some (.ref C) ∧ Binds K fd ps []
def INS (C : Addr) (m : Str) (x : V) (H : Hp) : Prop := ∃ a dx fs, x = .ref a ∧ H a = some (.ins C dx fs) ∧ fs.lookup m = none
def tMth (C : Addr) (m : Str) (sp : Sp) (E : XK) (ta : TE) (t : TA) : TE := fun σ H Q => ta σ H fun x H1 => INS C m x H1 ∧ t σ H1 fun vs H2 => sp (x :: vs) H2 Q E
def MAKE (C : Addr) (sp : Sp) (E : XK) (vs : List V) (H1 : Hp) (Q : VK) : Prop := ∀ x dx, H1 x = none → H1 dx = none → dx ≠ x → sp (.ref x :: vs) (upd (upd H1 dx (.own x)) x (.ins C dx [])) (fun v H2 => v = .non ∧ Q (.ref x) H2) E
def tNew (C : Addr) (sp : Sp) (E : XK) (t : TA) : TE := fun σ H Q => t σ H fun vs H1 => MAKE C sp E vs H1 Q
section
variable {X : Cx} {k : Nat} {C : Addr} {m x : Str} {ps : List Str} {sp : Sp} {E : XK} {o e : Expr} {es : List Expr} {ta : TE} {t : TA} {p apos pos : Pos}
theorem pe_mth {pl : Sem Bool} (he : PE X o ta) (M : Mth X.prog X.w X.K X.mg X.base k C m ps sp) (c : Cls X.K C) (hr : Room k X.A) (hx : Passes (L2.CX X.prog X.w) X E) (ha : PA X (e :: es) t)
    (ht : eval (.Call (.Attribute o m apos) (e :: es) [] pos) X.env = (do
      let ov ← eval o X.env
      standAt apos.atName
      let (f, first) ← holding [ov] (getMethod ov m pl)
      callWith pos f first (backTo pos (starEach (e :: es) X.env)) (backToKw pos (keywordEach [] X.env))) := by rfl)
    (hst : starEach (e :: es) X.env = (false, eval e X.env) :: starEach es X.env := by rfl) (hpl : (backTo pos (starEach es X.env)).any (·.1) = false := by rfl) :
    PE X (.Call (.Attribute o m apos) (e :: es) [] pos) (tMth C m sp E ta t) := by
  obtain ⟨f, fd, hm, F, hb⟩ := M
  have q : PE X (.Call (.Attribute o m apos) (e :: es) [] pos) (tMeth C m sp [] E ta t) := pe_meth (pl := pl) he c hm F hr hb .nil hx ha hst hpl ht
  refine ⟨fun pins s σ H Q I h => q.run pins s σ H Q I ?_⟩
  have e : ∀ x : V, (fun (vs : List V) (H1 : Hp) => sp (x :: (vs ++ [])) H1 Q E) = (fun vs H1 => sp (x :: vs) H1 Q E) := fun x => by
    funext vs H1
    rw [List.append_nil]
  have e2 : (fun (x : V) (H1 : Hp) => ∃ a dx fs, x = .ref a ∧ H1 a = some (.ins C dx fs) ∧ fs.lookup m = none ∧ t σ H1 fun vs H2 => sp (x :: (vs ++ [])) H2 Q E) = (fun x H1 => INS C m x H1 ∧ t σ H1 fun vs H2 => sp (x :: vs) H2 Q E) := by
    funext x H1
    rw [e x]
    exact propext ⟨fun ⟨a, dx, fs, h1, h2, h3, h4⟩ => ⟨⟨a, dx, fs, h1, h2, h3⟩, h4⟩, fun ⟨⟨a, dx, fs, h1, h2, h3⟩, h4⟩ => ⟨a, dx, fs, h1, h2, h3, h4⟩⟩
  show ta σ H fun x H1 => ∃ a dx fs, x = .ref a ∧ H1 a = some (.ins C dx fs) ∧ fs.lookup m = none ∧ t σ H1 fun vs H2 => sp (x :: (vs ++ [])) H2 Q E
  rw [e2]
  exact h
theorem pe_mth0 {pl : Sem Bool} (he : PE X o ta) (M : Mth X.prog X.w X.K X.mg X.base k C m ps sp) (c : Cls X.K C) (hr : Room k X.A) (hx : Passes (L2.CX X.prog X.w) X E)
    (ht : eval (.Call (.Attribute o m apos) [] [] pos) X.env = (do
      let ov ← eval o X.env
      standAt apos.atName
      let (f, first) ← holding [ov] (getMethod ov m pl)
      callWith pos f first (backTo pos (starEach [] X.env)) (backToKw pos (keywordEach [] X.env))) := by rfl) :
    PE X (.Call (.Attribute o m apos) [] [] pos) (tMth C m sp E ta tNil) := by
  obtain ⟨f, fd, hm, F, hb⟩ := M
  have q : PE X (.Call (.Attribute o m apos) [] [] pos) (tMeth C m sp [] E ta tNil) := pe_meth0 (pl := pl) he c hm F hr hb .nil hx ht
  refine ⟨fun pins s σ H Q I h => q.run pins s σ H Q I ?_⟩
  have e2 : (fun (x : V) (H1 : Hp) => ∃ a dx fs, x = .ref a ∧ H1 a = some (.ins C dx fs) ∧ fs.lookup m = none ∧ sp (x :: ([] ++ [])) H1 Q E) = (fun x H1 => INS C m x H1 ∧ sp (x :: []) H1 Q E) := by
    funext x H1
    exact propext ⟨fun ⟨a, dx, fs, h1, h2, h3, h4⟩ => ⟨⟨a, dx, fs, h1, h2, h3⟩, h4⟩, fun ⟨⟨a, dx, fs, h1, h2, h3⟩, h4⟩ => ⟨a, dx, fs, h1, h2, h3, h4⟩⟩
  show ta σ H fun x H1 => ∃ a dx fs, x = .ref a ∧ H1 a = some (.ins C dx fs) ∧ fs.lookup m = none ∧ sp (x :: ([] ++ [])) H1 Q E
  rw [e2]
  exact h
theorem pe_new (N : Cnw X.prog X.w X.K X.mg X.base k x C ps sp) (hr : Room (k + 1) X.A) (hx : Passes (L2.CX X.prog X.w) X E) (ha : PA X (e :: es) t) (hg : Gl X x := by rfl)
    (hdb : (x == ("__debug__" : Str)) = false := by decide) (he : starEach (e :: es) X.env = (false, eval e X.env) :: starEach es X.env := by rfl) (hpl : (backTo pos (starEach es X.env)).any (·.1) = false := by rfl) :
    PE X (.Call (.Name x p) (e :: es) [] pos) (tNew C sp E t) := by
  obtain ⟨f, fd, M, F, hm, hb⟩ := N
  have q : PE X (.Call (.Name x p) (e :: es) [] pos) (tMake C sp [] E t) := pe_make M F hr hg hm hb .nil hx ha hdb he hpl
  refine ⟨fun pins s σ H Q I h => q.run pins s σ H Q I ?_⟩
  have e2 : (fun (vs : List V) (H1 : Hp) => ∀ x dx, H1 x = none → H1 dx = none → dx ≠ x → sp (.ref x :: (vs ++ [])) (upd (upd H1 dx (.own x)) x (.ins C dx [])) (fun v H2 => v = .non ∧ Q (.ref x) H2) E) = (fun vs H1 => MAKE C sp E vs H1 Q) := by
    funext vs H1
    rw [List.append_nil] <;> rfl
  show t σ H fun vs H1 => ∀ x dx, H1 x = none → H1 dx = none → dx ≠ x → sp (.ref x :: (vs ++ [])) (upd (upd H1 dx (.own x)) x (.ins C dx [])) (fun v H2 => v = .non ∧ Q (.ref x) H2) E
  rw [e2]
  exact h
theorem g_mth {σ : L2.St} {H : Hp} {Q : VK} (k : ta σ H fun x H1 => INS C m x H1 ∧ t σ H1 fun vs H2 => sp (x :: vs) H2 Q E) : tMth C m sp E ta t σ H Q := k
theorem g_new {σ : L2.St} {H : Hp} {Q : VK} (k : t σ H fun vs H1 => MAKE C sp E vs H1 Q) : tNew C sp E t σ H Q := k
end
/-! ### len, == and != of instances -/
section
variable {prog : Program} {w : World} {A : Around} {E : Value → Shared → Prop} {s : Shared} {K : PySem.W.Frag} {x y C f L : Addr} {h₀ : Heap} {m : Str → Option Value} {ox : Obj} {od : Option Obj}
theorem ifBound_objNe {M : Model} {args : List Value} {Q : Option Value → Shared → Prop} (X : K.In s.heap) (I : PySem.W.InstAt s.heap x ox C od) (hs : PySem.W.findIn K (.ref C) "__ne__" = some (some (.builtin "object.__ne__")))
    (h : wpAny M A (call (.builtin "object.__ne__") (.ref x :: args)) (fun v => Q (some v)) E s) : wpAny M A (callSpecialIfBound? (.ref x) "__ne__" args) Q E s := by
  simp only [callSpecialIfBound?, bindSpecialIfBound?]
  refine wpAny_holding (wpAny_bind (wpAny_bind (wpAny_bind (I.type.here ((PySem.W.looks_findIn X hs).here ?_)))))
  refine wpAny_bind (wpAny_askSetting (wpAny_ite ?_))
  have fin : wpAny M A (call (.builtin "object.__ne__") ([.ref x] ++ args) >>= fun v => pure (some v)) Q E s := wpAny_bind (wpAny_mono h (fun v s' h' => wpAny_pure h') fun _ _ h' => h')
  split
  · exact wpAny_bind (wpAny_of_eq (PySem.F.cmp_object.ne.bind _) (wpAny_pure (by exact fin)))
  · exact wpAny_tryCatch (wpAny_bind (wpAny_of_eq (PySem.F.cmp_object.ne.bind _) (wpAny_pure (by exact fin))))
theorem entry_objNe (X : K.In s.heap) (I : PySem.W.InstAt s.heap x ox C od) (hs : PySem.W.findIn K (.ref C) "__eq__" = some (some (.ref f))) (hf : PySem.W.isFn K (.ref f) = true) (hu : A.units < cLine) {Q : Fin → Shared → Prop}
    (hcall : wpAny (model prog w) A (call (.ref f) [.ref x, .ref y]) (fun v s' => ∃ b, v = .bool b ∧ Q (.done (.ret (.bool (!b)))) s') E s) :
    wpAny (model prog w) A (Builtin.«object.__ne__» ⟨[.ref x, .ref y], []⟩) Q E s := by
  unfold Builtin.«object.__ne__»
  repeat (first
    | with_reducible refine wpAny_cRoomFor hu ?_
    | (refine wpAny_bind (m := callSpecialIfBound? (.ref x) (Str.ofString "__eq__") [.ref y])
        (PySem.W.ifBound_K X I hs hf (wpAny_mono hcall (fun r s' hr => by
          obtain ⟨b, rfl, hq⟩ := hr
          repeat (first | exact hq | exact wpAny_pure hq | exact wpAny_truthy_bool hq | (refine wpAny_bind (m := truthy (.bool _)) (wpAny_truthy_bool ?_)) | wp_step)) fun _ _ e => e)))
    | wp_step)
theorem ne_K {tb : Value} {Q : Value → Shared → Prop} (hu : A.units + 1 < cLine) (Fm : Fr h₀ L s.heap m) (X₀ : K.In h₀) (I : PySem.W.InstAt s.heap x ox C od) (hb : PySem.W.Looks (model prog w) s.heap (typeOf (.ref y)) tb) (hn : PySem.W.notFirst K C tb = true)
    (hne : PySem.W.findIn K (.ref C) "__ne__" = some (some (.builtin "object.__ne__"))) (hm : PySem.W.mroIn K C (.type "object") = some true)
    (hs : PySem.W.findIn K (.ref C) "__eq__" = some (some (.ref f))) (hf : PySem.W.isFn K (.ref f) = true)
    (h : wpAny (model prog w) A.in1 (call (.ref f) [.ref x, .ref y]) (fun v s' => ∃ b, v = .bool b ∧ Q (.bool (!b)) s') E s) : wpAny (model prog w) A (richCompare .NotEq (.ref x) (.ref y)) Q E s := by
  have X := X₀.keeps Fm.keep
  have one : wpAny (model prog w) A (tryCompare (.ref x) (cmpInfo .NotEq).2.1 (.ref y)) (fun r s' => ∃ v, r = some v ∧ Q v s') E s := by
    rw [cmpInfo_NotEq]
    unfold tryCompare
    refine wpAny_bind (ifBound_objNe X I hne (wpAny_call (codeAny_call_builtin PySem.F.cmp_object.ne.plain PySem.F.cmpEntry_ne (PySem.W.check_slot PySem.F.cmpKind_ne PySem.F.cmpSplit_ne (I.type.andThen (PySem.W.looks_mroIn X hm)) (PySem.F.cmpArgs_ne _ _)
      (entry_objNe (A := A.in1) X I hs hf (show A.in1.units < cLine from hu) (wpAny_mono h (fun v s' hv => ?_) fun _ _ e => e))))))
    obtain ⟨b, rfl, hq⟩ := hv
    first | exact ⟨b, rfl, wpAny_pure ⟨_, rfl, hq⟩⟩ | exact ⟨b, rfl, wpAny_pure (wpAny_pure ⟨_, rfl, hq⟩)⟩ | exact ⟨b, rfl, ⟨_, rfl, hq⟩⟩
  unfold richCompare
  simp only [oneThing_ref]
  refine wpAny_holding (wpAny_bind (wpAny_cRoomFor (Nat.lt_of_succ_lt hu) ?_))
  refine wpAny_bind (I.type.here (wpAny_bind (hb.here ?_)))
  split
  · rename_i q
    have e : PySem.W.subIn K tb (.ref C) = some false := by
      rcases Bool.or_eq_true_iff.mp hn with e | e
      · rw [beq_iff_eq.mp e] at q; simp at q
      · exact beq_iff_eq.mp e
    refine wpAny_bind ((PySem.W.looks_subIn X e).here ?_)
    simp only [Bool.false_eq_true, if_false]
    refine wpAny_bind (wpAny_mono one (fun r s' z => ?_) fun _ _ e => e)
    obtain ⟨v, rfl, hq⟩ := z
    exact wpAny_pure hq
  · refine wpAny_bind (wpAny_pure ?_)
    simp only [Bool.false_eq_true, if_false]
    refine wpAny_bind (wpAny_mono one (fun r s' z => ?_) fun _ _ e => e)
    obtain ⟨v, rfl, hq⟩ := z
    exact wpAny_pure hq
end
end NX

namespace NX
open PySem PySem.Spec PyProof.Rows L2
/-! ### rules with the fragment named: for bodies of comprehensions -/
section
variable {X : Cx} {K : PySem.W.Frag}
theorem call_lenK (e : X.K = K := by rfl) : CallR X (.builtin "len") (Evl.rLenS K) := e ▸ call_lenN
theorem call_listK (e : X.K = K := by rfl) : CallR X (.type "list") (Evl.rListS K) := e ▸ call_listN
theorem call_tupK (e : X.K = K := by rfl) : CallR X (.type "tuple") (rTupS K) := e ▸ call_tupN
theorem call_isiK' (e : X.K = K := by rfl) : CallR X (.builtin "isinstance") (rIsi K) := e ▸ call_isi
theorem cr_sortedIK (e : X.K = K := by rfl) : CallR X (.builtin "sorted") (rSortedI K) := e ▸ cr_sortedI
theorem cr_sortedPOK (e : X.K = K := by rfl) : CallR X (.builtin "sorted") (rSortedPO K) := e ▸ cr_sortedPO
theorem cr_sumK (hc : X.calm = true) (e : X.K = K := by rfl) : CallR X (.builtin "sum") (rSum K) := e ▸ cr_sum hc
theorem cr_maxK (hc : X.calm = true) (e : X.K = K := by rfl) : CallR X (.builtin "max") (rMax K) := e ▸ cr_max hc
theorem cr_minK (hc : X.calm = true) (e : X.K = K := by rfl) : CallR X (.builtin "min") (rMin K) := e ▸ cr_min hc
theorem cr_allK (hc : X.calm = true) (e : X.K = K := by rfl) : CallR X (.builtin "all") (rAll K) := e ▸ cr_all hc
theorem ix_listK (e : X.K = K := by rfl) : IxR X (rIxL K) := e ▸ ix_list
theorem ix_tupK (e : X.K = K := by rfl) : IxR X (rIxT K) := e ▸ ix_tup
theorem sl_listK (e : X.K = K := by rfl) : SlR X (rSlL K) := e ▸ sl_list
theorem sl_tupAK (e : X.K = K := by rfl) : SlR X (rSlA K) := e ▸ sl_tupA
theorem op_in_seqK (e : X.K = K := by rfl) : OpR X (compareOp .In) (rIn K false) := e ▸ op_in_seq
theorem op_notIn_seqK (e : X.K = K := by rfl) : OpR X (compareOp .NotIn) (rIn K true) := e ▸ op_notIn_seq
theorem op_eqDK (hu : X.A.units + 64 < cLine) (e : X.K = K := by rfl) : OpR X (compareOp .Eq) (rEqD K) := e ▸ op_eqD hu
theorem op_neDK (hu : X.A.units + 64 < cLine) (e : X.K = K := by rfl) : OpR X (compareOp .NotEq) (rNeD K) := e ▸ op_neD hu
theorem op_inDK (hu : X.A.units + 65 < cLine) (e : X.K = K := by rfl) : OpR X (compareOp .In) (rInD K) := e ▸ op_inD hu
theorem op_notInDK (hu : X.A.units + 65 < cLine) (e : X.K = K := by rfl) : OpR X (compareOp .NotIn) (rNotInD K) := e ▸ op_notInD hu
theorem op_catLK (e : X.K = K := by rfl) : OpR X (binaryOp .Add) (rCatL K) := e ▸ op_catL
theorem op_catAK (e : X.K = K := by rfl) : OpR X (binaryOp .Add) (rCatA K) := e ▸ op_catA
theorem op_repTK (e : X.K = K := by rfl) : OpR X (binaryOp .Mult) (rRepT K) := e ▸ op_repT
theorem mt_indexK (e : X.K = K := by rfl) : MtR X "list.index" (rIndex K) := e ▸ mt_index
theorem pe_fldK {e : Expr} {ta : TE} {f : Str} {pos : Pos} (he : PE X e ta) (hb : attributeBase e f X.env (eval e X.env) = eval e X.env) (h : X.K = K := by rfl) : PE X (.Attribute e f pos) (tFld K ta f) := h ▸ pe_fld he hb
theorem pi_listK {tg l : Expr} {tl : TE} (hl : PE X l tl) (h : X.K = K := by rfl) : PI X tg l (iList K tl) := h ▸ pi_list hl
theorem pi_tupK {tg l : Expr} {tl : TE} (hl : PE X l tl) (h : X.K = K := by rfl) : PI X tg l (iTup K tl) := h ▸ pi_tup hl
theorem pg_tupK {es : List Expr} {k : Nat} {t : TGs} {n : Nat} {pos : Pos} (hc : X.calm = true) (h : PGs X es t) (e : X.K = K := by rfl)
    (hn : (assignEach es X.env).length = n := by rfl) (hst : (assignEach es X.env).findIdx? (·.1) = none := by rfl) : PG X (.Tuple es k pos) (gTup K n t) := e ▸ pg_tup hc h hn hst
theorem pe_bmK {o e : Expr} {es : List Expr} {to : TE} {t : TA} {name : Str} {apos cpos : Pos} {T id : String} {r : V → List V → Hp → VK → Prop} (pa : PlainAttrs T) (slot : Slot T name id) (hty : typeOf (.builtin id) = pure (.type "method_descriptor")) (hm : MtR X id r) (ho : PE X o to) (ha : PA X (e :: es) t)
    (h : X.K = K := by rfl) (hbase : attributeBase o name X.env (eval o X.env) = eval o X.env := by rfl)
    (hfew : ((backTo cpos (starEach (e :: es) X.env)).all (fun x => !x.1) && (backToKw cpos (keywordEach [] X.env)).all (fun x => x.1.isSome)
      && decide ((e :: es).length + ([] : List Keyword).length + (if ([] : List Keyword).isEmpty then 0 else 1) < 30)) = true := by rfl)
    (hline : (apos.endLine == cpos.line) = true := by rfl) (hs : starEach (e :: es) X.env = (false, eval e X.env) :: starEach es X.env := by rfl) (hplain : (backTo cpos (starEach es X.env)).any (·.1) = false := by rfl) :
    PE X (.Call (.Attribute o name apos) (e :: es) [] cpos) (tBM K T r to t) := h ▸ pe_bm pa slot hty hm ho ha hbase hfew hline hs hplain
end
end NX

local macro_rules | `(tactic| walk_at "go1") => `(tactic| first
  | with_reducible refine NX.s_seq ?_
  | with_reducible refine NX.s_asg ?_
  | with_reducible refine NX.s_name ?_
  | with_reducible refine NX.s_ret ?_
  | with_reducible refine NX.s_if ?_
  | with_reducible refine NX.s_next ?_
  | with_reducible refine NX.s_drop ?_
  | with_reducible refine NX.s_brk ?_
  | with_reducible refine NX.s_cont ?_
  | with_reducible refine NX.s_par ?_
  | with_reducible refine NX.s_two ?_
  | with_reducible refine NX.s_sub ?_
  | with_reducible refine NX.s_gcons ?_
  | with_reducible refine NX.s_gnil ?_
  | with_reducible refine NX.g_c ?_
  | ((with_reducible refine' NX.g_var ?gv ?gk); (case gv => exact rfl))
  | with_reducible refine NX.g_op ?_
  | with_reducible refine NX.g_un ?_
  | with_reducible refine NX.g_U ?_
  | with_reducible refine NX.g_I0 ?_
  | with_reducible refine NX.g_cb ?_
  | with_reducible refine NX.g_call ?_
  | with_reducible refine NX.g_cal ?_
  | with_reducible refine NX.g_calN ?_
  | with_reducible refine NX.g_nil ?_
  | with_reducible refine NX.g_cons ?_
  | with_reducible refine NX.g_test ?_
  | with_reducible refine NX.g_B ?_
  | with_reducible refine NX.g_bl ?_
  | with_reducible refine NX.g_exV ?_
  | with_reducible refine NX.g_exI ?_
  | with_reducible refine NX.g_and ?_
  | with_reducible refine NX.g_or ?_
  | with_reducible refine NX.g_not ?_
  | with_reducible refine NX.g_andV ?_
  | with_reducible refine NX.g_orV ?_
  | with_reducible refine NX.g_notV ?_
  | with_reducible refine NX.g_if ?_
  | with_reducible refine NX.g_chain ?_
  | with_reducible refine NX.g_chain3 ?_
  | with_reducible refine NX.g_tup ?_
  | with_reducible refine NX.g_lst ?_
  | with_reducible refine NX.g_sl ?_
  | with_reducible refine NX.g_noPart ?_
  | with_reducible refine NX.g_part ?_
  | with_reducible refine NX.g_bm ?_
  | with_reducible refine NX.g_bm0 ?_
  | with_reducible refine NX.g_eqI ?_
  | with_reducible refine NX.g_neI ?_
  | with_reducible refine NX.g_eqB ?_
  | with_reducible refine NX.g_neB ?_
  | with_reducible refine NX.s_ipI ?_
  | ((with_reducible refine' NX.s_aug ?gv ?gk); (case gv => exact rfl))
  | with_reducible refine NX.s_for ?_
  | with_reducible refine NX.g_lc ?_
  | with_reducible refine NX.g_iList ?_
  | with_reducible refine NX.g_iTup ?_
  | with_reducible refine NX.g_iRng1 ?_
  | with_reducible refine NX.g_iRng2 ?_
  | with_reducible refine NX.g_iEnum ?_
  | with_reducible refine NX.g_yes ?_
  | with_reducible refine NX.n_int ?_
  | with_reducible refine NX.n_intB ?_
  | with_reducible refine NX.n_min ?_
  | with_reducible refine NX.n_max ?_
  | with_reducible refine NX.n_isN ?_
  | with_reducible refine NX.n_notN ?_
  | with_reducible refine NX.g_lrg ?_
  | with_reducible refine NX.g_rg1 ?_
  | with_reducible refine NX.g_rg2 ?_
  | with_reducible refine NX.g_ex2I ?_
  | with_reducible refine NX.g_mth ?_
  | with_reducible refine NX.g_new ?_
  | with_reducible refine NX.g_fld ?_
  | with_reducible refine NX.s_fld ?_
  | with_reducible refine NX.if_nt ?_
  | with_reducible refine NX.if_nf ?_
  | with_reducible refine L2.iteT ?_
  | with_reducible refine L2.iteF ?_)
local macro_rules | `(tactic| walk_at "go") => `(tactic| repeat (walk_at "go1"))

/-! the text by places -/
namespace NX
open PySem PySem.Spec PyProof.Rows L2
def top (i : Nat) : Stmt := PySem.Challenge.pw_nextchannel_k30_fewest_stations.main.body.getD i (.Pass ⟨0, 0, 0, 0⟩)
/-- what the top leaves of built-ins and constants -/
structure Txt (mg : Str → Option Value) : Prop where
  n_bool : mg "bool" = none
  n_enumerate : mg "enumerate" = none
  n_int : mg "int" = none
  n_isinstance : mg "isinstance" = none
  n_len : mg "len" = none
  n_max : mg "max" = none
  n_range : mg "range" = none
  n_sum : mg "sum" = none
  n_tuple : mg "tuple" = none
  m_MAX_CHANNEL : ∃ t, mg "MAX_CHANNEL" = some (.int 60 t)
  m_MAX_STATIONS : ∃ t, mg "MAX_STATIONS" = some (.int 60 t)
end NX

namespace NX
open PySem PySem.Spec PyProof.Rows L2
open Evl (Ex ex_l ex_t fresh_back)
abbrev s_is_int : Stmt := top 8
theorem sc_is_int : FnScope ["value"] ["value"] (defScope s_is_int) := ⟨rfl, rfl, rfl, by decide +kernel, rfl, by decide +kernel, by decide +kernel⟩
/-- the types of the values that the law hands around -/
def okTy (t : String) : Bool := t == "int" || t == "bool" || t == "str" || t == "NoneType" || t == "list" || t == "tuple" || t == "dict"
/-- x is of the built-in type t -/
def IsT (K : PySem.W.Frag) (H : Hp) (x : V) (t : String) : Prop := TyX K H x (.type t) ∧ okTy t = true
theorem IsT.int {K : PySem.W.Frag} {H : Hp} {i : Int} : IsT K H (.int i) "int" := ⟨.base (.int i), by decide +kernel⟩
/-- is_int(x): whether x is an int and no bool -/
def spIsInt (K : PySem.W.Frag) : Sp := fun vs H Q _ => ∃ x t, vs = [x] ∧ IsT K H x t ∧ Q (.bl (t == "int")) H
theorem g_isint {K : PySem.W.Frag} {H : Hp} {Q : VK} {E : XK} {i : Int} (k : Q (.bl true) H) : spIsInt K [.int i] H Q E := ⟨_, _, rfl, IsT.int, k⟩
theorem kit_int {t : String} (h : okTy t = true) : kitB t "int" = some (t == "int" || t == "bool") ∧ kitB t "bool" = some (t == "bool") ∧ kitB t "tuple" = some (t == "tuple") ∧ kitB t "list" = some (t == "list") := by
  unfold okTy at h
  simp only [Bool.or_eq_true, beq_iff_eq] at h
  rcases h with (((((h | h) | h) | h) | h) | h) | h <;> subst h <;> exact ⟨by decide +kernel, by decide +kernel, by decide +kernel, by decide +kernel⟩
section
variable {P : Program} {w : World} {K : PySem.W.Frag} {mg : Str → Option Value} {base : Heap}
theorem ok_is_int {f : Addr} {fd : FuncData} (F : Fun K "is_int" "is_int" s_is_int f fd) (T : Txt mg) : FnOk P w K mg base CX0 1 f fd ["value"] (spIsInt K) := by
  refine F.ok sc_is_int (fun vs H Q E h => ?_) (fun cdv A outer s H vs Q E hr h => ?_)
  · obtain ⟨x, t, rfl, _⟩ := h
    rfl
  · obtain ⟨x, t, rfl, ⟨ty, ok⟩, k⟩ := h
    obtain ⟨k1, k2, _, _⟩ := kit_int ok
    refine ⟨_, (pss_one (ps_ret (pe_and (pe_callB call_isi (by rfl) T.n_isinstance (by decide +kernel) (pa_cons (pv 0) (pa_cons (pe_bltn (v := .ty "int") (by rfl) T.n_int (by decide +kernel) rfl) pa_nil))) (pe_one (pe_not (pe_callB call_isi (by rfl) T.n_isinstance (by decide +kernel) (pa_cons (pv 0) (pa_cons (pe_bltn (v := .ty "bool") (by rfl) T.n_bool (by decide +kernel) rfl) pa_nil)))))))), ?_⟩
    walk_at "go"
    refine ⟨x, _, _, _, _, rfl, .ty _, ty, kit_ty k1, ?_⟩
    walk_at "go"
    by_cases c : t = "int"
    · subst c
      refine iteT ?_
      walk_at "go"
      refine ⟨x, _, _, _, _, rfl, .ty _, ty, kit_ty k2, ?_⟩
      walk_at "go"
      exact k
    · by_cases c2 : t = "bool"
      · subst c2
        refine iteT ?_
        walk_at "go"
        refine ⟨x, _, _, _, _, rfl, .ty _, ty, kit_ty k2, ?_⟩
        walk_at "go"
        exact k
      · have e : (t == "int" || t == "bool") = false := by simp [c, c2]
        have e2 : (t == "int") = false := by simp [c]
        rw [e]
        refine iteF ?_
        rw [e2] at k
        exact k
end
end NX

namespace NX
open PySem PySem.Spec PyProof.Rows L2
open Evl (Ex ex_l ex_t fresh_back)
/-- sizes of smallest networks: behind n turns -/
def fw (off : Bool) : Nat → Int
  | 0 => 1
  | 1 => 2
  | n + 2 => if off then fw off (n + 1) + fw off n else fw off (n + 1) + fw off (n + 1)
/-- the one ahead of the last -/
def fwB (off : Bool) : Nat → Int
  | 0 => 1
  | n + 1 => fw off n
theorem fw_next (off : Bool) : ∀ n, fw off (n + 1) = fw off n + (if off = true then fwB off n else fw off n)
  | 0 => by cases off <;> rfl
  | n + 1 => by cases off <;> rfl
def fwL (off : Bool) (n : Nat) : List V := (List.range (n + 1)).map fun i => V.int (fw off i)
theorem fwL_next (off : Bool) (n : Nat) : fwL off (n + 1) = fwL off n ++ [.int (fw off (n + 1))] := by
  unfold fwL
  rw [List.range_succ, List.map_append] <;> rfl
theorem fwL_len (off : Bool) (n : Nat) : (fwL off n).length = n + 1 := by
  unfold fwL
  rw [List.length_map, List.length_range]
theorem fwL_last (off : Bool) (n : Nat) : atI (fwL off n) (-1) = some (.int (fw off n)) := by
  cases n with
  | zero => rfl
  | succ n => rw [fwL_next]; exact atI_last _ _
abbrev s_fewest_stations : Stmt := top 11
theorem sc_fewest_stations : FnScope ["channel", "off", "sizes", "before", "last"] ["channel", "off"] (defScope s_fewest_stations) := ⟨rfl, rfl, rfl, by decide +kernel, rfl, by decide +kernel, by decide +kernel⟩
def spFewest : Sp := fun vs H Q _ => ∃ (c : Nat) (off : Bool), vs = [.int ((c : Int) + 1), .bl off] ∧ c < 60 ∧ ∀ H', Ex H H' → Q (.int (fw off c)) H'
theorem n_few {G H : Hp} {L : List (Addr × HO)} {i : Int} {off : Bool} {Q : VK} {E : XK} (c : Nat) (S : Own G L H) (h : i = (c : Int) + 1) (hc : c < 60) (k : ∀ H1, Own G L H1 → Q (.int (fw off c)) H1) : spFewest [.int i, .bl off] H Q E := by
  subst h
  exact ⟨c, off, rfl, hc, fun H' e => k H' (S.grow e)⟩
section
variable {P : Program} {w : World} {K : PySem.W.Frag} {mg : Str → Option Value} {base : Heap}
theorem ok_fewest {f : Addr} {fd : FuncData} (F : FunD K "fewest_stations" "fewest_stations" (defArgs s_fewest_stations) (defBody s_fewest_stations) (defScope s_fewest_stations) [] [("off", .bl true)] f fd) (T : Txt mg)
    (c_is_int : Cal P w K mg base 1 "is_int" ["value"] [] (spIsInt K)) : FnOk P w K mg base (L2.CX P w) 2 f fd ["channel", "off"] spFewest := by
  refine F.ok sc_fewest_stations (fun vs H Q E h => ?_) (fun cdv A outer s H vs Q E hr h => ?_)
  · obtain ⟨c, off, rfl, _⟩ := h
    rfl
  · obtain ⟨c, off, rfl, hc, k⟩ := h
    refine ⟨_, PSs.nox (pss_cons (ps_if (PW.pt (pw_or (pt_not (pt_val (pe_cal c_is_int (hr.mono (by first | decide | omega)) passN (pa_cons (pv 0) pa_nil)))) (pw_or1 (pt_not (pt_chain op_le op_le pe_int (pv 0) (pe_cst (by rfl) T.m_MAX_CHANNEL)))))) (pss_one ps_never) pss_nil)
      (pss_cons (ps_set (i := 2) sc_fewest_stations.nd rfl (Or.inl rfl) (pe_lst (pa_cons pe_int pa_nil)))
      (pss_cons (ps_set (i := 3) sc_fewest_stations.nd rfl (Or.inl rfl) pe_int)
      (pss_cons (ps_while PassesOwn.never (pt_cmpR op_lt (pe_callB call_lenN (by rfl) T.n_len (by decide +kernel) (pa_cons (pv 2) pa_nil)) (pv 0) (nomark _)) (pss_cons (ps_par (i := 3) (j := 4) rfl sc_fewest_stations.nd rfl rfl (by decide) rfl rfl (pa_cons (pe_ix ix_list (pv 2) (pe_un un_neg pe_int) (fun _ _ => rfl)) (pa_cons (pv 3) pa_nil)) rfl)
      (pss_one (ps_expr (pe_bm PySem.F.plainAttrs_list PySem.F.slot_list_append PySem.F.type_list_append mt_append (pv 2) (pa_cons (pe_op op_add (pv 3) (pe_ifExp (pt_val (pv 1)) (pv 4) (pv 3))) pa_nil))))))
      (pss_one (ps_ret (pe_ix ix_list (pv 2) (pe_un un_neg pe_int) (fun _ _ => rfl)))))))), ?_⟩
    walk_at "go"
    refine g_isint ?_
    walk_at "go"
    refine if_tt (dtrue (by omega)) ?_
    walk_at "go"
    refine if_ff (ntrue (by omega)) ?_
    walk_at "go"
    refine n_lst (Own.start H) (by decide) fun p H1 hp S1 => ?_
    walk_at "go"
    refine s_while (fun m σ' H' => ∃ i : Nat, i ≤ c ∧ m = c - i ∧ (∃ lst, σ' = [some (.int ((c : Int) + 1)), some (.bl off), some (.ref p), some (.int (fwB off i)), lst]) ∧ Own H [(p, .lst (fwL off i))] H') c ⟨0, Nat.zero_le _, rfl, ⟨none, rfl⟩, S1⟩ ?_
    rintro m σ' H' ⟨i, hi, rfl, ⟨lst, rfl⟩, S⟩
    walk_at "go"
    refine n_len S.l0 ?_
    walk_at "go"
    rw [fwL_len]
    refine if_2 (fun e => ?_) (fun e => ?_)
    · have e := of_decide_eq_true e
      refine s_turn ?_
      walk_at "go"
      refine g_ixL S.l0 (fwL_last off i) ?_
      walk_at "go"
      refine ⟨tyL S.l0, ?_⟩
      walk_at "go"
      refine if_2 (fun e1 => ?_) (fun e1 => ?_)
      · walk_at "go"
        refine n_app S (by rw [fwL_len]; omega) fun H2 S2 => ?_
        exact ⟨c - (i + 1), by omega, i + 1, by omega, rfl, ⟨_, rfl⟩, by rw [fwL_next, fw_next, if_pos e1]; exact S2⟩
      · walk_at "go"
        refine n_app S (by rw [fwL_len]; omega) fun H2 S2 => ?_
        exact ⟨c - (i + 1), by omega, i + 1, by omega, rfl, ⟨_, rfl⟩, by rw [fwL_next, fw_next, if_neg (by rw [e1]; decide)]; exact S2⟩
    · have e := of_decide_eq_false e
      have ei : i = c := by omega
      subst ei
      walk_at "go"
      refine g_ixL S.l0 (fwL_last off i) ?_
      exact k _ S.ex
end
end NX

namespace NX
/-! ### chains and tables, no program in sight -/
def cge (ns : List Int) (j : Int) : Nat := ns.countP fun x => decide (j ≤ x)
/-- k of the numbers are at least 1, 2 .. k, each another one -/
def Has (ns : List Int) (k : Int) : Prop := ∀ j : Int, 1 ≤ j → j ≤ k → k - j + 1 ≤ (cge ns j : Int)
def IsCh (ns : List Int) (g : Int) : Prop := 0 ≤ g ∧ ∀ k : Int, k ≤ g ↔ Has ns k
theorem Has.down {ns : List Int} {k l : Int} (h : Has ns k) (e : l ≤ k) : Has ns l := fun j h1 h2 => by have := h j h1 (by omega); omega
theorem IsCh.uniq {ns : List Int} {g g' : Int} (h : IsCh ns g) (h' : IsCh ns g') : g = g' := by
  have h1 := (h'.2 g).mpr ((h.2 g).mp (Int.le_refl _))
  have h2 := (h.2 g').mpr ((h'.2 g').mp (Int.le_refl _))
  omega
theorem cge_perm {ns ms : List Int} (p : ns.Perm ms) (j : Int) : cge ns j = cge ms j := p.countP_eq _
theorem IsCh.perm {ns ms : List Int} {g : Int} (h : IsCh ns g) (p : ns.Perm ms) : IsCh ms g :=
  ⟨h.1, fun k => (h.2 k).trans ⟨fun a j h1 h2 => by rw [← cge_perm p]; exact a j h1 h2, fun a j h1 h2 => by rw [cge_perm p]; exact a j h1 h2⟩⟩
theorem cge_app (ns ms : List Int) (j : Int) : cge (ns ++ ms) j = cge ns j + cge ms j := List.countP_append ..
theorem cge_one (x j : Int) : cge [x] j = if j ≤ x then 1 else 0 := by unfold cge; simp
theorem cge_cons (x : Int) (ns : List Int) (j : Int) : cge (x :: ns) j = cge [x] j + cge ns j := cge_app [x] ns j
theorem cge_len (ns : List Int) (j : Int) : cge ns j ≤ ns.length := List.countP_le_length
theorem IsCh.nil : IsCh [] 0 := ⟨Int.le_refl _, fun k => ⟨fun h j h1 h2 => by omega, fun h => by
  by_cases c : k ≤ 0
  · exact c
  · have := h k (by omega) (Int.le_refl _)
    unfold cge at this
    simp at this⟩⟩
theorem IsCh.snoc {ns : List Int} {g x : Int} (h : IsCh ns g) (hx : ∀ y ∈ ns, y ≤ x) : IsCh (ns ++ [x]) (if x > g then g + 1 else g) := by
  obtain ⟨h0, h⟩ := h
  by_cases c : x > g
  · rw [if_pos c]
    refine ⟨by omega, fun k => ⟨fun hk j h1 h2 => ?_, fun hk => ?_⟩⟩
    · rw [cge_app, cge_one, if_pos (by omega)]
      by_cases e : j ≤ k - 1
      · have := (h (k - 1)).mp (by omega) j h1 e
        omega
      · omega
    · have : Has ns (k - 1) := fun j h1 h2 => by
        have := hk j h1 (by omega)
        rw [cge_app, cge_one] at this
        split at this <;> omega
      have := (h (k - 1)).mpr this
      omega
  · rw [if_neg c]
    refine ⟨h0, fun k => ⟨fun hk j h1 h2 => ?_, fun hk => ?_⟩⟩
    · have := (h k).mp hk j h1 h2
      rw [cge_app]
      omega
    · by_cases e : k ≤ g
      · exact e
      · have := hk.down (show g + 1 ≤ k by omega) (g + 1) (by omega) (Int.le_refl _)
        rw [cge_app, cge_one, if_neg (by omega)] at this
        have z : cge ns (g + 1) = 0 := by
          unfold cge
          refine List.countP_eq_zero.mpr fun y hy => ?_
          have := hx y hy
          simp
          omega
        rw [z] at this
        omega
theorem IsCh.le_len {ns : List Int} {g : Int} (h : IsCh ns g) : g ≤ (ns.length : Int) := by
  by_cases c : g ≤ 0
  · omega
  · have := (h.2 g).mp (Int.le_refl _) 1 (Int.le_refl _) (by omega)
    have z := cge_len ns 1
    omega
/-- more and greater numbers: a longer chain -/
theorem cge_mono {α : Type} {f g : α → Int} : ∀ {l m : List α}, l.Sublist m → (∀ x ∈ l, f x ≤ g x) → ∀ j, cge (l.map f) j ≤ cge (m.map g) j
  | _, _, .slnil, _, j => Nat.le_refl _
  | _, _, .cons a s, h, j => by
    have := cge_mono s h j
    rw [List.map_cons]
    rw [cge_cons]
    omega
  | _, _, .cons₂ a s, h, j => by
    have := cge_mono s (fun x hx => h x (List.mem_cons_of_mem _ hx)) j
    rw [List.map_cons, List.map_cons]
    rw [cge_cons (f a), cge_cons (g a), cge_one, cge_one]
    have := h a List.mem_cons_self
    split <;> split <;> omega
theorem IsCh.mono {α : Type} {f g : α → Int} {l m : List α} {c d : Int} (s : l.Sublist m) (h : ∀ x ∈ l, f x ≤ g x) (hc : IsCh (l.map f) c) (hd : IsCh (m.map g) d) : c ≤ d :=
  (hd.2 c).mpr fun j h1 h2 => by
    have := (hc.2 c).mp (Int.le_refl _) j h1 h2
    have := cge_mono s h j
    omega
/-- a value that is smaller somewhere: a station that shows it -/
theorem cge_less {α : Type} {f g : α → Int} {j : Int} : ∀ {l m : List α}, l.Sublist m → cge (m.map g) j < cge (l.map f) j → ∃ x ∈ l, g x < j ∧ j ≤ f x
  | _, _, .slnil, h => absurd h (Nat.lt_irrefl _)
  | _, _, .cons a s, h => by
    rw [List.map_cons, cge_cons (g a)] at h
    exact cge_less s (by omega)
  | _, _, .cons₂ a s, h => by
    rw [List.map_cons, List.map_cons] at h
    rw [cge_cons (f a), cge_cons (g a), cge_one, cge_one] at h
    by_cases c : g a < j ∧ j ≤ f a
    · exact ⟨a, List.mem_cons_self, c⟩
    · obtain ⟨x, hx, hh⟩ := cge_less (f := f) (g := g) s (j := j) (by split at h <;> split at h <;> omega)
      exact ⟨x, List.mem_cons_of_mem _ hx, hh⟩
/-- a table: each station's number by those of its neighbours; V, N: stations, neighbours -/
def Tab {α : Type} (V : α → Prop) (N : α → List α) (t : α → Int) : Prop := ∀ v, V v → IsCh ((N v).map t) (t v - 1)
/-- tables compared: b's stations are sent into a's, their neighbours (but for the order) among the neighbours there -/
theorem tab_le {α β : Type} {V : α → Prop} {V' : β → Prop} {N : α → List α} {N' : β → List β} {a : α → Int} {b : β → Int} (ha : Tab V N a) (hb : Tab V' N' b) (φ : β → α) (hV : ∀ v, V' v → V (φ v)) (hN' : ∀ v, V' v → ∀ u ∈ N' v, V' u)
    (hN : ∀ v, V' v → ∃ m : List α, m.Perm (N (φ v)) ∧ ((N' v).map φ).Sublist m) : ∀ v, V' v → b v ≤ a (φ v) := by
  have key : ∀ (n : Nat) v, V' v → (a (φ v)).toNat = n → b v ≤ a (φ v) := by
    intro n
    induction n using Nat.strongRecOn with
    | ind n ih =>
      intro v hv hn
      by_cases c : b v ≤ a (φ v)
      · exact c
      · have h1 := ha _ (hV v hv)
        have h2 := hb v hv
        have no : ¬ Has ((N (φ v)).map a) (a (φ v)) := fun z => by
          have := (h1.2 _).mpr z
          omega
        have yes : Has ((N' v).map b) (a (φ v)) := (h2.2 _).mp (by omega)
        obtain ⟨m, hm, hs⟩ := hN v hv
        have : ∃ j : Int, 1 ≤ j ∧ j ≤ a (φ v) ∧ (cge ((N (φ v)).map a) j : Int) < a (φ v) - j + 1 := Classical.byContradiction fun z => no fun j h1 h2 => Classical.byContradiction fun y => z ⟨j, h1, h2, by omega⟩
        obtain ⟨j, hj1, hj2, hlt⟩ := this
        have hy := yes j hj1 hj2
        have hm' : cge ((N (φ v)).map a) j = cge (m.map a) j := (cge_perm (hm.map a) j).symm
        -- as values: b on N' against a along φ
        have : ∃ u ∈ N' v, a (φ u) < j ∧ j ≤ b u := by
          have hlt' : cge (m.map a) j < cge ((N' v).map b) j := by omega
          have sub : cge (((N' v).map φ).map a) j ≤ cge (m.map a) j := by
            have := cge_mono (f := a) (g := a) hs (fun _ _ => Int.le_refl _) j
            exact this
          rw [List.map_map] at sub
          exact cge_less (f := b) (g := a ∘ φ) (List.Sublist.refl (N' v)) (by omega)
        obtain ⟨u, hu, hu1, hu2⟩ := this
        have hvu := hN' v hv u hu
        have := ih (a (φ u)).toNat (by omega) u hvu rfl
        omega
  exact fun v hv => key _ v hv rfl
end NX

namespace NX
open PySem PySem.Spec PyProof.Rows L2
open Evl (Ex ex_l ex_t fresh_back)
/-! ### lists of whole numbers -/
theorem dp_ints {K : PySem.W.Frag} {H : Hp} : ∀ ns : List Int, DpAll K H (ns.map V.int) (ns.map PyData.int)
  | [] => .nil
  | n :: ns => .cons (.int n) (dp_ints ns)
theorem lay_ints : ∀ ns : List Int, PyData.canLayAll0 (ns.map PyData.int) = true
  | [] => by rw [List.map_nil]; unfold PyData.canLayAll0; rfl
  | n :: ns => by
    rw [List.map_cons]
    unfold PyData.canLayAll0
    rw [lay_ints ns]
    simp only [PyData.canLay0, Bool.and_self]
theorem depth_ints : ∀ ns : List Int, PyData.depthAll (ns.map PyData.int) = 0
  | [] => by rw [List.map_nil]; unfold PyData.depthAll; rfl
  | n :: ns => by
    rw [List.map_cons]
    unfold PyData.depthAll
    rw [depth_ints ns]
    simp [PyData.depth]
theorem shaped_ints (ns : List Int) : SeqAt.shaped (.list (ns.map PyData.int)) = true := by
  unfold SeqAt.shaped
  rw [Bool.and_eq_true]
  refine ⟨?_, decide_eq_true ?_⟩
  · simp only [PyData.canLay0]
    exact lay_ints ns
  · simp only [PyData.depth]
    rw [depth_ints]
    omega
theorem shaped_intsT (ns : List Int) : SeqAt.shaped (.tuple (ns.map PyData.int)) = true := by
  unfold SeqAt.shaped
  rw [Bool.and_eq_true]
  refine ⟨?_, decide_eq_true ?_⟩
  · simp only [PyData.canLay0]
    exact lay_ints ns
  · simp only [PyData.depth]
    rw [depth_ints]
    omega
theorem eqvAll_ints : ∀ ns ms : List Int, PyData.eqvAll (ns.map PyData.int) (ms.map PyData.int) = decide (ns = ms)
  | [], [] => by simp [PyData.eqvAll]
  | [], q :: qs => by simp [PyData.eqvAll]
  | p :: ps, [] => by simp [PyData.eqvAll]
  | p :: ps, q :: qs => by
    rw [List.map_cons, List.map_cons, PyData.eqvAll, eqvAll_ints ps qs, Bool.eq_iff_iff]
    simp [PyData.eqv]
theorem eqv_ints (ns ms : List Int) : PyData.eqv (.list (ns.map PyData.int)) (.list (ms.map PyData.int)) = decide (ns = ms) := by
  rw [PyData.eqv]; exact eqvAll_ints ns ms
theorem eqv_intsT (ns ms : List Int) : PyData.eqv (.tuple (ns.map PyData.int)) (.tuple (ms.map PyData.int)) = decide (ns = ms) := by
  rw [PyData.eqv]; exact eqvAll_ints ns ms
section
variable {K : PySem.W.Frag} {G H : Hp} {L : List (Addr × HO)} {p q : Addr} {xs : List V} {v : V} {Q : VK} {ns ms : List Int}
theorem n_neIL (h1 : SqL K H p (ns.map V.int)) (h2 : SqL K H q (ms.map V.int)) (k : Q (.bl (!decide (ns = ms))) H) : rNeD K (.ref p) (.ref q) H Q :=
  ⟨_, _, .lst h1 (dp_ints ns), .lst h2 (dp_ints ms), shaped_ints ns, shaped_ints ms, by rw [eqv_ints]; exact k⟩
theorem n_eqIL (h1 : SqL K H p (ns.map V.int)) (h2 : SqL K H q (ms.map V.int)) (k : Q (.bl (decide (ns = ms))) H) : rEqD K (.ref p) (.ref q) H Q :=
  ⟨_, _, .lst h1 (dp_ints ns), .lst h2 (dp_ints ms), shaped_ints ns, shaped_ints ms, by rw [eqv_ints]; exact k⟩
theorem n_neIT (h1 : SqT K H p (ns.map V.int)) (h2 : SqT K H q (ms.map V.int)) (k : Q (.bl (!decide (ns = ms))) H) : rNeD K (.ref p) (.ref q) H Q :=
  ⟨_, _, .tup h1 (dp_ints ns), .tup h2 (dp_ints ms), shaped_intsT ns, shaped_intsT ms, by rw [eqv_intsT]; exact k⟩
theorem n_eqIT (h1 : SqT K H p (ns.map V.int)) (h2 : SqT K H q (ms.map V.int)) (k : Q (.bl (decide (ns = ms))) H) : rEqD K (.ref p) (.ref q) H Q :=
  ⟨_, _, .tup h1 (dp_ints ns), .tup h2 (dp_ints ms), shaped_intsT ns, shaped_intsT ms, by rw [eqv_intsT]; exact k⟩
/-- sorted(a list of numbers), read from now on -/
theorem n_sortI (S : Own G L H) (h : SqL K H p (ns.map V.int)) (k : ∀ (ms : List Int) q G1 H1, ms.Perm ns → ms.Pairwise (· ≤ ·) → H q = none → Ex G G1 → Ex H H1 → G1 q = some (.lst (ms.map V.int)) → Own G1 L H1 → Q (.ref q) H1) : rSortedI K [.ref p] H Q :=
  ⟨p, ns, rfl, h, fun ms q h1 h2 hq => k ms q _ _ h1 h2 hq (S.still hq).2.1 (Ex.new hq) (S.still hq).2.2 (S.still hq).1⟩
/-! ### results that are new -/
def Ret (o : HO) (H : Hp) (Q : VK) : Prop := ∀ p H', H p = none → Ex H H' → H' p = some o → Q (.ref p) H'
theorem n_retO {o : HO} (S : Own G L H) (ht : noTup o = true) (k : ∀ p H1, H p = none → Ex H H1 → Own G ((p, o) :: L) H1 → Q (.ref p) H1) : Ret o H Q :=
  fun p H' hp e h => k p H' hp e (S.new e hp h ht)
theorem n_retG {o : HO} (S : Own G L H) (k : ∀ p G1 H1, H p = none → Ex G G1 → Ex H H1 → G1 p = some o → Own G1 L H1 → Q (.ref p) H1) : Ret o H Q :=
  fun p H' hp e h => by
    obtain ⟨S1, e1, e2⟩ := S.absorb e
    exact k p _ H' hp e1 e (e2 _ _ ((nw_new hp).trans h)) S1
theorem Own.pure (S : Own G [] H) : Ex G H := S.ex
end
/-- what stood still may be changed from now on -/
theorem Own.thaw {G H : Hp} {L : List (Addr × HO)} {p : Addr} {o : HO} (S : Own G L H) (h : G p = some o) (ht : noTup o = true := by rfl) : Own (cut G [(p, o)]) ((p, o) :: L) H ∧ ∀ a u, a ≠ p → G a = some u → cut G [(p, o)] a = some u :=
  ⟨⟨fun a u e => by
      by_cases m : a ∈ ([(p, o)] : List (Addr × HO)).map Prod.fst
      · rw [cut_in m] at e; cases e
      · rw [cut_out m] at e; exact S.ex _ _ e, fun x hx => by
      rcases List.mem_cons.mp hx with rfl | hx
      · exact ⟨cut_in (by simp), S.ex _ _ h⟩
      · have z := S.at_ x hx
        refine ⟨?_, z.2⟩
        have ne : x.1 ≠ p := fun e => by rw [e, h] at z; cases z.1
        rw [cut_out (by simpa using ne)]
        exact z.1, by
      rw [List.map_cons, List.nodup_cons]
      refine ⟨fun m => ?_, S.nd⟩
      obtain ⟨x, hx, e⟩ := List.mem_map.mp m
      have z := (S.at_ x hx).1
      rw [e, h] at z
      exact (nomatch z), fun x hx => by
      rcases List.mem_cons.mp hx with rfl | hx
      · exact ht
      · exact S.nt x hx⟩, fun a u ne e => by rw [cut_out (by simpa using ne)]; exact e⟩
/-! ### one number of a list -/
def tv (t : List Int) (j : Int) : Int := t.getD j.toNat 0
theorem tv_nat (t : List Int) (i : Nat) : tv t (i : Int) = t.getD i 0 := by unfold tv; rw [Int.toNat_natCast]
theorem tv_get {t : List Int} {i : Nat} {x : Int} (h : t[i]? = some x) : tv t (i : Int) = x := by rw [tv_nat, List.getD_eq_getElem?_getD, h] <;> rfl
theorem get_tv {t : List Int} {i : Nat} (h : i < t.length) : t[i]? = some (tv t (i : Int)) := by
  rw [tv_nat, List.getD_eq_getElem?_getD, List.getElem?_eq_getElem h] <;> rfl
theorem at_tv {t : List Int} {j : Int} (h0 : 0 ≤ j) (h : j < (t.length : Int)) : atI (t.map V.int) j = some (.int (tv t j)) := by
  obtain ⟨i, rfl⟩ : ∃ i : Nat, j = (i : Int) := ⟨j.toNat, by omega⟩
  exact atI_nat (by rw [List.getElem?_map, get_tv (by omega)] <;> rfl)
theorem tv_app1 {t : List Int} {x : Int} {j : Int} (h : j < (t.length : Int)) (h0 : 0 ≤ j) : tv (t ++ [x]) j = tv t j := by
  unfold tv
  rw [List.getD_eq_getElem?_getD, List.getD_eq_getElem?_getD, List.getElem?_append_left (by omega)]
theorem tv_app2 {t : List Int} {x : Int} : tv (t ++ [x]) (t.length : Int) = x := tv_get (by simp)
theorem tv_ext {s t : List Int} (hl : s.length = t.length) (h : ∀ i : Nat, i < s.length → tv s (i : Int) = tv t (i : Int)) : s = t := by
  refine List.ext_getElem? fun i => ?_
  by_cases c : i < s.length
  · rw [get_tv c, get_tv (by omega), h i c]
  · rw [List.getElem?_eq_none (by omega), List.getElem?_eq_none (by omega)]
theorem tv_out {t : List Int} {j : Int} (h : (t.length : Int) ≤ j) : tv t j = 0 := by
  unfold tv
  rw [List.getD_eq_getElem?_getD, List.getElem?_eq_none (by omega)] <;> rfl
theorem tv_cons (x : Int) (t : List Int) (i : Nat) : tv (x :: t) ((i + 1 : Nat) : Int) = tv t (i : Int) := by
  rw [tv_nat, tv_nat] <;> rfl
theorem tv_zero (x : Int) (t : List Int) : tv (x :: t) 0 = x := rfl
theorem sum_le : ∀ {s t : List Int}, s.length = t.length → (∀ i : Nat, i < s.length → tv s (i : Int) ≤ tv t (i : Int)) → s.sum ≤ t.sum ∧ (s ≠ t → s.sum < t.sum)
  | [], [], _, _ => ⟨Int.le_refl _, fun h => absurd rfl h⟩
  | [], _ :: _, h, _ => absurd h (by simp)
  | _ :: _, [], h, _ => absurd h (by simp)
  | a :: s, b :: t, hl, h => by
    have ih := sum_le (s := s) (t := t) (by simpa using hl) fun i hi => by
      have := h (i + 1) (by simp; omega)
      rw [tv_cons, tv_cons] at this
      exact this
    have h0 := h 0 (by simp)
    have h0 : a ≤ b := h0
    rw [List.sum_cons, List.sum_cons]
    refine ⟨by omega, fun ne => ?_⟩
    by_cases c : s = t
    · have : a ≠ b := fun e => ne (by rw [e, c])
      have := ih.1
      omega
    · have := ih.2 c
      omega
theorem sum_nn : ∀ {s : List Int}, (∀ i : Nat, i < s.length → 0 ≤ tv s (i : Int)) → 0 ≤ s.sum
  | [], _ => Int.le_refl _
  | a :: s, h => by
    have ih := sum_nn (s := s) fun i hi => by
      have := h (i + 1) (by simp; omega)
      rw [tv_cons] at this
      exact this
    have h0 : 0 ≤ a := h 0 (by simp)
    rw [List.sum_cons]
    omega
theorem rep_flat (m : Nat) (x : V) : (List.replicate m [x]).flatten = List.replicate m x := by
  induction m with
  | zero => rfl
  | succ m ih => rw [List.replicate_succ, List.flatten_cons, ih, List.replicate_succ] <;> rfl
theorem tv_rep {m i : Nat} {x : Int} (h : i < m) : tv (List.replicate m x) (i : Int) = x := tv_get (by rw [List.getElem?_replicate, if_pos h])
/-- [x] * m -/
theorem n_rep {H G : Hp} {L : List (Addr × HO)} {p : Addr} {x : Int} {m : Int} {Q : VK} (S : Own G ((p, .lst [.int x]) :: L) H) (h0 : 0 ≤ m) (hz : m ≤ 100000) (k : ∀ q G1 H1, H q = none → Ex G G1 → Ex H H1 → G1 q = some (.lst ((List.replicate m.toNat x).map V.int)) → Own G1 L H1 → Q (.ref q) H1) : rRep (.ref p) (.int m) H Q :=
  ⟨p, m, _, rfl, rfl, S.get0, by omega, by omega, small (by simp; omega), fun q hq => by
    have T := S.forget.still (o := .lst (List.replicate m.toNat [V.int x]).flatten) hq
    refine k q _ _ hq T.2.1 (Ex.new hq) ?_ T.1
    rw [T.2.2, rep_flat, List.map_replicate]⟩
end NX

namespace NX
open PySem PySem.Spec PyProof.Rows L2
open Evl (Ex ex_l ex_t fresh_back)
/-! ### lists of pairs of numbers -/
def isPr (H : Hp) (x : V) (q : Int × Int) : Prop := ∃ t, x = .ref t ∧ H t = some (.tup [.int q.1, .int q.2])
abbrev Lks (H : Hp) : List V → List (Int × Int) → Prop := Paired (isPr H)
theorem Lks.mono {G H : Hp} (e : Ex G H) {xs : List V} {ps : List (Int × Int)} (h : Lks G xs ps) : Lks H xs ps := Paired.mapP h fun _ _ ⟨t, a, b⟩ => ⟨t, a, e _ _ b⟩
theorem pr_snoc {α β : Type} {F : α → β → Prop} : ∀ {xs : List α} {ys : List β} {a : α} {b : β}, Paired F xs ys → F a b → Paired F (xs ++ [a]) (ys ++ [b])
  | _, _, _, _, .nil, h => .cons h .nil
  | _, _, _, _, .cons r t, h => .cons r (pr_snoc t h)
theorem pr_len {α β : Type} {F : α → β → Prop} {xs : List α} {ys : List β} (h : Paired F xs ys) : xs.length = ys.length := Paired.length h
theorem pr_get {α β : Type} {F : α → β → Prop} : ∀ {xs : List α} {ys : List β} {i : Nat} {a : α}, Paired F xs ys → xs[i]? = some a → ∃ b, ys[i]? = some b ∧ F a b
  | _, _, _, _, .nil, e => by simp at e
  | _, _, 0, _, .cons r _, e => by simp at e; subst e; exact ⟨_, rfl, r⟩
  | _, _, i + 1, _, .cons _ t, e => by
    obtain ⟨b, h1, h2⟩ := pr_get (i := i) t (by simpa using e)
    exact ⟨b, by simpa using h1, h2⟩
theorem take_snoc {α : Type} : ∀ {l : List α} {i : Nat} {x : α}, l[i]? = some x → l.take (i + 1) = l.take i ++ [x]
  | [], i, x, h => by simp at h
  | a :: l, 0, x, h => by
    have e : a = x := Option.some.inj h
    subst e
    rfl
  | a :: l, i + 1, x, h => by
    have ih := take_snoc (l := l) (i := i) (x := x) h
    show a :: l.take (i + 1) = a :: l.take i ++ [x]
    rw [ih]
    rfl
theorem get_map {α β : Type} {f : α → β} {l : List α} {i : Nat} {y : β} (h : (l.map f)[i]? = some y) : ∃ x, l[i]? = some x ∧ y = f x := by
  rw [List.getElem?_map] at h
  cases e : l[i]? with
  | none => rw [e] at h; cases h
  | some x => rw [e] at h; exact ⟨x, rfl, (Option.some.inj h).symm⟩
/-- range(a, b) -/
def rgI (a b : Int) : List Int := (List.range (b - a).toNat).map fun (i : Nat) => a + (i : Int)
theorem rgV_eq (a b : Int) : rgV a b = (rgI a b).map V.int := by
  unfold rgV rgI
  rw [List.map_map]
  rfl
theorem mem_rgI {a b k : Int} (h : k ∈ rgI a b) : a ≤ k ∧ k < b := by
  obtain ⟨i, hi, rfl⟩ := List.mem_map.mp h
  have := List.mem_range.mp hi
  omega
theorem pr_app {α β : Type} {F : α → β → Prop} : ∀ {xs xs' : List α} {ys ys' : List β}, Paired F xs ys → Paired F xs' ys' → Paired F (xs ++ xs') (ys ++ ys')
  | _, _, _, _, .nil, h => h
  | _, _, _, _, .cons r t, h => .cons r (pr_app t h)
end NX

/-! pairs in order; neighbours: plain Lean -/
namespace NX
abbrev Pr := Int × Int
def leP (x y : Pr) : Bool := decide (x.1 < y.1 ∨ (x.1 = y.1 ∧ x.2 ≤ y.2))
theorem leP_iff {x y : Pr} : leP x y = true ↔ (x.1 < y.1 ∨ (x.1 = y.1 ∧ x.2 ≤ y.2)) := by unfold leP; exact decide_eq_true_iff
theorem leP_total (x y : Pr) : leP x y = true ∨ leP y x = true := by
  rw [leP_iff, leP_iff]; omega
theorem leP_anti {x y : Pr} (h : leP x y = true) (h' : leP y x = true) : x = y := by
  rw [leP_iff] at h h'
  obtain ⟨a, b⟩ := x; obtain ⟨c, d⟩ := y
  simp only at h h'
  have h1 : a = c := by omega
  have h2 : b = d := by omega
  rw [h1, h2]
theorem leP_trans {x y z : Pr} (h : leP x y = true) (h' : leP y z = true) : leP x z = true := by
  rw [leP_iff] at *; omega
def insP (x : Pr) : List Pr → List Pr
  | [] => [x]
  | y :: l => if leP x y then x :: y :: l else y :: insP x l
def sortP : List Pr → List Pr
  | [] => []
  | x :: l => insP x (sortP l)
theorem insP_perm (x : Pr) : ∀ l, (insP x l).Perm (x :: l)
  | [] => List.Perm.refl _
  | y :: l => by
    unfold insP
    split
    · exact List.Perm.refl _
    · exact ((insP_perm x l).cons y).trans (List.Perm.swap x y l)
theorem sortP_perm : ∀ l, (sortP l).Perm l
  | [] => List.Perm.refl _
  | x :: l => (insP_perm x _).trans ((sortP_perm l).cons x)
abbrev Up (l : List Pr) : Prop := l.Pairwise fun x y => leP x y = true
theorem insP_up (x : Pr) : ∀ l, Up l → Up (insP x l)
  | [], _ => List.pairwise_singleton _ _
  | y :: l, h => by
    unfold insP
    split
    · rename_i c
      refine List.pairwise_cons.mpr ⟨fun z hz => ?_, h⟩
      rcases List.mem_cons.mp hz with rfl | hz
      · exact c
      · exact leP_trans c ((List.pairwise_cons.mp h).1 z hz)
    · rename_i c
      have c' : leP y x = true := (leP_total x y).resolve_left c
      refine List.pairwise_cons.mpr ⟨fun z hz => ?_, insP_up x l (List.pairwise_cons.mp h).2⟩
      rcases List.mem_cons.mp ((insP_perm x l).mem_iff.mp hz) with rfl | hz
      · exact c'
      · exact (List.pairwise_cons.mp h).1 z hz
theorem sortP_up : ∀ l, Up (sortP l)
  | [] => List.Pairwise.nil
  | x :: l => insP_up x _ (sortP_up l)
theorem up_uniq : ∀ {l m : List Pr}, Up l → Up m → l.Perm m → l = m
  | [], m, _, _, h => (List.Perm.nil_eq h)
  | x :: l, [], _, _, h => absurd h.length_eq (by simp)
  | x :: l, y :: m, hl, hm, h => by
    have hx : x ∈ y :: m := h.mem_iff.mp List.mem_cons_self
    have hy : y ∈ x :: l := h.mem_iff.mpr List.mem_cons_self
    have e : x = y := by
      rcases List.mem_cons.mp hx with e | hx
      · exact e
      · rcases List.mem_cons.mp hy with e | hy
        · exact e.symm
        · exact leP_anti ((List.pairwise_cons.mp hl).1 y hy) ((List.pairwise_cons.mp hm).1 x hx)
    subst e
    rw [up_uniq (List.pairwise_cons.mp hl).2 (List.pairwise_cons.mp hm).2 h.cons_inv]
theorem sortP_eq {l m : List Pr} (h : Up l) (p : l.Perm m) : l = sortP m := up_uniq h (sortP_up m) (p.trans (sortP_perm m).symm)
theorem sortP_congr {l m : List Pr} (p : l.Perm m) : sortP l = sortP m := up_uniq (sortP_up l) (sortP_up m) (((sortP_perm l).trans p).trans (sortP_perm m).symm)
theorem sortP_id {l : List Pr} (h : Up l) : sortP l = l := (sortP_eq h (List.Perm.refl l)).symm
theorem sortP_len (l : List Pr) : (sortP l).length = l.length := (sortP_perm l).length_eq
theorem mem_sortP {l : List Pr} {q : Pr} : q ∈ sortP l ↔ q ∈ l := (sortP_perm l).mem_iff
/-- the neighbours of i, in the order of the links -/
def nb (ks : List Pr) (i : Int) : List Int := ks.filterMap fun q => if q.1 = i then some q.2 else if q.2 = i then some q.1 else none
theorem nb_app (ks ls : List Pr) (i : Int) : nb (ks ++ ls) i = nb ks i ++ nb ls i := by unfold nb; rw [List.filterMap_append]
theorem nb_one (q : Pr) (i : Int) : nb [q] i = if q.1 = i then [q.2] else if q.2 = i then [q.1] else [] := by
  show (([q] : List Pr).filterMap fun q => if q.1 = i then some q.2 else if q.2 = i then some q.1 else none) = _
  rw [List.filterMap_cons]
  by_cases h : q.1 = i
  · simp [h]
  · by_cases h2 : q.2 = i
    · simp [h, h2]
    · simp [h, h2]
theorem mem_nb {ks : List Pr} {i j : Int} : j ∈ nb ks i ↔ (i, j) ∈ ks ∨ (j, i) ∈ ks ∧ j ≠ i := by
  unfold nb
  rw [List.mem_filterMap]
  constructor
  · rintro ⟨⟨a, b⟩, hq, h⟩
    simp only at h
    by_cases h1 : a = i
    · rw [if_pos h1] at h
      cases h
      subst h1
      exact .inl hq
    · rw [if_neg h1] at h
      by_cases h2 : b = i
      · rw [if_pos h2] at h
        cases h
        subst h2
        exact .inr ⟨hq, h1⟩
      · rw [if_neg h2] at h
        cases h
  · rintro (h | ⟨h, ne⟩)
    · exact ⟨(i, j), h, by simp⟩
    · exact ⟨(j, i), h, by simp [ne]⟩
/-- a network's links: each the smaller station first -/
def Okl (n : Nat) (ks : List Pr) : Prop := ∀ q ∈ ks, 0 ≤ q.1 ∧ q.1 < q.2 ∧ q.2 < (n : Int)
theorem mem_nb' {n : Nat} {ks : List Pr} (h : Okl n ks) {i j : Int} : j ∈ nb ks i ↔ (i, j) ∈ ks ∨ (j, i) ∈ ks := by
  rw [mem_nb]
  constructor
  · rintro (a | a)
    · exact .inl a
    · exact .inr a.1
  · rintro (a | a)
    · exact .inl a
    · exact .inr ⟨a, by have := h _ a; simp only at this; omega⟩
theorem nb_sym {n : Nat} {ks : List Pr} (h : Okl n ks) {i j : Int} : j ∈ nb ks i ↔ i ∈ nb ks j := by
  rw [mem_nb' h, mem_nb' h]
  exact ⟨fun a => a.symm, fun a => a.symm⟩
theorem nb_rng {n : Nat} {ks : List Pr} (h : Okl n ks) {i j : Int} (m : j ∈ nb ks i) : 0 ≤ j ∧ j < n ∧ j ≠ i ∧ 0 ≤ i ∧ i < n := by
  rw [mem_nb' h] at m
  rcases m with m | m
  · have := h _ m; simp only at this; omega
  · have := h _ m; simp only at this; omega
theorem Okl.sort {n : Nat} {ks : List Pr} (h : Okl n ks) : Okl n (sortP ks) := fun q hq => h q (mem_sortP.mp hq)
/-- the neighbours of a sorted list of links are in ascending order -/
theorem nb_up {n : Nat} : ∀ {ks : List Pr}, Okl n ks → Up ks → ks.Nodup → ∀ i, (nb ks i).Pairwise (· < ·)
  | [], _, _, _, _ => List.Pairwise.nil
  | q :: ks, h, u, d, i => by
    have h' : Okl n ks := fun q hq => h q (List.mem_cons_of_mem _ hq)
    have u' := List.pairwise_cons.mp u
    have d' := List.nodup_cons.mp d
    have ih := nb_up h' u'.2 d'.2 i
    have e : nb (q :: ks) i = nb [q] i ++ nb ks i := nb_app [q] ks i
    rw [e, nb_one]
    have hq := h q List.mem_cons_self
    obtain ⟨a, b⟩ := q
    simp only at hq ⊢
    by_cases h1 : a = i
    · rw [if_pos h1]
      refine List.pairwise_cons.mpr ⟨fun z hz => ?_, ih⟩
      subst h1
      rcases (mem_nb' h').mp hz with m | m
      · have c := leP_iff.mp (u'.1 _ m)
        simp only at c
        have ne : b ≠ z := fun z' => by subst z'; exact d'.1 m
        omega
      · have c := leP_iff.mp (u'.1 _ m)
        have c2 := h' _ m
        simp only at c c2
        omega
    · rw [if_neg h1]
      by_cases h2 : b = i
      · rw [if_pos h2]
        refine List.pairwise_cons.mpr ⟨fun z hz => ?_, ih⟩
        subst h2
        rcases (mem_nb' h').mp hz with m | m
        · have c := h' _ m
          have c2 := leP_iff.mp (u'.1 _ m)
          simp only at c c2
          omega
        · have c := leP_iff.mp (u'.1 _ m)
          simp only at c
          have ne : a ≠ z := fun z' => by subst z'; exact d'.1 m
          omega
      · rw [if_neg h2]
        exact ih
theorem nb_nodup {n : Nat} {ks : List Pr} (h : Okl n ks) (u : Up ks) (d : ks.Nodup) (i : Int) : (nb ks i).Nodup :=
  (nb_up h u d i).imp fun {a b} (c : a < b) => by omega
/-- not more neighbours than stations -/
theorem up_len : ∀ {l : List Int} {lo hi : Int}, l.Pairwise (· < ·) → (∀ x ∈ l, lo ≤ x ∧ x < hi) → l = [] ∨ (l.length : Int) ≤ hi - lo
  | [], _, _, _, _ => .inl rfl
  | x :: l, lo, hi, h, b => by
    have h' := List.pairwise_cons.mp h
    have bx := b x List.mem_cons_self
    refine .inr ?_
    rcases up_len (lo := x + 1) (hi := hi) h'.2 (fun y hy => ⟨by have := h'.1 y hy; omega, (b y (List.mem_cons_of_mem _ hy)).2⟩) with e | e
    · subst e
      show ((0 + 1 : Nat) : Int) ≤ _
      omega
    · rw [List.length_cons]
      omega
theorem I_len {n : Nat} {ks : List Pr} (h : Okl n ks) (u : Up ks) (d : ks.Nodup) (i : Int) : (nb ks i).length ≤ n := by
  rcases up_len (lo := 0) (hi := (n : Int)) (nb_up h u d i) (fun x hx => by have := nb_rng h hx; omega) with e | e
  · rw [e]; exact Nat.zero_le _
  · omega
end NX

namespace NX
open PySem PySem.Spec PyProof.Rows L2
open Evl (Ex ex_l ex_t fresh_back)
/-! ### pairs as data -/
def pd (q : Pr) : PyData := .tuple [.int q.1, .int q.2]
theorem dp_pr {K : PySem.W.Frag} {H : Hp} {x : V} {q : Pr} (h : isPr H x q) : Dp K H x (pd q) := by
  obtain ⟨t, rfl, ht⟩ := h
  exact .tup (SqT.of ht) (.cons (.int _) (.cons (.int _) .nil))
theorem dp_lks {K : PySem.W.Frag} {H : Hp} : ∀ {xs : List V} {ps : List Pr}, Lks H xs ps → DpAll K H xs (ps.map pd)
  | _, _, .nil => .nil
  | _, _, .cons r t => .cons (dp_pr r) (dp_lks t)
theorem lay_lks : ∀ ps : List Pr, PyData.canLayAll0 (ps.map pd) = true
  | [] => by rw [List.map_nil]; unfold PyData.canLayAll0; rfl
  | q :: ps => by
    rw [List.map_cons]
    unfold PyData.canLayAll0
    rw [lay_lks ps]
    show (PyData.canLay0 (.tuple [.int q.1, .int q.2]) && true) = true
    simp only [PyData.canLay0, PyData.canLayAll0, Bool.and_self]
theorem depth_lks : ∀ ps : List Pr, PyData.depthAll (ps.map pd) ≤ 1
  | [] => by rw [List.map_nil]; unfold PyData.depthAll; omega
  | q :: ps => by
    rw [List.map_cons]
    unfold PyData.depthAll
    have h := depth_lks ps
    have e : PyData.depth (pd q) = 1 := by
      show PyData.depth (.tuple [.int q.1, .int q.2]) = 1
      simp [PyData.depth, PyData.depthAll]
    rw [e]
    omega
theorem shaped_lks (ps : List Pr) : SeqAt.shaped (.list (ps.map pd)) = true := by
  unfold SeqAt.shaped
  have h := depth_lks ps
  rw [Bool.and_eq_true]
  refine ⟨?_, decide_eq_true ?_⟩
  · simp only [PyData.canLay0]
    exact lay_lks ps
  · simp only [PyData.depth]
    omega
theorem shaped_pd (q : Pr) : SeqAt.shaped (pd q) = true := by
  unfold SeqAt.shaped pd
  simp [PyData.canLay0, PyData.canLayAll0, PyData.depth, PyData.depthAll]
theorem eqv_pd (z q : Pr) : PyData.eqv (pd z) (pd q) = decide (z = q) := by
  unfold pd
  simp only [PyData.eqv, PyData.eqvAll, Bool.and_true]
  obtain ⟨a, b⟩ := z; obtain ⟨c, d⟩ := q
  rw [Bool.eq_iff_iff]
  simp
theorem any_pd (ps : List Pr) (q : Pr) : ((ps.map pd).any fun z => PyData.eqv z (pd q)) = decide (q ∈ ps) := by
  rw [List.any_map, Bool.eq_iff_iff, List.any_eq_true]
  simp only [Function.comp, eqv_pd, decide_eq_true_eq]
  exact ⟨fun ⟨x, hx, e⟩ => e ▸ hx, fun h => ⟨q, h, rfl⟩⟩
theorem eqvAll_lks : ∀ ps qs : List Pr, PyData.eqvAll (ps.map pd) (qs.map pd) = decide (ps = qs)
  | [], [] => by simp [PyData.eqvAll]
  | [], q :: qs => by simp [PyData.eqvAll]
  | p :: ps, [] => by simp [PyData.eqvAll]
  | p :: ps, q :: qs => by
    rw [List.map_cons, List.map_cons, PyData.eqvAll, eqv_pd, eqvAll_lks ps qs, Bool.eq_iff_iff]
    simp
theorem eqv_lks (ps qs : List Pr) : PyData.eqv (.list (ps.map pd)) (.list (qs.map pd)) = decide (ps = qs) := by
  rw [PyData.eqv]; exact eqvAll_lks ps qs
/-- the pair that a tuple holds -/
def kOf (H : Hp) (x : V) : Pr := match x with
  | .ref t => (match H t with
    | some (.tup [.int i, .int j]) => (i, j)
    | _ => (0, 0))
  | _ => (0, 0)
theorem kOf_pr {H : Hp} {x : V} {q : Pr} (h : isPr H x q) : kOf H x = q := by
  obtain ⟨t, rfl, ht⟩ := h
  unfold kOf
  simp only [ht]
theorem lks_k {H : Hp} : ∀ {xs : List V} {ps : List Pr}, Lks H xs ps → xs.map (kOf H) = ps ∧ ∀ x ∈ xs, isPr H x (kOf H x)
  | _, _, .nil => ⟨rfl, fun _ h => nomatch h⟩
  | _, _, .cons r t => by
    obtain ⟨h1, h2⟩ := lks_k t
    refine ⟨by rw [List.map_cons, kOf_pr r, h1], fun x hx => ?_⟩
    rcases List.mem_cons.mp hx with rfl | hx
    · rw [kOf_pr r]; exact r
    · exact h2 x hx
theorem lks_of {H : Hp} : ∀ {ys : List V}, (∀ x ∈ ys, isPr H x (kOf H x)) → Lks H ys (ys.map (kOf H))
  | [], _ => .nil
  | y :: ys, h => .cons (h y List.mem_cons_self) (lks_of fun x hx => h x (List.mem_cons_of_mem _ hx))
/-- sorted(links) -/
theorem n_sortP {K : PySem.W.Frag} {G H : Hp} {L : List (Addr × HO)} {a : Addr} {xs : List V} {ps : List Pr} {Q : VK} {G0 : Hp} (S : Own G L H) (hx : SqL K H a xs) (e0 : Ex G0 H) (hl : Lks G0 xs ps)
    (k : ∀ p ys G1 H1, H p = none → Ex G G1 → Ex H H1 → G1 p = some (.lst ys) → Lks G0 ys (sortP ps) → Own G1 L H1 → Q (.ref p) H1) : rSortedPO K [.ref a] H Q := by
  obtain ⟨h1, h2⟩ := lks_k hl
  refine ⟨a, xs, kOf G0, rfl, hx, fun x m => ?_, fun ys p hs hb hp => ?_⟩
  · obtain ⟨t, e, ht⟩ := h2 x m
    exact ⟨t, e, e0 _ _ ht⟩
  · have hy : Lks G0 ys (ys.map (kOf G0)) := lks_of fun x m => h2 x (hb.perm.mem_iff.mp m)
    have e : ys.map (kOf G0) = sortP ps := by
      refine sortP_eq ?_ ?_
      · refine List.pairwise_map.mpr (hs.imp fun {x y} (c : ltP (kOf G0) y x = false) => ?_)
        have z := SrtO.lexB_no.mp c
        rw [leP_iff]
        omega
      · rw [← h1]
        exact hb.perm.map _
    rw [e] at hy
    exact k p ys _ _ hp (S.still hp).2.1 (Ex.new hp) (S.still hp).2.2 hy (S.still hp).1
/-! ### a network in the heap -/
def NF (kp np : Addr) : List (Str × V) := putF "near" (.ref np) (putF "kept" (.ref kp) [])
theorem nf_near (kp np : Addr) : (NF kp np).lookup ("near" : Str) = some (.ref np) := by unfold NF; rw [lookup_putF, if_pos rfl]
theorem nf_kept (kp np : Addr) : (NF kp np).lookup ("kept" : Str) = some (.ref kp) := by
  unfold NF
  rw [lookup_putF, if_neg (by decide +kernel), lookup_putF, if_pos rfl]
theorem nf_no (kp np : Addr) {m : Str} (h1 : ¬ m = "near") (h2 : ¬ m = "kept") : (NF kp np).lookup m = none := by
  unfold NF
  rw [lookup_putF, if_neg h1, lookup_putF, if_neg h2]
  all_goals rfl
/-- what stands at a network's addresses -/
structure NetO (C : Addr) (H : Hp) (a : Addr) (dx kp np : Addr) (xs : List V) (nps : List Addr) (n : Nat) (ks : List Pr) : Prop where
  ins : H a = some (.ins C dx (NF kp np))
  kept : H kp = some (.lst xs)
  lks : Lks H xs ks
  near : H np = some (.lst (nps.map V.ref))
  len : nps.length = n
  each : ∀ (i : Nat) (p : Addr), nps[i]? = some p → H p = some (.lst ((nb ks (i : Int)).map V.int))
structure NetAt (C : Addr) (H : Hp) (a : Addr) (n : Nat) (ks : List Pr) : Prop where
  at_ : ∃ dx kp np xs nps, NetO C H a dx kp np xs nps n ks
  ok : Okl n ks
  up : Up ks
  nd : ks.Nodup
  sz : 1 ≤ n ∧ n ≤ 60
theorem NetO.mono {C : Addr} {G H : Hp} {a dx kp np : Addr} {xs : List V} {nps : List Addr} {n : Nat} {ks : List Pr} (h : NetO C G a dx kp np xs nps n ks) (e : Ex G H) : NetO C H a dx kp np xs nps n ks :=
  ⟨e _ _ h.ins, e _ _ h.kept, h.lks.mono e, e _ _ h.near, h.len, fun i p q => e _ _ (h.each i p q)⟩
theorem NetAt.mono {C : Addr} {G H : Hp} {a : Addr} {n : Nat} {ks : List Pr} (h : NetAt C G a n ks) (e : Ex G H) : NetAt C H a n ks :=
  ⟨let ⟨dx, kp, np, xs, nps, o⟩ := h.at_; ⟨dx, kp, np, xs, nps, o.mono e⟩, h.ok, h.up, h.nd, h.sz⟩
/-- what the text says of the class -/
structure NetC (K : PySem.W.Frag) (C : Addr) : Prop where
  cl : Cls K C
  nK : NoAttr K C "kept"
  nN : NoAttr K C "near"
  ha : PySem.W.findIn K (.ref C) "__class__" = some (some (.builtin "object.__class__"))
  hn : PySem.W.specialIn K (.builtin "object.__class__") "__get__" = some (some (.builtin "getset_descriptor.__get__"))
  ht : PySem.W.takesIn K (.builtin "object.__class__") = some true
  hm : PySem.W.mroIn K C (.type "object") = some true
  kit : PySem.W.kitOne K (.ref C) (.ref C) = some true
  ne : PySem.W.findIn K (.ref C) "__ne__" = some (some (.builtin "object.__ne__"))
end NX

namespace NX
open PySem PySem.Spec PyProof.Rows L2
open Evl (Ex ex_l ex_t fresh_back)
/-- a well of draws -/
def wl (a b c : Int) : HO := .lst [.int a, .int b, .int c]
theorem n_setLi {H : Hp} {W : Addr} {xs : List V} {i : Int} {j : Nat} {v : V} {Q : Hp → Prop} (h : H W = some (.lst xs)) (hi : ixN xs.length i = some j) (k : Q (upd H W (.lst (xs.set j v)))) : rSetL (.ref W) (.int i) v H Q := ⟨W, xs, i, j, rfl, rfl, h, hi, k⟩
theorem mod_rng {a m : Int} (h : 0 < m) : 0 ≤ a % m ∧ a % m < m := ⟨Int.emod_nonneg a (by omega), Int.emod_lt_of_pos a h⟩
theorem Own.weak {G G' H : Hp} {L : List (Addr × HO)} (e : Ex G G') (S : Own G' L H) : Own G L H := ⟨e.trans S.ex, fun p hp => ⟨fresh_back e (S.at_ p hp).1, (S.at_ p hp).2⟩, S.nd, S.nt⟩
/-- xs.pop(i) -/
theorem n_popAt {G H : Hp} {L : List (Addr × HO)} {p : Addr} {xs : List V} {i : Int} {Q : VK} (S : Own G ((p, .lst xs) :: L) H) (h0 : 0 ≤ i) (h1 : i < (xs.length : Int)) (hz : xs.length ≤ 1000000)
    (k : ∀ y H1, xs[i.toNat]? = some y → Own G ((p, .lst (xs.eraseIdx i.toNat)) :: L) H1 → Q y H1) : rPopAt (.ref p) [.int i] H Q := by
  have hl : i.toNat < xs.length := by omega
  have hy : xs[i.toNat]? = some xs[i.toNat] := List.getElem?_eq_getElem hl
  refine ⟨p, xs, i, i.toNat, _, rfl, rfl, S.get0, by omega, by omega, ?_, hy, k _ _ hy S.put0⟩
  unfold seqIndex?
  have h3 : ¬ i < 0 := by omega
  simp [h3, h1]
  try omega
/-- a list whose items are data: for == and != -/
def DataOk (K : PySem.W.Frag) (G : Hp) (xs : List V) : Prop := ∀ H, Ex G H → ∀ ys : List V, (∀ y ∈ ys, y ∈ xs) → ∃ ds, DpAll K H ys ds ∧ SeqAt.shaped (.list ds) = true ∧ ds.length = ys.length
theorem ints_of_sub {ns : List Int} : ∀ {ys : List V}, (∀ y ∈ ys, y ∈ ns.map V.int) → ∃ ms : List Int, ys = ms.map V.int
  | [], _ => ⟨[], rfl⟩
  | y :: ys, h => by
    obtain ⟨ms, rfl⟩ := ints_of_sub (ys := ys) fun y hy => h y (List.mem_cons_of_mem _ hy)
    obtain ⟨m, _, rfl⟩ := List.mem_map.mp (h y List.mem_cons_self)
    exact ⟨m :: ms, rfl⟩
theorem data_ints (K : PySem.W.Frag) (G : Hp) (ns : List Int) : DataOk K G (ns.map V.int) := fun H _ ys h => by
  obtain ⟨ms, rfl⟩ := ints_of_sub h
  exact ⟨_, dp_ints ms, shaped_ints ms, by simp⟩
theorem data_lks {K : PySem.W.Frag} {G : Hp} {xs : List V} {ps : List Pr} (h : Lks G xs ps) : DataOk K G xs := fun H e ys hy => by
  have z : Lks G ys (ys.map (kOf G)) := lks_of fun x hx => (lks_k h).2 x (hy x hx)
  exact ⟨_, dp_lks (z.mono e), shaped_lks _, by simp⟩
theorem eqv_nil (ds : List PyData) : PyData.eqv (.list ds) (.list []) = decide (ds = []) := by
  cases ds with
  | nil => simp [PyData.eqv, PyData.eqvAll]
  | cons d ds => simp [PyData.eqv, PyData.eqvAll]
theorem n_neNil {K : PySem.W.Frag} {G H : Hp} {p q : Addr} {xs ys : List V} {Q : VK} (d : DataOk K G xs) (e : Ex G H) (sub : ∀ y ∈ ys, y ∈ xs) (h1 : SqL K H p ys) (h2 : SqL K H q []) (k : Q (.bl (!decide (ys = []))) H) : rNeD K (.ref p) (.ref q) H Q := by
  obtain ⟨ds, h3, h4, h5⟩ := d H e ys sub
  refine ⟨_, _, .lst h1 h3, .lst h2 .nil, h4, shaped_ints [], ?_⟩
  rw [eqv_nil]
  have z : decide (ds = []) = decide (ys = []) := by
    rw [Bool.eq_iff_iff, decide_eq_true_eq, decide_eq_true_eq, ← List.length_eq_zero_iff, ← List.length_eq_zero_iff, h5]
  rw [z]
  exact k
theorem erase_perm {α : Type} : ∀ {l : List α} {i : Nat} (h : i < l.length), (l[i] :: l.eraseIdx i).Perm l
  | [], _, h => absurd h (Nat.not_lt_zero _)
  | a :: l, 0, _ => List.Perm.refl _
  | a :: l, i + 1, h => by
    have ih := erase_perm (l := l) (i := i) (by simpa using h)
    exact (List.Perm.swap a _ _).trans (ih.cons a)
theorem DataOk.mono {K : PySem.W.Frag} {G H : Hp} {xs : List V} (h : DataOk K G xs) (e : Ex G H) : DataOk K H xs := fun H' e' => h H' (e.trans e')
def spMixed (K : PySem.W.Frag) : Sp := fun vs H Q _ => ∃ (W p : Addr) (a b c : Int) (xs : List V), vs = [.ref W, .ref p] ∧ H W = some (wl a b c) ∧ SqL K (cut H [(W, wl a b c)]) p xs ∧ DataOk K (cut H [(W, wl a b c)]) xs ∧ xs.length ≤ 100000 ∧
  ∀ ys q H' a' b' c', ys.Perm xs → H q = none → Own (cut H [(W, wl a b c)]) [(W, wl a' b' c'), (q, .lst ys)] H' → Q (.ref q) H'
theorem n_mixed {K : PySem.W.Frag} {H G : Hp} {L : List (Addr × HO)} {W p : Addr} {a b c : Int} {xs : List V} {Q : VK} {E : XK} (S : Own G ((W, wl a b c) :: L) H) (hp : SqL K G p xs) (hd : DataOk K G xs) (hz : xs.length ≤ 100000)
    (k : ∀ ys q H1 a' b' c', ys.Perm xs → H q = none → Own G ((W, wl a' b' c') :: (q, .lst ys) :: L) H1 → Q (.ref q) H1) : spMixed K [.ref W, .ref p] H Q E :=
  ⟨W, p, a, b, c, xs, rfl, S.get0, ex_l S.keep hp, hd.mono S.keep, hz, fun ys q H' a' b' c' hy hq T => k ys q H' a' b' c' hy hq (S.back T)⟩
end NX

namespace NX
open PySem PySem.Spec PyProof.Rows L2
open Evl (Ex ex_l ex_t fresh_back)
abbrev s__law_fewest : Stmt := top 15
theorem sc__law_fewest : FnScope ["_law_channel", "_law_is_off", "_law_branches_so", "_law_kind"] ["_law_channel", "_law_is_off"] (defScope s__law_fewest) := ⟨rfl, rfl, rfl, by decide +kernel, rfl, by decide +kernel, by decide +kernel⟩
/-- the sizes of the branches -/
def bz (off : Bool) : Nat → Int
  | 0 => 0
  | k + 1 => if off then fw true (k - 1) else fw false k
def bzL (off : Bool) (n : Nat) : List Int := (List.range (n + 1)).map (bz off)
theorem bzL_next (off : Bool) (n : Nat) : bzL off (n + 1) = bzL off n ++ [bz off (n + 1)] := by
  unfold bzL
  rw [List.range_succ, List.map_append] <;> rfl
theorem bzL_len (off : Bool) (n : Nat) : (bzL off n).length = n + 1 := by unfold bzL; rw [List.length_map, List.length_range]
theorem bzL_take (off : Bool) {n m : Nat} (h : m ≤ n) : (bzL off n).take (m + 1) = bzL off m := by
  unfold bzL
  rw [← List.map_take, List.take_range, Nat.min_eq_left (by omega)]
theorem fwB_eq (off : Bool) : ∀ n, fwB off n = fw off (n - 1)
  | 0 => rfl
  | _ + 1 => rfl
theorem bz_sum (off : Bool) : ∀ n, 1 + (bzL off n).sum = fw off n
  | 0 => rfl
  | n + 1 => by
    have ih := bz_sum off n
    rw [bzL_next, List.sum_append, fw_next]
    have e : [bz off (n + 1)].sum = bz off (n + 1) := by simp
    rw [e]
    cases off with
    | true =>
      rw [if_pos rfl, fwB_eq]
      show 1 + ((bzL true n).sum + fw true (n - 1)) = _
      omega
    | false =>
      rw [if_neg (by decide)]
      show 1 + ((bzL false n).sum + fw false n) = _
      omega
def spLFew : Sp := fun vs H Q _ => ∃ (c : Nat) (off : Bool), vs = [.int ((c : Int) + 1), .bl off] ∧ c ≤ 1000 ∧ ∀ H', Ex H H' → Q (.int (fw off c)) H'
theorem n_lfew {G H : Hp} {L : List (Addr × HO)} {i : Int} {off : Bool} {Q : VK} {E : XK} (c : Nat) (S : Own G L H) (h : i = (c : Int) + 1) (hc : c ≤ 1000) (k : ∀ H1, Own G L H1 → Q (.int (fw off c)) H1) : spLFew [.int i, .bl off] H Q E := by
  subst h
  exact ⟨c, off, rfl, hc, fun H' e => k H' (S.grow e)⟩
theorem n_sum {K : PySem.W.Frag} {H : Hp} {p : Addr} {ns : List Int} {Q : VK} (h : SqL K H p (ns.map V.int)) (k : Q (.int ns.sum) H) : rSum K [.ref p] H Q := ⟨p, ns, rfl, h, k⟩
section
variable {P : Program} {w : World} {K : PySem.W.Frag} {mg : Str → Option Value} {base : Heap}
theorem ok_lfew {f : Addr} {fd : FuncData} (F : Fun K "_law_fewest" "_law_fewest" s__law_fewest f fd) (T : Txt mg) : FnOk P w K mg base CX0 1 f fd ["_law_channel", "_law_is_off"] spLFew := by
  refine F.ok sc__law_fewest (fun vs H Q E h => ?_) (fun cdv A outer s H vs Q E hr h => ?_)
  · obtain ⟨c, off, rfl, _⟩ := h
    rfl
  · obtain ⟨c, off, rfl, hc, k⟩ := h
    refine ⟨_, (pss_cons (ps_set (i := 2) sc__law_fewest.nd rfl (Or.inl rfl) (pe_lst (pa_cons pe_int pa_nil)))
      (pss_cons (ps_for PassesOwn.never rfl (pi_range2 (by rfl) T.n_range (pa_cons pe_int (pa_cons (pv 0) pa_nil))) (pg_name (i := 3) sc__law_fewest.nd rfl (Or.inl rfl)) (pss_one (ps_expr (pe_bm PySem.F.plainAttrs_list PySem.F.slot_list_append PySem.F.type_list_append mt_append (pv 2) (pa_cons (pe_op op_add pe_int (pe_callB (cr_sum rfl) (by rfl) T.n_sum (by decide +kernel) (pa_cons (pe_ifExp (pt_val (pv 1)) (pe_slice sl_list (pv 2) po_none (po_some (pe_callB (call_maxN rfl) (by rfl) T.n_max (by decide +kernel) (pa_cons pe_int (pa_cons (pe_op op_sub (pv 3) pe_int) pa_nil))))) (pv 2)) pa_nil))) pa_nil)))))
      (pss_one (ps_ret (pe_op op_add pe_int (pe_callB (cr_sum rfl) (by rfl) T.n_sum (by decide +kernel) (pa_cons (pv 2) pa_nil))))))), ?_⟩
    walk_at "go"
    refine n_lst (Own.start H) (by show 1 ≤ 10000000; decide) fun p H1 _ S1 => ?_
    walk_at "go"
    refine w_rng2 (fun i σ' H' => (∃ x, σ' = [some (.int ((c : Int) + 1)), some (.bl off), some (.ref p), x]) ∧ Own H [(p, .lst ((bzL off i).map V.int))] H') (by omega) ⟨⟨none, rfl⟩, S1⟩ ?_ ?_
    · rintro i σ' H' hi ⟨⟨x, rfl⟩, S⟩
      have hl : ((bzL off i).map V.int).length = i + 1 := by rw [List.length_map, bzL_len]
      walk_at "go"
      refine ⟨tyL S.l0, ?_⟩
      walk_at "go"
      cases off with
      | true =>
        walk_at "go"
        have e1 : max 1 (1 + (i : Int) - 1) = ((max 1 i : Nat) : Int) := by omega
        rw [e1]
        refine n_sl S S.l0 fun p2 G2 H2 _ e2 _ hp2 S2 => ?_
        have e3 : max 1 i = max 1 i - 1 + 1 := by omega
        rw [cutV_to, ← List.map_take, e3, bzL_take true (by omega)] at hp2
        walk_at "go"
        refine n_sum (SqL.of (S2.ex _ _ hp2)) ?_
        walk_at "go"
        refine n_app S2 (by rw [hl]; omega) fun H3 S3 => ?_
        refine ⟨⟨_, rfl⟩, ?_⟩
        rw [bzL_next, List.map_append]
        have e4 : bz true (i + 1) = 1 + (bzL true (max 1 i - 1)).sum := by
          rw [bz_sum]
          show fw true (i - 1) = _
          congr 1
          omega
        rw [e4]
        exact Own.weak e2 S3
      | false =>
        walk_at "go"
        refine n_sum S.l0 ?_
        walk_at "go"
        refine n_app S (by rw [hl]; omega) fun H3 S3 => ?_
        refine ⟨⟨_, rfl⟩, ?_⟩
        rw [bzL_next, List.map_append]
        have e4 : bz false (i + 1) = 1 + (bzL false i).sum := (bz_sum false i).symm
        rw [e4]
        exact S3
    · rintro σ' H' ⟨⟨x, rfl⟩, S⟩
      walk_at "go"
      refine n_sum S.l0 ?_
      walk_at "go"
      have e : ((c : Int) + 1 - 1).toNat = c := by omega
      rw [e, bz_sum]
      exact k H' S.ex
end
end NX

namespace NX
open PySem PySem.Spec PyProof.Rows L2
open Evl (Ex ex_l ex_t fresh_back)
open LamX (CodeO TabS Tabs ExtN TabB LamS lamEnv lamCx lam_make2 lam_start2 run_ofS tLam codeO_ne)
/-! ### tuples of the same values -/
def sameV : V → Bool
  | .non => true | .bl _ => true | .int _ => true | .str _ => true | .ref _ => true
  | _ => false
theorem eqAt_sm {A : Around} {s : Shared} {v : V} {u u' : Value} (r : RelV v u) (r' : RelV v u') (f : sameV v = true) : SeqAt.EqAt A s u u' true := by
  cases v with
  | ref a => cases (show u = Value.ref a from r); cases (show u' = Value.ref a from r'); exact SeqAt.EqAt.same _
  | non => cases (show u = Value.none from r); cases (show u' = Value.none from r'); exact SeqAt.EqAt.same _
  | bl b => cases (show u = Value.bool b from r); cases (show u' = Value.bool b from r'); exact SeqAt.EqAt.same _
  | int i =>
    obtain ⟨t, rfl⟩ := (show ∃ t, u = Value.int i t from r)
    obtain ⟨t', rfl⟩ := (show ∃ t, u' = Value.int i t from r')
    have q := SeqAt.EqAt.int_int (A := A) (s := s) i t i t'
    rw [beq_self_eq_true] at q; exact q
  | str i =>
    obtain ⟨t, rfl⟩ := (show ∃ t, u = Value.str i t from r)
    obtain ⟨t', rfl⟩ := (show ∃ t, u' = Value.str i t from r')
    have q := SeqAt.EqAt.str_str (A := A) (s := s) i t i t'
    rw [beq_self_eq_true] at q; exact q
  | _ => simp [sameV] at f
theorem vals_sm {A : Around} {s : Shared} : ∀ {xs : List V} {us ws : List Value}, Vals xs us → Vals xs ws → (∀ x ∈ xs, sameV x = true) → ∀ (j : Nat) (h1 : j < us.length) (h2 : j < ws.length), SeqAt.EqAt A s us[j] ws[j] true
  | _, _, _, .nil, .nil, _, j, h1, _ => absurd h1 (Nat.not_lt_zero j)
  | _, _, _, .cons a b, .cons a' b', f, 0, _, _ => eqAt_sm a a' (f _ List.mem_cons_self)
  | _, _, _, .cons a b, .cons a' b', f, j + 1, h1, h2 => vals_sm b b' (fun x hx => f x (List.mem_cons_of_mem _ hx)) j (Nat.lt_of_succ_lt_succ h1) (Nat.lt_of_succ_lt_succ h2)
def rSm (K : PySem.W.Frag) (r : Bool) : R2 := fun x y H Q => ∃ a b xs, x = .ref a ∧ y = .ref b ∧ SqT K H a xs ∧ SqT K H b xs ∧ (∀ v ∈ xs, sameV v = true) ∧ Q (.bl r) H
theorem op_eqSm {X : Cx} {K : PySem.W.Frag} (hu : X.A.units < cLine) (e : X.K = K := by rfl) : OpR X (compareOp .Eq) (rSm K true) := by
  subst e
  intro pins s σ H x y v u Q I rx ry h
  obtain ⟨a, b, xs, rfl, rfl, h1, h2, hf, q⟩ := h
  cases rx
  cases ry
  obtain ⟨us, r1, t1, _⟩ := I.tuple h1
  obtain ⟨ws, r2, t2, _⟩ := I.tuple h2
  have z := SeqAt.RcAt.tuples (e := fun _ => true) t1 t2 hu (fun j j1 j2 => by
    have := vals_sm (A := X.A.in1) (s := s) r1 r2 hf j (by simpa using j1) (by simpa using j2)
    simpa using this)
  have e : ((List.range (min us.toArray.size ws.toArray.size)).all (fun _ => true) && us.toArray.size == ws.toArray.size) = true := by
    have l1 := r1.length
    have l2 := r2.length
    simp
    omega
  rw [e] at z
  exact z X.prog X.w _ _ ⟨.bl true, H, I, rfl, q⟩
theorem op_neSm {X : Cx} {K : PySem.W.Frag} (hu : X.A.units < cLine) (e : X.K = K := by rfl) : OpR X (compareOp .NotEq) (rSm K false) := by
  subst e
  intro pins s σ H x y v u Q I rx ry h
  obtain ⟨a, b, xs, rfl, rfl, h1, h2, hf, q⟩ := h
  cases rx
  cases ry
  obtain ⟨us, r1, t1, _⟩ := I.tuple h1
  obtain ⟨ws, r2, t2, _⟩ := I.tuple h2
  have z := SeqAt.RcNeAt.tuples (e := fun _ => true) t1 t2 hu (fun j j1 j2 => by
    have := vals_sm (A := X.A.in1) (s := s) r1 r2 hf j (by simpa using j1) (by simpa using j2)
    simpa using this)
  have e : (!((List.range (min us.toArray.size ws.toArray.size)).all (fun _ => true) && us.toArray.size == ws.toArray.size)) = false := by
    have l1 := r1.length
    have l2 := r2.length
    simp
    omega
  rw [e] at z
  exact z X.prog X.w _ _ ⟨.bl false, H, I, rfl, q⟩
theorem n_sm {K : PySem.W.Frag} {r : Bool} {H : Hp} {a b : Addr} {xs : List V} {Q : VK} (h1 : SqT K H a xs) (h2 : SqT K H b xs) (hf : ∀ v ∈ xs, sameV v = true) (k : Q (.bl r) H) : rSm K r (.ref a) (.ref b) H Q := ⟨a, b, xs, rfl, rfl, h1, h2, hf, k⟩
/-! ### isinstance of a caught exception that has fields -/
/-- what isinstance asks of the class D -/
structure ExcD (K : PySem.W.Frag) (D : Addr) : Prop where
  cl : (PySem.W.clsIn K D).isSome = true
  hg : PySem.W.findIn K (.ref D) "__getattribute__" = some (some (.builtin "BaseException.__getattribute__"))
  hk : PySem.W.findIn K (.ref D) "__getattr__" = some none
  hs : PySem.W.subIn K (.ref D) (.type "BaseException") = some true
  ha : PySem.W.findIn K (.ref D) "__class__" = some (some (.builtin "object.__class__"))
  hn : PySem.W.specialIn K (.builtin "object.__class__") "__get__" = some (some (.builtin "getset_descriptor.__get__"))
  ht : PySem.W.takesIn K (.builtin "object.__class__") = some true
  hm : PySem.W.mroIn K D (.type "object") = some true
def rIsX (K : PySem.W.Frag) (a : Addr) (cls : Value) (d : Option Addr) : List V → Hp → VK → Prop := fun xs H Q => ∃ (D dd : Addr) (fs : List (Str × V)) (c : V) (b : Bool), cls = .ref D ∧ d = some dd ∧ H dd = some (.xd fs) ∧ ExcD K D ∧ xs = [.ref a, c] ∧
  ((∃ cv, ClsV c cv ∧ PySem.W.kitOne K (.ref D) cv = some b) ∨ ∃ (tp : Addr) (cs : List V) (us : List Value), c = .ref tp ∧ H tp = some (.tup cs) ∧ Paired ClsV cs us ∧ PySem.W.kitAny K (.ref D) us = some b) ∧ Q (.bl b) H
theorem call_isX {X : Cx} {K : PySem.W.Frag} {a : Addr} {cls : Value} {d : Option Addr} {oe : Obj} {pn : List (Addr × Obj)} (hz : Zc cls d oe) (hf : ∃ vs, oe.data = .fields vs) (e : X.K = K := by rfl) : CallR (X.suite a ((a, oe) :: pn)) (.builtin "isinstance") (rIsX K a cls d) := by
  subst e
  intro pins s σ H xs us Q I r h
  obtain ⟨D, dd, fs, c, b, rfl, rfl, hd, C, rfl, hc, q⟩ := h
  obtain ⟨u1, u2, rfl, r1, r2⟩ := vals2 r
  cases (show u1 = Value.ref a from r1)
  obtain ⟨hget, _⟩ := I.pin (a, oe) (List.mem_append.mpr (.inl List.mem_cons_self))
  obtain ⟨mA, hns, _⟩ := (show ObjOk X.prog X.w H s.heap dd (.xd fs) from I.hok dd _ hd)
  obtain ⟨od, hod⟩ : ∃ od, s.heap.get? dd = some od := by
    obtain ⟨o, es, ep, h1, _⟩ := hns
    exact ⟨o, h1⟩
  obtain ⟨vs, hv⟩ := hf
  have J : PySem.W.InstAt s.heap a oe D (some od) := by
    obtain ⟨oc, odd, oda, osl⟩ := oe
    obtain ⟨h1, h2⟩ := hz
    dsimp only at h1 h2 hv
    subst h1 h2 hv
    exact ⟨hget, rfl, rfl, hod⟩
  have Z := PySem.W.kitx_exc (x := a) (ox := oe) (od := some od) C.cl C.hg C.hk C.hs C.ha C.hn C.ht C.hm
  rcases hc with ⟨cv, hcv, hk⟩ | ⟨tp, cs, ws, rfl, htp, hcs, hk⟩
  · have ec := hcv.eq r2
    subst ec
    exact PySem.W.kia_one Z I.kIn J hk (fun z => nomatch z) fun tk => ⟨.bl b, H, I.kept (t' := tk) fun _ _ z => z, rfl, q⟩
  · cases (show u2 = Value.ref tp from r2)
    obtain ⟨_, its, rv, o, h1, h2, n, h3⟩ := (show ObjOk X.prog X.w H s.heap tp (.tup cs) from I.hok tp _ htp)
    have e3 := ClsV.all hcs rv
    subst e3
    obtain ⟨oc, odd, dt, sl⟩ := o
    simp only at h2 h3
    subst h2 h3
    exact PySem.W.kia_tup Z I.kIn J h1 hk (fun z => nomatch z) fun tk => ⟨.bl b, H, I.kept (t' := tk) fun _ _ z => z, rfl, q⟩
/-- a class's name as a value -/
theorem pe_cls {X : Cx} {x : Str} {C : Addr} {pos : Pos} (hm : X.mg x = some (.ref C)) (hg : Gl X x := by rfl) (hd : (x == ("__debug__" : Str)) = false := by decide) : PE X (.Name x pos) (tC (.ref C)) := pe_glob (v := .ref C) hg hm rfl hd
/-! ### a def whose code object is known -/
structure FunC (K : PySem.W.Frag) (x qual : Str) (st : Stmt) (f : Addr) (fd : FuncData) (c : Addr) : Prop where
  ex : ∃ (oc : Value) (od : Option Addr) (kV doc pm : Value) (an : Option Addr) (ct : Value) (osl : Array (Option Value)),
    fd = PySem.W.fnOf x qual (defArgs st) (defBody st) (defScope st) .none kV doc pm an (.ref c) ct ∧ K.lookup f = some ⟨oc, od, .func fd, osl⟩ ∧ PySem.W.codeIn K (.ref c) qual = true
section
variable {P : Program} {w : World} {K : PySem.W.Frag} {mg : Str → Option Value} {base : Heap}
theorem FunC.ok {x qual : Str} {st : Stmt} {f c : Addr} {fd : FuncData} {N ps : List Str} {k : Nat} {sp : Sp} (F : FunC K x qual st f fd c) (S : FnScope N ps (defScope st)) (len : ∀ vs H Q E, sp vs H Q E → vs.length = ps.length)
    (hb : ∀ (A : Around) (outer : List Env) (s : Shared) (H : Hp) (vs : List V) (Q : VK) (E : XK), Room k (A.deeper (envOfC qual (defScope st) s.heap.objs.size f (.ref c))) → sp vs H Q E →
      ∃ t, PSs (cxOf CX0 P w K mg base N qual (defScope st) f (.ref c) A outer s H E).nox (defBody st) t ∧ t ⟨fun _ H' => Q .non H', Q, fun _ _ => False, fun _ _ => False⟩ (L2.start N vs) H) : FnOk P w K mg base CX0 (k + 1) f fd ps sp := by
  obtain ⟨oc, od, kV, doc, pm, an, ct, osl, rfl, lk, hcd⟩ := F.ex
  refine fn_of lk hcd S len fun A outer s H vs Q E hr hsp => ?_
  obtain ⟨t, h, q⟩ := hb A outer s H vs Q E hr hsp
  exact ⟨t, h.nox, q⟩
end
/-! ### a lambda handed to a def, what it raises wished for at the def's slots -/
section
variable {X : Cx} {pins : List (Addr × Obj)} {σ : L2.St} {H : Hp} {s : Shared}
/-- the def x's context, entered at s -/
abbrev inCx (X : Cx) (Ng : List Str) (x : Str) (sg : Scope) (g : Addr) (cdg : Value) (s : Shared) (H : Hp) : Cx := cxOf CX0 X.prog X.w X.K X.mg X.base Ng x sg g cdg X.A X.stack s H E0
/-- what a() reads, a the def's parameter -/
def tAct (f c' : Addr) (q : Str) (W : WX) (tl : XK → Hp → VK → Prop) : TE := fun σZ HZ Q => σZ[0]? = some (some (.ref f)) ∧ HZ c' = some (CodeO c' q) ∧ tl (fun cls d H' => W cls d σZ H') HZ Q
theorem pe_actS {Ng : List Str} {x : Str} {sg : Scope} {g f c' : Addr} {cdg pm ctv : Value} {params : Arguments} {body : Expr} {scope : Scope} {k : Nat} {a : Str} {pn : List (Addr × Obj)} {xe : Value → Shared → Prop} {W : WX} {tb : XK → TE} {p1 p2 : Pos}
    (I : Inv X pins σ H s) (L : LamS X.env.scope scope) (hf : s.heap.get? f = some (PySem.W.kla_obj "<lambda>" (X.env.qual ++ "<lambda>") params body scope (cloFrom X.env.cells scope.names []) pm c' ctv)) (hfn : H f = none) (hfr : f ∉ frs X.stack)
    (hbind : bindArgs (PySem.W.kla_fn "<lambda>" (X.env.qual ++ "<lambda>") params body scope (cloFrom X.env.cells scope.names []) pm (.ref c') ctv) ⟨[], []⟩ = pure [])
    (tk : Takes ((inCx X Ng x sg g cdg s H).tr pn xe) W) (hr : Room (k + 1) (X.A.deeper (envOfC x sg s.heap.objs.size g cdg)))
    (hbody : ∀ (E : XK) (A : Around) (outer : List Env) (s : Shared) (H : Hp), Room k (A.deeper (lamEnv X scope s.heap.objs.size f c')) → PE (lamCx X A outer s H E scope f c') body (tb E))
    (hN : Ng[0]? = some a) (hv : Vis sg a) (hd : (a == ("__debug__" : Str)) = false := by decide) (hcd : (a == ("__classdict__" : Str)) = false := by decide) :
    PE ((inCx X Ng x sg g cdg s H).tr pn xe) (.Call (.Name a p1) [] [] p2) (tAct f c' (X.env.qual ++ "<lambda>") W fun E H' Q' => tb E σ H' Q') := by
  refine ⟨fun pinsZ sZ σZ HZ Q IZ ⟨hs, hc, ht⟩ => ?_⟩
  have nm := (pe_var (pos := p1) (i := 0) hN hv hd hcd).run pinsZ sZ σZ HZ (fun v H1 => v = .ref f ∧ H1 = HZ) IZ ⟨.ref f, hs, rfl, rfl⟩
  refine wpAny_Call_Name_kw (thn nm fun u s1 ⟨v, H1, I1, r1, ev, eH⟩ => ?_)
  subst ev
  rw [eH] at I1
  cases (show u = Value.ref f from r1)
  have at1 := I1.base.keep f _ hf hfn hfr (fun z => nomatch (show f ∈ ([] : List Addr) from z))
  refine PySem.W.callWith_F0 ⟨_, _, _, _, at1⟩ ?_
  have un : Un (frs X.stack) [] H HZ s.heap s1.heap := I1.base
  obtain ⟨⟨oc, vs, t, hoc, hdc, hvc⟩, _, _⟩ := I1.hok c' _ hc
  have rc : codeAny (model X.prog X.w) (X.A.deeper (envOfC x sg s.heap.objs.size g cdg)) (.call (.ref f) ⟨[], []⟩)
      (CR (L2.CX X.prog X.w) (envOfC x sg s.heap.objs.size g cdg :: X.stack) X.prog X.w HZ s1 Q fun cls d H' => W cls d σZ H') s1 := by
    refine PySem.W.kla_callFunE hr.depth at1 rfl L.co L.gen rfl ⟨c', oc, vs, t, rfl, hoc, hdc, hvc⟩ ?_
    rw [hbind]
    refine wpAny_pure (wpAny_newFunctionEnv (fun y hy => (L.own y hy).2) (fun y hy => absurd hy (by simp)) (fun h₁ hns hsb => ⟨I1.nolimit.fresh _ hsb, ?_⟩) L.kind)
    show codeAny _ _ (.expr body (lamEnv X scope s1.heap.objs.size f c')) _ _
    have J := lam_start2 (f := f) (c' := c') (tk := s1.toks + ([] : List (Str × Value)).length) (E := fun cls d H' => W cls d σZ H') I L I1.env0 hr.hd un hns fun b o e => hsb.extBut b o (Nat.ne_of_lt (Heap.lt_size e)) (Heap.get?_push_of_some _ e)
    refine PySem.W.kla_codeExpr (wpAny_mono ((hbody _ _ _ s1 HZ (hr.deeper _)).run [] _ _ HZ Q J ht) (fun v s' hq => ?_) fun e s' hq => hq)
    obtain ⟨w', H', J', rv, q⟩ := hq
    exact ⟨w', H', J'.os, J'.bare, J'.base, J'.hok, rv, q⟩
  refine wpAny_call (codeAny_mono rc fun r s' hq => ?_)
  cases r with
  | error e => exact passAt tk σZ pinsZ HZ s1 e s' I1 hq
  | ok fl =>
    cases fl with
    | ret u => exact I1.after hq
    | next => exact False.elim hq
    | brk => exact False.elim hq
    | cont => exact False.elim hq
/-- the def x that calls what it got: TT says what it makes of the lambda's reading -/
def GivesS (X : Cx) (Ng : List Str) (x : Str) (sg : Scope) (g : Addr) (cdg : Value) (bg : List Stmt) (a : Str) (q : Str) (TT : (XK → Hp → VK → Prop) → Hp → VK → Prop) : Prop :=
  ∀ (f c' : Addr) (s : Shared) (H : Hp) (Q : VK) (tl : XK → Hp → VK → Prop), (∀ (W : WX) (pn : List (Addr × Obj)) (xe : Value → Shared → Prop) (p1 p2 : Pos), Takes ((inCx X Ng x sg g cdg s H).tr pn xe) W → PE ((inCx X Ng x sg g cdg s H).tr pn xe) (.Call (.Name a p1) [] [] p2) (tAct f c' q W tl)) →
    H c' = some (CodeO c' q) → TT tl H Q → ∃ t, PSs (inCx X Ng x sg g cdg s H).nox bg t ∧ t ⟨fun _ H' => Q .non H', Q, fun _ _ => False, fun _ _ => False⟩ (L2.start Ng [.ref f]) H
/-- such a def, by its name -/
def LamDef (P : Program) (w : World) (K : PySem.W.Frag) (mg : Str → Option Value) (base : Heap) (x a : Str) (TT : (XK → Hp → VK → Prop) → Hp → VK → Prop) : Prop :=
  ∃ (g : Addr) (Ng : List Str) (st : Stmt) (oc kV doc pm cdv ct : Value) (an od : Option Addr) (osl : Array (Option Value)), mg x = some (.ref g) ∧ PySem.W.keepIn K (.ref g) = true ∧ K.lookup g = some ⟨oc, od, .func (PySem.W.fnOf x x (defArgs st) (defBody st) (defScope st) .none kV doc pm an cdv ct), osl⟩ ∧ PySem.W.codeIn K cdv x = true ∧
    L2.Binds K (PySem.W.fnOf x x (defArgs st) (defBody st) (defScope st) .none kV doc pm an cdv ct) [a] [] ∧ FnScope Ng [a] (defScope st) ∧ Ng[0]? = some a ∧ Vis (defScope st) a ∧ ∀ (X : Cx) (q : Str), X.prog = P → X.w = w → X.K = K → X.mg = mg → X.base = base → GivesS X Ng x (defScope st) g cdv (defBody st) a q TT
theorem pe_lamS {T : List (Addr × Str)} {TT : (XK → Hp → VK → Prop) → Hp → VK → Prop} {x a : Str} {c P : Addr} {k : Nat} {params : Arguments} {body : Expr} {scope : Scope} {t : XK → TE} {p lpos pos : Pos} (D : LamDef X.prog X.w X.K X.mg X.base x a TT)
    (TB : TabB X.base X.mg c P) (hmT : (P, X.env.qual ++ "<lambda>") ∈ T) (hu : ∀ p ∈ T, p.1 = P → p.2 = X.env.qual ++ "<lambda>") (hr : Room (k + 2) X.A)
    (hbody : ∀ (A : Around) (outer : List Env) (s : Shared) (H : Hp) (E : XK) (f c' : Addr), Room k (A.deeper (lamEnv X scope s.heap.objs.size f c')) → PE (lamCx X A outer s H E scope f c') body (t E)) (L : LamS X.env.scope scope) (hcode : X.env.code = .ref c := by rfl)
    (hbind : ∀ (q : Str) (cl : List (Str × Addr)) (pm cv ctv : Value), bindArgs (PySem.W.kla_fn "<lambda>" q params body scope cl pm cv ctv) ⟨[], []⟩ = pure [] := by intros; rfl) (hdef : defaultsOf params X.env = ([], []) := by rfl) (hg : Gl X x := by rfl)
    (hdb : (x == ("__debug__" : Str)) = false := by decide) (hd : (a == ("__debug__" : Str)) = false := by decide) (hcd : (a == ("__classdict__" : Str)) = false := by decide) :
    PE X (.Call (.Name x p) [.Lambda params body scope lpos] [] pos) (tLam T TT t) := by
  obtain ⟨g, Ng, st, oc, kV, doc, pm, cdv, ct, an, od, osl, hm, hk, lk, hcg, hb, Sg, hNg, hva, hG⟩ := D
  refine ⟨fun pins s σ H Q I ⟨hT, h⟩ => ?_⟩
  refine wpAny_Call_Name_kw (ld_glob I hg hm (PySem.W.callWith_K (h₀ := X.base) I.ok.mod.kin hk ?_ (by rfl) (by rfl)) hdb)
  show wpAny _ _ (spliced ((false, eval (.Lambda params body scope lpos) X.env) :: backTo pos (starEach [] X.env))) _ _ s
  have mk := lam_make2 (body := body) (pos := lpos) (E := X.xe) I TB hcode hmT hu hT hdef (L.has I.ok) (Q := fun v s' => ∃ f, v = .ref f ∧ wpAny (model X.prog X.w) X.A (call (.ref g) [.ref f]) (EP X pins σ Q) X.xe s' ∧ X.K.In s'.heap) fun f c' pm' ctv H1 s' I1 eN T1 hf hfn hfr hco => ⟨f, rfl, ?_, I1.kIn⟩
  · refine Calls.spliced_cons (wpAny_mono mk (fun v s' ⟨f, ev, hq, hin⟩ => ?_) fun _ _ z => z)
    subst ev
    exact Calls.spliced_nil ⟨hin, hq⟩
  · have rc : codeAny (model X.prog X.w) X.A (.call (.ref g) ⟨[.ref f], []⟩) (CR CX0 X.stack X.prog X.w H1 s' Q E0) s' :=
      run_ofS (N := Ng) (ps := [a]) (us := [.ref f]) (vs := [.ref f]) lk hcg Sg hr I1.env0 (hb s' [.ref f] I1.kIn rfl) (.cons rfl .nil) rfl fun hr' => by
        obtain ⟨t', ht', hq'⟩ := hG X _ rfl rfl rfl rfl rfl f c' s' H1 Q (fun E H' Q' => t E σ H' Q') (fun W pn xe p1 p2 tk => pe_actS I1 L hf hfn hfr (hbind _ _ _ _ _) tk hr' (fun E A outer s H hr2 => hbody A outer s H E f c' hr2) hNg hva hd hcd) hco (h H1 eN T1)
        exact ⟨t', ht'.nox, hq'⟩
    refine wpAny_call (codeAny_mono rc fun r s2 hq => ?_)
    cases r with
    | error e => exact (show False from hq).elim
    | ok fl =>
      cases fl with
      | ret u => exact I1.after hq
      | next => exact False.elim hq
      | brk => exact False.elim hq
      | cont => exact False.elim hq
end
/-! ### the table of the maker's lambdas among what may be changed -/
/-- without the tables -/
def noT (G : Hp) : Hp := fun a => match G a with
  | some (.tbl _) => none
  | o => o
theorem noT_of {G : Hp} {a : Addr} {o : HO} (h : G a = some o) (ne : ∀ ps, o ≠ .tbl ps) : noT G a = some o := by
  unfold noT
  rw [h]
  cases o with
  | tbl ps => exact absurd rfl (ne ps)
  | _ => rfl
theorem of_noT {G : Hp} {a : Addr} {o : HO} (h : noT G a = some o) : G a = some o ∧ ∀ ps, o ≠ .tbl ps := by
  unfold noT at h
  cases e : G a with
  | none => rw [e] at h; cases h
  | some u =>
    rw [e] at h
    cases u with
    | tbl ps => cases h
    | _ => cases h; exact ⟨rfl, fun ps z => by cases z⟩
theorem ex_noT (G : Hp) : Ex (noT G) G := fun a o h => (of_noT h).1
theorem Ex.noT {G H : Hp} (e : Ex G H) : Ex (NX.noT G) (NX.noT H) := fun a o h => noT_of (e _ _ (of_noT h).1) (of_noT h).2
/-- a table's rows, their code objects known in G -/
def TabG (G : Hp) (ps : Array Value) (q : Str) : Prop := TriplesOk ps.toList ∧ ∀ (pos : Pos) (cv : Value), codeAmong pos ps.toList = some cv → ∃ c, cv = .ref c ∧ G c = some (CodeO c q)
theorem TabG.mono {G G' : Hp} {ps : Array Value} {q : Str} (h : TabG G ps q) (e : Ex G G') : TabG G' ps q := ⟨h.1, fun pos cv hc => let ⟨c, e1, e2⟩ := h.2 pos cv hc; ⟨c, e1, e _ _ e2⟩⟩
theorem TabG.noT {G : Hp} {ps : Array Value} {q : Str} (h : TabG G ps q) : TabG (NX.noT G) ps q := ⟨h.1, fun pos cv hc => let ⟨c, e1, e2⟩ := h.2 pos cv hc; ⟨c, e1, noT_of e2 codeO_ne⟩⟩
theorem TabG.nil (G : Hp) (q : Str) : TabG G #[] q := ⟨True.intro, fun pos cv hc => by
  have z : codeAmong pos [] = some cv := hc
  simp [codeAmong] at z⟩
theorem n_lam {TT : (XK → Hp → VK → Prop) → Hp → VK → Prop} {t : XK → TE} {σ : L2.St} {G H : Hp} {L : List (Addr × HO)} {P : Addr} {ps : Array Value} {q : Str} {Q : VK} (S : Own G ((P, .tbl ps) :: L) H) (tg : TabG G ps q) (hL : ∀ p ∈ L, ∃ xs, p.2 = .lst xs)
    (k : ∀ G1 H1 ps1, Ex (noT G) G1 → Own G1 ((P, .tbl ps1) :: L) H1 → TabG G1 ps1 q → TT (fun E H' Q' => t E σ H' Q') H1 Q) : tLam [(P, q)] TT t σ H Q := by
  have hP := S.get0
  refine ⟨fun p hp => ?_, fun H1 eN T1 => ?_⟩
  · have e : p = (P, q) := by simpa using hp
    subst e
    exact ⟨ps, hP, tg.1, fun pos cv hc => let ⟨c, e1, e2⟩ := tg.2 pos cv hc; ⟨c, e1, S.ex _ _ e2⟩⟩
  · obtain ⟨ps1, hP1, ht1, hc1⟩ := T1 (P, q) (by simp)
    have hP1 : H1 P = some (.tbl ps1) := hP1
    have hLk : ∀ p ∈ L, H1 p.1 = some p.2 := fun p hp => eN _ _ (S.at_ p (List.mem_cons_of_mem _ hp)).2 fun qs z => by
      obtain ⟨xs, e⟩ := hL p hp
      rw [e] at z
      cases z
    have out : ∀ c, H1 c = some (CodeO c q) → c ∉ ((P, HO.tbl ps1) :: L).map Prod.fst := fun c hc m => by
      rcases List.mem_cons.mp m with e | m
      · have e : c = P := e
        rw [e, hP1] at hc
        unfold CodeO at hc
        cases hc
      · obtain ⟨p, hp, e⟩ := List.mem_map.mp m
        have z := hLk p hp
        obtain ⟨xs, e2⟩ := hL p hp
        rw [e, hc, e2] at z
        unfold CodeO at z
        cases z
    refine k (cut H1 ((P, .tbl ps1) :: L)) H1 ps1 (fun a o h => ?_) ⟨fun a u h => ?_, fun p hp => ⟨cut_in (List.mem_map_of_mem hp), ?_⟩, S.nd, fun p hp => ?_⟩ ⟨ht1, fun pos cv hc => ?_⟩
    · obtain ⟨h1, h2⟩ := of_noT h
      have m : a ∉ ((P, HO.tbl ps1) :: L).map Prod.fst := fun m => by
        have m' : a ∈ ((P, HO.tbl ps) :: L).map Prod.fst := m
        obtain ⟨p, hp, e⟩ := List.mem_map.mp m'
        have z := (S.at_ p hp).1
        rw [e, h1] at z
        cases z
      rw [cut_out m]
      exact eN _ _ (S.ex _ _ h1) h2
    · by_cases m : a ∈ ((P, HO.tbl ps1) :: L).map Prod.fst
      · rw [cut_in m] at h; cases h
      · rw [cut_out m] at h; exact h
    · rcases List.mem_cons.mp hp with rfl | hp
      · exact hP1
      · exact hLk p hp
    · rcases List.mem_cons.mp hp with rfl | hp
      · rfl
      · exact S.nt p (List.mem_cons_of_mem _ hp)
    · obtain ⟨c, e1, e2⟩ := hc1 pos cv hc
      exact ⟨c, e1, by rw [cut_out (out c e2)]; exact e2⟩
theorem g_act {f c' : Addr} {q : Str} {W : WX} {tl : XK → Hp → VK → Prop} {σ : L2.St} {H : Hp} {Q : VK} (h1 : σ[0]? = some (some (.ref f))) (h2 : H c' = some (CodeO c' q)) (k : tl (fun cls d H' => W cls d σ H') H Q) : tAct f c' q W tl σ H Q := ⟨h1, h2, k⟩
end NX

namespace NX
open PySem PySem.Spec PyProof.Rows L2
open Evl (Ex ex_l ex_t fresh_back)
/-! ### exceptions of own classes with one field -/
/-- the base class's name, at C0: its __init__ is ValueError's -/
structure BaseC (K : PySem.W.Frag) (C0 : Addr) : Prop where
  rd : PySem.W.readsIn K C0 (.type "type") = true
  ga : PySem.W.specialIn K (.ref C0) "__getattribute__" = some (some (.builtin "type.__getattribute__"))
  vV : PySem.W.findCls K (.ref C0) (.type "type") "__init__" = some (.val (.builtin "ValueError.__init__"))
section
variable {X : Cx} {e : Expr} {es : List Expr} {ta : TA} {p1 p2 pos : Pos} {x : Str} {C0 : Addr}
theorem pe_oeinit {K : PySem.W.Frag} {pl : Sem Bool} (hm : X.mg x = some (.ref C0)) (B : BaseC X.K C0) (ha : PA X (e :: es) ta) (hK : X.K = K := by rfl) (hg : Gl X x := by rfl) (hdb : (x == ("__debug__" : Str)) = false := by decide)
    (hc : eval (.Call (.Attribute (.Name x p1) "__init__" p2) (e :: es) [] pos) X.env = (do
      let ov ← eval (.Name x p1) X.env
      standAt p2.atName
      let (f, first) ← holding [ov] (getMethod ov "__init__" pl)
      callWith pos f first (backTo pos (starEach (e :: es) X.env)) (backToKw pos (keywordEach [] X.env))) := by rfl)
    (he : starEach (e :: es) X.env = (false, eval e X.env) :: starEach es X.env := by rfl) (hpl : (backTo pos (starEach es X.env)).any (·.1) = false := by rfl) :
    PE X (.Call (.Attribute (.Name x p1) "__init__" p2) (e :: es) [] pos) (tVeI K ta) := by
  subst hK
  refine ⟨fun pins s σ H Q I h => ?_⟩
  refine PySem.W.methodCall_KW (ld_glob I hg hm ?_ hdb) hc
  refine PySem.W.method_cls I.kIn B.ga (PySem.W.cls_value I.kIn B.rd B.vV (by decide +kernel) ?_)
  refine PyProof.Rows.callWith_method1 (thn (ha.run pos pins _ σ H _ (I.tok _) h) fun us s1 ⟨vs, H1, I1, r1, a, C, ws, ev, hl, T, ea, q⟩ => ?_) he hpl
  subst ev
  cases r1 with
  | @cons _ u1 _ ur ra rw1 =>
    obtain rfl : u1 = Value.ref a := ra
    have hlen := Paired.length rw1
    exact oinit_ok T I1 ea (by rw [sizeLine_eq]; omega) fun s' J => ⟨.non, H1, J, rfl, q⟩
end
def spExInit (K : PySem.W.Frag) (C : Addr) (f : Str) : Sp := fun vs H Q _ => ∃ (a : Addr) (v : V), vs = [.ref a, v] ∧ H a = some (exo a C none) ∧ OexC K C ∧ ∀ dx, H dx = none → dx ≠ a → Q .non (upd (upd H dx (exd dx [(f, v)])) a (exo a C (some dx)))
/-- the class x at C: raised with one value, kept as the field f -/
def Exn (P : Program) (w : World) (K : PySem.W.Frag) (mg : Str → Option Value) (base : Heap) (x : Str) (C : Addr) (f : Str) : Prop :=
  ∃ (fI : Addr) (fd : FuncData), mg x = some (.ref C) ∧ OexC K C ∧ PySem.W.findIn K (.ref C) "__init__" = some (some (.ref fI)) ∧ PySem.W.typeIn K (.ref fI) = some (.type "function") ∧ FnOk P w K mg base (L2.CX P w) 1 fI fd ["self", f] (spExInit K C f) ∧ Binds K fd ["self", f] []
def RAISE (K : PySem.W.Frag) (C : Addr) (f : Str) (W : WX) (σ : L2.St) (vs : List V) (H1 : Hp) : Prop := vs.length ≤ 1000 ∧ ∀ a, H1 a = none → spExInit K C f (.ref a :: (vs ++ [])) (upd H1 a (exo a C none))
  (fun v H2 => v = .non ∧ ∃ (d : Addr) (fs : List (Str × V)), H2 a = some (exo a C (some d)) ∧ H2 d = some (exd d fs) ∧ H1 d = none ∧ W (.ref C) (some d) σ (upd (del H2 a) d (.xd fs))) (fun _ _ _ => False)
def tRaiseE (K : PySem.W.Frag) (C : Addr) (f : Str) (W : WX) (ta : TA) : TS := fun _ σ H => ta σ H fun vs H1 => RAISE K C f W σ vs H1
theorem s_raiseE {K : PySem.W.Frag} {C : Addr} {f : Str} {W : WX} {ta : TA} {D : Ends} {σ : L2.St} {H : Hp} (k : ta σ H fun vs H1 => RAISE K C f W σ vs H1) : tRaiseE K C f W ta D σ H := k
theorem n_raise {K : PySem.W.Frag} {C : Addr} {f : Str} {W : WX} {σ : L2.St} {v : V} {H1 : Hp} (T : OexC K C) (k : ∀ d H2, H1 d = none → Ex H1 H2 → H2 d = some (.xd [(f, v)]) → W (.ref C) (some d) σ H2) : RAISE K C f W σ [v] H1 :=
  ⟨by simp, fun a ha => ⟨a, v, rfl, upd_same, T, fun dx hdx ne => by
    have hd1 : H1 dx = none := by rw [upd_ne ne] at hdx; exact hdx
    refine ⟨rfl, dx, [(f, v)], upd_same, ?_, hd1, ?_⟩
    · rw [upd_ne ne, upd_same]
    · have z : upd (del (upd (upd (upd H1 a (exo a C none)) dx (exd dx [(f, v)])) a (exo a C (some dx))) a) dx (.xd [(f, v)]) = upd H1 dx (.xd [(f, v)]) := by
        funext b
        by_cases h1 : b = dx
        · rw [h1, upd_same, upd_same]
        · rw [upd_ne h1, upd_ne h1]
          by_cases h2 : b = a
          · rw [h2, del_same, ha]
          · rw [del_ne h2, upd_ne h2, upd_ne h1, upd_ne h2]
      rw [z]
      exact k dx _ hd1 (Ex.new hd1) upd_same⟩⟩
theorem ps_raiseE {X : Cx} {K : PySem.W.Frag} {W : WX} {x : Str} {C : Addr} {f : Str} {e : Expr} {ta : TA} {p pos pos2 : Pos} (hc : X.calm = true) (tk : Takes X W) (N : Exn X.prog X.w X.K X.mg X.base x C f) (hr : Room 2 X.A) (ha : PA X [e] ta) (hK : X.K = K := by rfl) (hg : Gl X x := by rfl)
    (hdb : (x == ("__debug__" : Str)) = false := by decide) (hst : starEach [e] X.env = (false, eval e X.env) :: starEach [] X.env := by rfl) (hpl : (backTo pos (starEach [] X.env)).any (·.1) = false := by rfl) :
    PS X (.Raise (some (.Call (.Name x p) [e] [] pos)) none pos2) (tRaiseE K C f W ta) := by
  subst hK
  obtain ⟨fI, fd, hm, T, iC, tI, F, hb⟩ := N
  exact ps_raise (pos := pos2) hc tk (pmk_oex (pos := pos) (p := p) T iC tI F hr hb .nil (fun _ _ _ _ _ _ _ h => by
    obtain ⟨_, _, _, _, _, _, _, _, _, _, _, _, z⟩ := h
    exact z.elim) hg hm ha hdb hst hpl)
theorem Exn.oex {P : Program} {w : World} {K : PySem.W.Frag} {mg : Str → Option Value} {base : Heap} {x : Str} {C : Addr} {f : Str} (N : Exn P w K mg base x C f) : OexC K C := let ⟨_, _, _, T, _⟩ := N; T
/-! ### the body of an __init__ -/
def tVeI' (K : PySem.W.Frag) (ta : TA) : TE := tVeI K ta
theorem n_vei {K : PySem.W.Frag} {σ : L2.St} {H : Hp} {ta : TA} {Q : VK} (k : ta σ H fun vs H1 => ∃ (a C : Addr) (ws : List V), vs = .ref a :: ws ∧ ws.length ≤ 1000 ∧ OexC K C ∧ H1 a = some (exo a C none) ∧ Q .non H1) : tVeI K ta σ H Q := k
/-! ### calls that may raise, in a try -/
theorem pe_calS {X : Cx} {k : Nat} {ps : List Str} {sp : Sp} {E : L2.St → XK} {x : Str} {p pos : Pos} {e : Expr} {es : List Expr} {t : TA} (C : Cal X.prog X.w X.K X.mg X.base k x ps [] sp) (hr : Room k X.A) (hx : ∀ σ, PassesAt (L2.CX X.prog X.w) X σ (E σ)) (ha : PA X (e :: es) t) (hg : Gl X x := by rfl) (hdb : (x == ("__debug__" : Str)) = false := by decide)
    (he : starEach (e :: es) X.env = (false, eval e X.env) :: starEach es X.env := by rfl) (hpl : (backTo pos (starEach es X.env)).any (·.1) = false := by rfl) : PE X (.Call (.Name x p) (e :: es) [] pos) (tCallS sp E t) := by
  obtain ⟨f, fd, ds, F, hm, hk, hb, hd⟩ := C
  cases hd
  exact pe_callS F hr hg hm hk hb hx ha hdb he hpl
theorem g_calS {sp : Sp} {E : L2.St → XK} {tr : TA} {σ : L2.St} {H : Hp} {Q : VK} (k : tr σ H fun vs H1 => sp vs H1 Q (E σ)) : tCallS sp E tr σ H Q := k
/-- the way out of a def: E -/
theorem passE {X : Cx} {W : WX} {E : XK} (tk : Takes X W) (hW : ∀ cls d σ H, E cls d H → W cls d σ H) : Passes (L2.CX X.prog X.w) X E := passes_call tk hW
/-! ### what except clauses ask -/
theorem n_as {K : PySem.W.Frag} {c : Value} {i : Nat} {ts : Addr → Value → Option Addr → TS} {Wout : WX} {D : Ends} {cls : Value} {d : Option Addr} {σ : L2.St} {H : Hp} (he : PySem.W.exmOne K cls c = some true)
    (k : ∀ a, H a = none → ts a cls d { nx := fun σ' H' => D.nx (σ'.set i none) H', rt := D.rt, bk := fun σ' H' => D.bk (σ'.set i none) H', ct := fun σ' H' => D.ct (σ'.set i none) H' } (σ.set i (some (.ref a))) H) : wAs K c i ts Wout D cls d σ H :=
  ⟨true, he, fun _ => k, fun z => by cases z⟩
theorem pe_xfK {X : Cx} {K : PySem.W.Frag} {a C : Addr} {oe : Obj} {cls : Value} {d : Option Addr} {pn : List (Addr × Obj)} {e : Expr} {te : TE} {pos : Pos} {n : Str} (T : XfC X.K C) (hno : PySem.W.findIn X.K (.ref C) n = some none)
    (hz : Zc cls d oe) (hf : ∃ vs, oe.data = .fields vs) (he : PE (X.suite a ((a, oe) :: pn)) e te) (hb : attributeBase e n X.env (eval e X.env) = eval e X.env := by rfl) :
    PE (X.suite a ((a, oe) :: pn)) (.Attribute e n pos) (tXf a cls d C n te) := pe_xf T hno hz hf he hb
def XFLD (a : Addr) (cls : Value) (d : Option Addr) (C : Addr) (f : Str) (Q : VK) (x : V) (H1 : Hp) : Prop := x = .ref a ∧ cls = .ref C ∧ ∃ (dd : Addr) (fs : List (Str × V)) (v : V), d = some dd ∧ H1 dd = some (.xd fs) ∧ fs.lookup f = some v ∧ Q v H1
theorem g_xf {a : Addr} {cls : Value} {d : Option Addr} {C : Addr} {f : Str} {te : TE} {σ : L2.St} {H : Hp} {Q : VK} (k : te σ H (XFLD a cls d C f Q)) : tXf a cls d C f te σ H Q := k
theorem n_xf {a d C : Addr} {f : Str} {v : V} {Q : VK} {H : Hp} (h : H d = some (.xd [(f, v)])) (k : Q v H) : XFLD a (.ref C) (some d) C f Q (.ref a) H := ⟨rfl, rfl, d, [(f, v)], v, rfl, h, by simp [List.lookup], k⟩
theorem nw_tup' {H H' : Hp} {t : Addr} {xs : List V} (e : Ex H H') (h : H' t = some (.tup xs)) : nw H H' t = some (.tup xs) := by
  cases q : H t with
  | none => rw [nw_new q]; exact h
  | some o =>
    have z := e _ _ q
    rw [h] at z
    cases z
    rw [nw_tup q rfl]
    exact h
def OST (K : PySem.W.Frag) (f : Str) (D : Ends) (σ : L2.St) (y x : V) (H2 : Hp) : Prop := ∃ a C : Addr, x = .ref a ∧ OexC K C ∧ PySem.W.findIn K (.ref C) f = some none ∧
  ((H2 a = some (exo a C none) ∧ ∀ dx, H2 dx = none → dx ≠ a → D.nx σ (upd (upd H2 dx (exd dx [(f, y)])) a (exo a C (some dx)))) ∨
    ∃ (dx : Addr) (fs : List (Str × V)), H2 a = some (exo a C (some dx)) ∧ H2 dx = some (exd dx fs) ∧ fs.length ≤ 900 ∧ D.nx σ (upd H2 dx (exd dx ((f, y) :: fs))))
theorem s_ost {K : PySem.W.Frag} {f : Str} {to te : TE} {D : Ends} {σ : L2.St} {H : Hp} (k : te σ H fun y H1 => to σ H1 fun x H2 => OST K f D σ y x H2) : tOst K f to te D σ H := k
end NX

namespace NX
open PySem PySem.Spec PyProof.Rows L2
open Evl (Ex ex_l ex_t fresh_back)
abbrev s_NoChannel___init__ : Stmt := inClass (top 4) 0
theorem sc_NoChannel___init__ : FnScope ["self", "channel"] ["self", "channel"] (defScope s_NoChannel___init__) := ⟨rfl, rfl, rfl, by decide +kernel, rfl, by decide +kernel, by decide +kernel⟩
abbrev s_NoNetwork___init__ : Stmt := inClass (top 2) 0
theorem sc_NoNetwork___init__ : FnScope ["self", "index"] ["self", "index"] (defScope s_NoNetwork___init__) := ⟨rfl, rfl, rfl, by decide +kernel, rfl, by decide +kernel, by decide +kernel⟩
theorem ok_ini_NoChannel {P : Program} {w : World} {K : PySem.W.Frag} {mg : Str → Option Value} {base : Heap} {CL C0 : Addr} {f : Addr} {fd : FuncData} (F : Fun K "__init__" "NoChannel.__init__" s_NoChannel___init__ f fd) (m_ChannelError : mg "ChannelError" = some (.ref C0)) (BC : BaseC K C0) (hno : PySem.W.findIn K (.ref CL) "channel" = some none) : FnOk P w K mg base CX0 1 f fd ["self", "channel"] (spExInit K CL "channel") := by
  refine F.ok sc_NoChannel___init__ (fun vs H Q E h => ?_) (fun cdv A outer s H vs Q E hr h => ?_)
  · obtain ⟨a, v, rfl, _⟩ := h
    rfl
  · obtain ⟨a, v, rfl, ha, T, k⟩ := h
    refine ⟨_, (pss_cons (ps_expr (pe_oeinit (K := K) m_ChannelError BC (pa_cons (pv 0) (pa_cons pe_str pa_nil))))
      (pss_one (ps_ost (pv 0) (pv 1) rfl))), ?_⟩
    walk_at "go"
    refine n_vei ?_
    walk_at "go"
    refine ⟨a, CL, _, rfl, by simp, T, ha, ?_⟩
    refine s_ost ?_
    walk_at "go"
    exact ⟨a, CL, rfl, T, hno, .inl ⟨ha, fun dx h1 h2 => k dx h1 h2⟩⟩
theorem ok_ini_NoNetwork {P : Program} {w : World} {K : PySem.W.Frag} {mg : Str → Option Value} {base : Heap} {CL C0 : Addr} {f : Addr} {fd : FuncData} (F : Fun K "__init__" "NoNetwork.__init__" s_NoNetwork___init__ f fd) (m_ChannelError : mg "ChannelError" = some (.ref C0)) (BC : BaseC K C0) (hno : PySem.W.findIn K (.ref CL) "index" = some none) : FnOk P w K mg base CX0 1 f fd ["self", "index"] (spExInit K CL "index") := by
  refine F.ok sc_NoNetwork___init__ (fun vs H Q E h => ?_) (fun cdv A outer s H vs Q E hr h => ?_)
  · obtain ⟨a, v, rfl, _⟩ := h
    rfl
  · obtain ⟨a, v, rfl, ha, T, k⟩ := h
    refine ⟨_, (pss_cons (ps_expr (pe_oeinit (K := K) m_ChannelError BC (pa_cons (pv 0) (pa_cons pe_str pa_nil))))
      (pss_one (ps_ost (pv 0) (pv 1) rfl))), ?_⟩
    walk_at "go"
    refine n_vei ?_
    walk_at "go"
    refine ⟨a, CL, _, rfl, by simp, T, ha, ?_⟩
    refine s_ost ?_
    walk_at "go"
    exact ⟨a, CL, rfl, T, hno, .inl ⟨ha, fun dx h1 h2 => k dx h1 h2⟩⟩
/-- the class at CL is raised with v as its field f -/
def Thr (E : XK) (CL : Addr) (f : Str) (v : V) (H : Hp) : Prop := ∀ d H', Ex H H' → H' d = some (.xd [(f, v)]) → E (.ref CL) (some d) H'
/-- a value of an odd kind -/
inductive OddV (G : Hp) : V → String → Prop where
  | non : OddV G .non "NoneType"
  | bl (b : Bool) : OddV G (.bl b) "bool"
  | str (s : Str) : OddV G (.str s) "str"
  | int (i : Int) : OddV G (.int i) "int"
  | lst {a : Addr} {xs : List V} (h : G a = some (.lst xs)) : OddV G (.ref a) "list"
  | tup {a : Addr} {xs : List V} (h : G a = some (.tup xs)) : OddV G (.ref a) "tuple"
  | dct {a : Addr} {kvs : List (List L2.Key × V)} (h : G a = some (.dT kvs)) : OddV G (.ref a) "dict"
theorem OddV.mono {G H : Hp} {v : V} {t : String} (h : OddV G v t) (e : Ex G H) : OddV H v t := by
  cases h with
  | non => exact .non
  | bl b => exact .bl b
  | str s => exact .str s
  | int i => exact .int i
  | lst h => exact .lst (e _ _ h)
  | tup h => exact .tup (e _ _ h)
  | dct h => exact .dct (e _ _ h)
theorem OddV.noT {G : Hp} {v : V} {t : String} (h : OddV G v t) : OddV (NX.noT G) v t := by
  cases h with
  | non => exact .non
  | bl b => exact .bl b
  | str s => exact .str s
  | int i => exact .int i
  | lst h => exact .lst (noT_of h fun ps z => by cases z)
  | tup h => exact .tup (noT_of h fun ps z => by cases z)
  | dct h => exact .dct (noT_of h fun ps z => by cases z)
theorem OddV.isT {K : PySem.W.Frag} {G : Hp} {v : V} {t : String} (h : OddV G v t) : IsT K G v t := by
  cases h with
  | non => exact ⟨.base .non, by decide +kernel⟩
  | bl b => exact ⟨.base (.bl b), by decide +kernel⟩
  | str s => exact ⟨.base (.str s), by decide +kernel⟩
  | int i => exact ⟨.base (.int i), by decide +kernel⟩
  | lst h => exact ⟨.base (.lst h), by decide +kernel⟩
  | tup h => exact ⟨.base (.tup h), by decide +kernel⟩
  | dct h => exact ⟨.base (.dT h), by decide +kernel⟩
theorem OddV.sm {G : Hp} {v : V} {t : String} (h : OddV G v t) : sameV v = true := by cases h <;> rfl
theorem IsT.mono {K : PySem.W.Frag} {H : Hp} {v : V} {t : String} (h : IsT K H v t) : okTy t = true := h.2
/-- no int from lo to hi -/
def NoIn (lo hi : Int) (v : V) (t : String) : Prop := t = "int" → ∃ i, v = .int i ∧ ¬ (lo ≤ i ∧ i ≤ hi)
end NX

namespace NX
open PySem PySem.Spec PyProof.Rows L2
open Evl (Ex ex_l ex_t fresh_back)
open LamX (CodeO TabB)
abbrev s__law_said : Stmt := top 16
theorem sc__law_said : FnScope ["_law_call", "_law_word", "e", "_law_is_network"] ["_law_call"] (defScope s__law_said) := ⟨rfl, rfl, rfl, by decide +kernel, rfl, by decide +kernel, by decide +kernel⟩
/-- which exception is of which class -/
structure Kinds (K : PySem.W.Frag) (CCh CNw CRg CSt : Addr) : Prop where
  cc : PySem.W.kitOne K (.ref CCh) (.ref CCh) = some true
  cn : PySem.W.kitOne K (.ref CCh) (.ref CNw) = some false
  cr : PySem.W.kitOne K (.ref CCh) (.ref CRg) = some false
  cs : PySem.W.kitOne K (.ref CCh) (.ref CSt) = some false
  nc : PySem.W.kitOne K (.ref CNw) (.ref CCh) = some false
  nn : PySem.W.kitOne K (.ref CNw) (.ref CNw) = some true
  nr : PySem.W.kitOne K (.ref CNw) (.ref CRg) = some false
  ns : PySem.W.kitOne K (.ref CNw) (.ref CSt) = some false
theorem kitNo3 {K : PySem.W.Frag} {t a b c : Value} (h1 : PySem.W.kitOne K t a = some false) (h2 : PySem.W.kitOne K t b = some false) (h3 : PySem.W.kitOne K t c = some false) : PySem.W.kitAny K t [a, b, c] = some false :=
  kitAny_cons h1 (fun _ => kitAny_cons h2 (fun _ => kitAny_cons h3 (fun _ => kitAny_nil) fun z => by cases z) fun z => by cases z) fun z => by cases z
theorem cls3 (a b c : Addr) : Paired ClsV [.ref a, .ref b, .ref c] [.ref a, .ref b, .ref c] := .cons (.own _) (.cons (.own _) (.cons (.own _) .nil))
/-- what is told of an exception -/
def ESaid (CCh CNw : Addr) (Q : VK) : XK := fun cls d H => ∃ dd, d = some dd ∧ ((∃ v, cls = .ref CCh ∧ H dd = some (.xd [("channel", v)]) ∧ Ret (.tup [.str "channel", v]) H Q) ∨ ∃ v, cls = .ref CNw ∧ H dd = some (.xd [("index", v)]) ∧ Ret (.tup [.str "network", v]) H Q)
def SaidT (CCh CNw : Addr) : (XK → Hp → VK → Prop) → Hp → VK → Prop := fun tl H Q => ∀ (E : XK) (Q' : VK), (∀ cls d H', ESaid CCh CNw Q cls d H' → E cls d H') → (∀ v H', Q (.str "told") H' → Q' v H') → tl E H Q'
theorem said_gives {X : Cx} {C0 CCh CNw CRg CSt g : Addr} {cdg : Value} {q : Str} (T : Txt X.mg) (m_ChannelError : X.mg "ChannelError" = some (.ref C0)) (m_NoChannel : X.mg "NoChannel" = some (.ref CCh)) (m_NoNetwork : X.mg "NoNetwork" = some (.ref CNw)) (m_HasRing : X.mg "HasRing" = some (.ref CRg))
    (m_NoStation : X.mg "NoStation" = some (.ref CSt)) (XF_NoChannel : XfC X.K CCh) (XN_NoChannel : PySem.W.findIn X.K (.ref CCh) "channel" = some none) (XF_NoNetwork : XfC X.K CNw) (XN_NoNetwork : PySem.W.findIn X.K (.ref CNw) "index" = some none) (E1 : ExcD X.K CCh) (E2 : ExcD X.K CNw)
    (te1 : PySem.W.exmOne X.K (.ref CCh) (.ref C0) = some true) (te2 : PySem.W.exmOne X.K (.ref CNw) (.ref C0) = some true) (kd : Kinds X.K CCh CNw CRg CSt) :
    GivesS X ["_law_call", "_law_word", "e", "_law_is_network"] "_law_said" (defScope s__law_said) g cdg (defBody s__law_said) "_law_call" q (SaidT CCh CNw) := by
  intro f c' s H Q tl act hc h
  refine ⟨_, (pss_cons (ps_set (i := 1) sc__law_said.nd rfl (Or.inl rfl) pe_str)
      (pss_cons (ps_try_as (i := 2) rfl rfl sc__law_said.nd rfl rfl ⟨rfl, by decide, Or.inl m_ChannelError⟩ takes0 (fun W pn xe tk _ => (pss_one (ps_expr (act W pn xe _ _ tk)))) (fun a oe cls d pn hz hf => (pss_cons (ps_if (PW.pt (pw_and (pt_val (pe_callB (call_isX (K := X.K) hz hf) (by rfl) T.n_isinstance (by decide +kernel) (pa_cons (pv 2) (pa_cons (pe_cls m_NoChannel) pa_nil)))) (pw_and1 (pt_not (pt_val (pe_callB (call_isX (K := X.K) hz hf) (by rfl) T.n_isinstance (by decide +kernel) (pa_cons (pv 2) (pa_cons (pe_tup (pa_cons (pe_cls m_HasRing) (pa_cons (pe_cls m_NoNetwork) (pa_cons (pe_cls m_NoStation) pa_nil)))) pa_nil)))))))) (pss_one (ps_ret (pe_tup (pa_cons pe_str (pa_cons (pe_xf XF_NoChannel XN_NoChannel hz hf (pv 2)) pa_nil))))) pss_nil)
      (pss_cons (ps_set (i := 3) sc__law_said.nd rfl (Or.inl rfl) (pe_and (pe_callB (call_isX (K := X.K) hz hf) (by rfl) T.n_isinstance (by decide +kernel) (pa_cons (pv 2) (pa_cons (pe_cls m_NoNetwork) pa_nil))) (pe_one (pe_not (pe_callB (call_isX (K := X.K) hz hf) (by rfl) T.n_isinstance (by decide +kernel) (pa_cons (pv 2) (pa_cons (pe_tup (pa_cons (pe_cls m_HasRing) (pa_cons (pe_cls m_NoChannel) (pa_cons (pe_cls m_NoStation) pa_nil)))) pa_nil)))))))
      (pss_one (ps_set (i := 1) sc__law_said.nd rfl (Or.inl rfl) (pe_ifExp (pt_val (pv 3)) (pe_tup (pa_cons pe_str (pa_cons (pe_xf XF_NoNetwork XN_NoNetwork hz hf (pv 2)) pa_nil))) pe_str)))))))
      (pss_one (ps_ret (pv 1))))), ?_⟩
  walk_at "go"
  refine g_act rfl hc ?_
  refine h _ _ (fun cls d H' hE => ?_) (fun v H' hq => ?_)
  · obtain ⟨dd, rfl, (⟨v, rfl, hd, hq⟩ | ⟨v, rfl, hd, hq⟩)⟩ := hE
    · refine n_as te1 fun a0 ha0 => ?_
      walk_at "go"
      refine ⟨CCh, dd, _, _, true, rfl, rfl, hd, E1, rfl, .inl ⟨_, .own _, kd.cc⟩, ?_⟩
      walk_at "go"
      refine n_tup (Own.start H') (by show 3 ≤ 10000000; decide) fun t1 G1 H1 _ _ e1 ht1 S1 => ?_
      refine ⟨CCh, dd, _, _, false, rfl, rfl, e1 _ _ hd, E1, rfl, .inr ⟨t1, _, _, rfl, S1.ex _ _ ht1, cls3 _ _ _, kitNo3 kd.cr kd.cn kd.cs⟩, ?_⟩
      walk_at "go"
      refine g_xf ?_
      walk_at "go"
      refine n_xf (e1 _ _ hd) ?_
      walk_at "go"
      refine n_tup S1 (by show 2 ≤ 10000000; decide) fun t2 G2 H2 ht20 _ e2 ht2 S2 => ?_
      exact hq t2 H2 (fresh_back e1 ht20) (e1.trans e2) (S2.ex _ _ ht2)
    · refine n_as te2 fun a0 ha0 => ?_
      walk_at "go"
      refine ⟨CNw, dd, _, _, false, rfl, rfl, hd, E2, rfl, .inl ⟨_, .own _, kd.nc⟩, ?_⟩
      walk_at "go"
      refine ⟨CNw, dd, _, _, true, rfl, rfl, hd, E2, rfl, .inl ⟨_, .own _, kd.nn⟩, ?_⟩
      walk_at "go"
      refine n_tup (Own.start H') (by show 3 ≤ 10000000; decide) fun t1 G1 H1 _ _ e1 ht1 S1 => ?_
      refine ⟨CNw, dd, _, _, false, rfl, rfl, e1 _ _ hd, E2, rfl, .inr ⟨t1, _, _, rfl, S1.ex _ _ ht1, cls3 _ _ _, kitNo3 kd.nr kd.nc kd.ns⟩, ?_⟩
      walk_at "go"
      refine g_xf ?_
      walk_at "go"
      refine n_xf (e1 _ _ hd) ?_
      walk_at "go"
      refine n_tup S1 (by show 2 ≤ 10000000; decide) fun t2 G2 H2 ht20 _ e2 ht2 S2 => ?_
      walk_at "go"
      exact hq t2 H2 (fresh_back e1 ht20) (e1.trans e2) (S2.ex _ _ ht2)
  · walk_at "go"
    exact hq
end NX

namespace NX
open PySem PySem.Spec PyProof.Rows L2
open Evl (Ex ex_l ex_t fresh_back)
/-- the greatest channel with n stations: how many of the first ten sizes are at most n -/
def gw (off : Bool) (n : Int) : Int := (((List.range 10).filter fun i => decide (fw off i ≤ n)).length : Nat)
theorem gw_is : ∀ off : Bool, ∀ n : Nat, n < 61 → ∀ j : Nat, j < 9 → fw off j ≤ n → ¬ fw off (j + 1) ≤ n → gw off n = (j : Int) + 1 := by decide +kernel
theorem fw_ten : ∀ off : Bool, (60 : Int) < fw off 9 := by decide +kernel
theorem fw_one (off : Bool) : fw off 0 = 1 := rfl
abbrev s_greatest_with : Stmt := top 12
theorem sc_greatest_with : FnScope ["stations", "found", "off", "channel"] ["stations"] (defScope s_greatest_with) := ⟨rfl, rfl, rfl, by decide +kernel, rfl, by decide +kernel, by decide +kernel⟩
def gwL (n : Int) : List V := [.int (gw true n), .int (gw false n)]
def spGWith : Sp := fun vs H Q _ => ∃ (n : Int), vs = [.int n] ∧ 1 ≤ n ∧ n ≤ 60 ∧ ∀ p H', H p = none → Ex H H' → H' p = some (.tup (gwL n)) → Q (.ref p) H'
section
variable {P : Program} {w : World} {K : PySem.W.Frag} {mg : Str → Option Value} {base : Heap}
theorem ok_gwith {f : Addr} {fd : FuncData} (F : Fun K "greatest_with" "greatest_with" s_greatest_with f fd) (T : Txt mg)
    (c_is_int : Cal P w K mg base 1 "is_int" ["value"] [] (spIsInt K))
    (k_fewest_stations_1_off : CalK P w K mg base 2 "fewest_stations" ["channel", "off"] 1 ["off"] (fun vs zs => vs ++ zs) spFewest) : FnOk P w K mg base CX0 3 f fd ["stations"] spGWith := by
  refine F.ok sc_greatest_with (fun vs H Q E h => ?_) (fun cdv A outer s H vs Q E hr h => ?_)
  · obtain ⟨n, rfl, _⟩ := h
    rfl
  · obtain ⟨n, rfl, h1, h2, k⟩ := h
    refine ⟨_, (pss_cons (ps_if (PW.pt (pw_or (pt_not (pt_val (pe_cal c_is_int (hr.mono (by first | decide | omega)) passN (pa_cons (pv 0) pa_nil)))) (pw_or1 (pt_not (pt_chain op_le op_le pe_int (pv 0) (pe_cst (by rfl) T.m_MAX_STATIONS)))))) (pss_one ps_never) pss_nil)
      (pss_cons (ps_set (i := 1) sc_greatest_with.nd rfl (Or.inl rfl) (pe_lst pa_nil))
      (pss_cons (ps_for PassesOwn.never rfl (pi_tup (pe_tup (pa_cons pe_bl (pa_cons pe_bl pa_nil)))) (pg_name (i := 2) sc_greatest_with.nd rfl (Or.inl rfl)) (pss_cons (ps_set (i := 3) sc_greatest_with.nd rfl (Or.inl rfl) pe_int)
      (pss_cons (ps_while PassesOwn.never (pt_cmpR op_le (pe_calK k_fewest_stations_1_off (hr.mono (by first | decide | omega)) passN (pa_cons (pe_op op_add (pv 3) pe_int) pa_nil) (pk_cons (pv 2) pk_nil)) (pv 0) (nomark _)) (pss_one (ps_aug (i := 3) sc_greatest_with.nd rfl (Or.inl rfl) pe_int ip_add)))
      (pss_one (ps_expr (pe_bm PySem.F.plainAttrs_list PySem.F.slot_list_append PySem.F.type_list_append mt_append (pv 1) (pa_cons (pv 3) pa_nil)))))))
      (pss_one (ps_ret (pe_callTy call_tupN (by rfl) T.n_tuple (by decide +kernel) (pa_cons (pv 1) pa_nil))))))), ?_⟩
    walk_at "go"
    refine g_isint ?_
    walk_at "go"
    refine if_tt (dtrue (by omega)) ?_
    walk_at "go"
    refine if_ff (ntrue (by omega)) ?_
    walk_at "go"
    refine n_lst (Own.start H) (by decide) fun p H1 hp S1 => ?_
    walk_at "go"
    refine n_tup S1 (by decide) fun t G2 H2 _ e2 _ ht S2 => ?_
    walk_at "go"
    refine w_tup (fun i σ' H' => (∃ x y, σ' = [some (.int n), some (.ref p), x, y]) ∧ Own G2 [(p, .lst ((gwL n).take i))] H') (S2.st (SqT.of ht)) ⟨⟨none, none, rfl⟩, S2⟩ (fun i σ' H' h => h.2.st (SqT.of ht)) ?_ ?_
    · rintro i x σ' H' hx ⟨⟨x0, y0, rfl⟩, S⟩
      obtain ⟨off, rfl, hi⟩ : ∃ off, x = .bl off ∧ (gwL n).take (i + 1) = (gwL n).take i ++ [.int (gw off n)] := by
        match i, hx with
        | 0, hx => exact ⟨true, (Option.some.inj hx).symm, rfl⟩
        | 1, hx => exact ⟨false, (Option.some.inj hx).symm, rfl⟩
        | i + 2, hx => simp at hx
      walk_at "go"
      refine s_while (fun m σ' H' => ∃ j : Nat, j < 9 ∧ m = 9 - j ∧ fw off j ≤ n ∧ σ' = [some (.int n), some (.ref p), some (.bl off), some (.int ((j : Int) + 1))] ∧ Own G2 [(p, .lst ((gwL n).take i))] H') 9 ⟨0, by decide, rfl, by rw [fw_one]; exact h1, rfl, S⟩ ?_
      rintro m σ' H' ⟨j, hj, rfl, hw, rfl, S⟩
      walk_at "go"
      refine ⟨rfl, rfl, n_few (j + 1) S (by omega) (by omega) fun H3 S3 => ?_⟩
      walk_at "go"
      refine if_2 (fun e => ?_) (fun e => ?_)
      · have e := of_decide_eq_true e
        have hj2 : j ≠ 8 := fun z => by
          have q := fw_ten off
          have e9 : fw off 9 ≤ n := by rw [z] at e; exact e
          omega
        refine s_turn ?_
        walk_at "go"
        exact ⟨9 - (j + 1), by omega, j + 1, by omega, rfl, e, rfl, S3⟩
      · have e := of_decide_eq_false e
        have z := gw_is off n.toNat (by omega) j hj (by omega) (by omega)
        rw [Int.toNat_of_nonneg (by omega)] at z
        walk_at "go"
        refine ⟨tyL S3.l0, ?_⟩
        walk_at "go"
        refine n_app S3 (Nat.le_trans (by rw [List.length_take]; exact Nat.min_le_right _ _) (by show 2 ≤ 1000000; decide)) fun H4 S4 => ?_
        refine ⟨⟨_, _, rfl⟩, ?_⟩
        rw [hi, z]
        exact S4
    · rintro σ' H' ⟨⟨x0, y0, rfl⟩, S⟩
      walk_at "go"
      refine n_tupL S S.l0 fun q G3 H3 hq e3 e3' h3 S3 => ?_
      exact k q H3 (fresh_back (e2.trans S.ex) hq) ((e2.trans e3).trans S3.ex) (S3.ex _ _ h3)
end
end NX

namespace NX
open PySem PySem.Spec PyProof.Rows L2
open Evl (Ex ex_l ex_t fresh_back)
def spFewBad (CCh : Addr) : Sp := fun vs H _ E => ∃ (v : V) (off : Bool) (t : String), vs = [v, .bl off] ∧ OddV H v t ∧ NoIn 1 60 v t ∧ Thr E CCh "channel" v H
def spGwBad (CNw : Addr) : Sp := fun vs H _ E => ∃ (v : V) (t : String), vs = [v] ∧ OddV H v t ∧ NoIn 1 60 v t ∧ Thr E CNw "index" (.int (-1)) H
section
variable {P : Program} {w : World} {K : PySem.W.Frag} {mg : Str → Option Value} {base : Heap} {CCh CNw : Addr}
theorem ok_fewBad {f : Addr} {fd : FuncData} (F : FunD K "fewest_stations" "fewest_stations" (defArgs s_fewest_stations) (defBody s_fewest_stations) (defScope s_fewest_stations) [] [("off", .bl true)] f fd) (T : Txt mg)
    (c_is_int : Cal P w K mg base 1 "is_int" ["value"] [] (spIsInt K)) (X_NoChannel : Exn P w K mg base "NoChannel" CCh "channel") : FnOk P w K mg base (L2.CX P w) 3 f fd ["channel", "off"] (spFewBad CCh) := by
  refine F.ok sc_fewest_stations (fun vs H Q E h => ?_) (fun cdv A outer s H vs Q E hr h => ?_)
  · obtain ⟨v, off, t, rfl, _⟩ := h
    rfl
  · obtain ⟨v, off, t, rfl, ht, hb, kE⟩ := h
    refine ⟨_, (pss_cons (ps_if (PW.pt (pw_or (pt_not (pt_val (pe_cal c_is_int (hr.mono (by first | decide | omega)) passN (pa_cons (pv 0) pa_nil)))) (pw_or1 (pt_not (pt_chain op_le op_le pe_int (pv 0) (pe_cst (by rfl) T.m_MAX_CHANNEL)))))) (pss_one (ps_raiseE (K := K) rfl (takes_of rfl rfl rfl rfl) X_NoChannel (hr.mono (by first | decide | omega)) (pa_cons (pv 0) pa_nil))) pss_nil)
      (pss_cons (ps_set (i := 2) sc_fewest_stations.nd rfl (Or.inl rfl) (pe_lst (pa_cons pe_int pa_nil)))
      (pss_cons (ps_set (i := 3) sc_fewest_stations.nd rfl (Or.inl rfl) pe_int)
      (pss_cons (ps_while (passes_of rfl) (pt_cmpR op_lt (pe_callB call_lenN (by rfl) T.n_len (by decide +kernel) (pa_cons (pv 2) pa_nil)) (pv 0) (nomark _)) (pss_cons (ps_par (i := 3) (j := 4) rfl sc_fewest_stations.nd rfl rfl (by decide) rfl rfl (pa_cons (pe_ix ix_list (pv 2) (pe_un un_neg pe_int) (fun _ _ => rfl)) (pa_cons (pv 3) pa_nil)) rfl)
      (pss_one (ps_expr (pe_bm PySem.F.plainAttrs_list PySem.F.slot_list_append PySem.F.type_list_append mt_append (pv 2) (pa_cons (pe_op op_add (pv 3) (pe_ifExp (pt_val (pv 1)) (pv 4) (pv 3))) pa_nil))))))
      (pss_one (ps_ret (pe_ix ix_list (pv 2) (pe_un un_neg pe_int) (fun _ _ => rfl)))))))), ?_⟩
    walk_at "go"
    refine ⟨v, t, rfl, ht.isT, ?_⟩
    walk_at "go"
    by_cases c : t = "int"
    · subst c
      obtain ⟨i, rfl, hi⟩ := hb rfl
      refine if_ff (by decide +kernel) ?_
      walk_at "go"
      refine if_2 (fun e1 => ?_) (fun e1 => ?_)
      · have e1 := of_decide_eq_true e1
        walk_at "go"
        refine if_tt (nfalse (by omega)) ?_
        refine s_raiseE ?_
        walk_at "go"
        exact n_raise X_NoChannel.oex fun d H4 _ e4 hd => kE d H4 e4 hd
      · walk_at "go"
        refine s_raiseE ?_
        walk_at "go"
        exact n_raise X_NoChannel.oex fun d H4 _ e4 hd => kE d H4 e4 hd
    · have e : (t == "int") = false := by simp [c]
      rw [e]
      walk_at "go"
      refine s_raiseE ?_
      walk_at "go"
      exact n_raise X_NoChannel.oex fun d H4 _ e4 hd => kE d H4 e4 hd
theorem ok_gwBad {f : Addr} {fd : FuncData} (F : Fun K "greatest_with" "greatest_with" s_greatest_with f fd) (T : Txt mg)
    (c_is_int : Cal P w K mg base 1 "is_int" ["value"] [] (spIsInt K)) (k_fewest_stations_1_off : CalK P w K mg base 2 "fewest_stations" ["channel", "off"] 1 ["off"] (fun vs zs => vs ++ zs) spFewest) (X_NoNetwork : Exn P w K mg base "NoNetwork" CNw "index") : FnOk P w K mg base (L2.CX P w) 3 f fd ["stations"] (spGwBad CNw) := by
  refine F.okX sc_greatest_with (fun vs H Q E h => ?_) (fun cdv A outer s H vs Q E hr h => ?_)
  · obtain ⟨v, t, rfl, _⟩ := h
    rfl
  · obtain ⟨v, t, rfl, ht, hb, kE⟩ := h
    refine ⟨_, (pss_cons (ps_if (PW.pt (pw_or (pt_not (pt_val (pe_cal c_is_int (hr.mono (by first | decide | omega)) passN (pa_cons (pv 0) pa_nil)))) (pw_or1 (pt_not (pt_chain op_le op_le pe_int (pv 0) (pe_cst (by rfl) T.m_MAX_STATIONS)))))) (pss_one (ps_raiseE (K := K) rfl (takes_of rfl rfl rfl rfl) X_NoNetwork (hr.mono (by first | decide | omega)) (pa_cons (pe_un un_neg pe_int) pa_nil))) pss_nil)
      (pss_cons (ps_set (i := 1) sc_greatest_with.nd rfl (Or.inl rfl) (pe_lst pa_nil))
      (pss_cons (ps_for (passes_of rfl) rfl (pi_tup (pe_tup (pa_cons pe_bl (pa_cons pe_bl pa_nil)))) (pg_name (i := 2) sc_greatest_with.nd rfl (Or.inl rfl)) (pss_cons (ps_set (i := 3) sc_greatest_with.nd rfl (Or.inl rfl) pe_int)
      (pss_cons (ps_while (passes_of rfl) (pt_cmpR op_le (pe_calK k_fewest_stations_1_off (hr.mono (by first | decide | omega)) passN (pa_cons (pe_op op_add (pv 3) pe_int) pa_nil) (pk_cons (pv 2) pk_nil)) (pv 0) (nomark _)) (pss_one (ps_aug (i := 3) sc_greatest_with.nd rfl (Or.inl rfl) pe_int ip_add)))
      (pss_one (ps_expr (pe_bm PySem.F.plainAttrs_list PySem.F.slot_list_append PySem.F.type_list_append mt_append (pv 1) (pa_cons (pv 3) pa_nil)))))))
      (pss_one (ps_ret (pe_callTy call_tupN (by rfl) T.n_tuple (by decide +kernel) (pa_cons (pv 1) pa_nil))))))), ?_⟩
    walk_at "go"
    refine ⟨v, t, rfl, ht.isT, ?_⟩
    walk_at "go"
    by_cases c : t = "int"
    · subst c
      obtain ⟨i, rfl, hi⟩ := hb rfl
      refine if_ff (by decide +kernel) ?_
      walk_at "go"
      refine if_2 (fun e1 => ?_) (fun e1 => ?_)
      · have e1 := of_decide_eq_true e1
        walk_at "go"
        refine if_tt (nfalse (by omega)) ?_
        refine s_raiseE ?_
        walk_at "go"
        exact n_raise X_NoNetwork.oex fun d H4 _ e4 hd => kE d H4 e4 hd
      · walk_at "go"
        refine s_raiseE ?_
        walk_at "go"
        exact n_raise X_NoNetwork.oex fun d H4 _ e4 hd => kE d H4 e4 hd
    · have e : (t == "int") = false := by simp [c]
      rw [e]
      walk_at "go"
      refine s_raiseE ?_
      walk_at "go"
      exact n_raise X_NoNetwork.oex fun d H4 _ e4 hd => kE d H4 e4 hd
end
end NX

namespace NX
open PySem PySem.Spec PyProof.Rows L2
open Evl (Ex ex_l ex_t fresh_back)
/-- a draw below n: some number, the well in some other state -/
def spDraw : Sp := fun vs H Q _ => ∃ (W : Addr) (a b c n : Int), vs = [.ref W, .int n] ∧ H W = some (wl a b c) ∧ 0 < n ∧ n < 1073741824 ∧ ∀ r a' b' c', 0 ≤ r → r < n → Q (.int r) (upd H W (wl a' b' c'))
theorem n_draw {H G : Hp} {L : List (Addr × HO)} {W : Addr} {a b c n : Int} {Q : VK} {E : XK} (S : Own G ((W, wl a b c) :: L) H) (h : 0 < n ∧ n < 1073741824) (k : ∀ r a' b' c' H1, 0 ≤ r → r < n → Own G ((W, wl a' b' c') :: L) H1 → Q (.int r) H1) : spDraw [.ref W, .int n] H Q E :=
  ⟨W, a, b, c, n, rfl, S.get0, h.1, h.2, fun r a' b' c' h1 h2 => k r a' b' c' _ h1 h2 S.put0⟩
abbrev s__law_draw : Stmt := top 14
theorem sc__law_draw : FnScope ["_law_well", "_law_limit", "_law_found", "_law_number"] ["_law_well", "_law_limit"] (defScope s__law_draw) := ⟨rfl, rfl, rfl, by decide +kernel, rfl, by decide +kernel, by decide +kernel⟩
section
variable {P : Program} {w : World} {K : PySem.W.Frag} {mg : Str → Option Value} {base : Heap}
theorem ok_draw {f : Addr} {fd : FuncData} (F : Fun K "_law_draw" "_law_draw" s__law_draw f fd) : FnOk P w K mg base CX0 1 f fd ["_law_well", "_law_limit"] spDraw := by
  refine F.ok sc__law_draw (fun vs H Q E h => ?_) (fun cdv A outer s H vs Q E hr h => ?_)
  · obtain ⟨W, a, b, c, n, rfl, _⟩ := h
    rfl
  · obtain ⟨W, a, b, c, n, rfl, hW, h1, h2, k⟩ := h
    refine ⟨_, (pss_cons (ps_if (pt_cmpR op_gt (pe_ix ix_list (pv 0) pe_int (fun _ _ => rfl)) pe_int (nomark _)) (pss_cons (ps_set (i := 2) sc__law_draw.nd rfl (Or.inl rfl) (pe_op op_mod (pe_ix ix_list (pv 0) pe_int (fun _ _ => rfl)) (pv 1)))
      (pss_cons (ps_asg (pe_op op_fdiv (pe_ix ix_list (pv 0) pe_int (fun _ _ => rfl)) (pv 1)) (pg_sub (pv 0) pe_int set_list))
      (pss_one (ps_ret (pv 2))))) pss_nil)
      (pss_cons (ps_asg (pe_op op_add (pe_ix ix_list (pv 0) pe_int (fun _ _ => rfl)) pe_int) (pg_sub (pv 0) pe_int set_list))
      (pss_cons (ps_set (i := 3) sc__law_draw.nd rfl (Or.inl rfl) (pe_op op_mod (pe_op op_mul (pe_op op_add (pe_op op_add (pe_ix ix_list (pv 0) pe_int (fun _ _ => rfl)) (pe_op op_mul pe_int (pe_ix ix_list (pv 0) pe_int (fun _ _ => rfl)))) pe_int) pe_int) pe_int))
      (pss_cons (ps_set (i := 3) sc__law_draw.nd rfl (Or.inl rfl) (pe_op op_mod (pe_op op_mul (pv 3) (pe_op op_add (pe_op op_fdiv (pv 3) pe_int) pe_int)) pe_int))
      (pss_one (ps_ret (pe_op op_mod (pe_op op_mod (pe_op op_mul (pv 3) (pe_op op_add (pe_op op_fdiv (pv 3) pe_int) pe_int)) pe_int) (pv 1)))))))), ?_⟩
    have hS : SqL K H W [.int a, .int b, .int c] := SqL.of hW
    walk_at "go"
    refine g_ixL (i := 0) hS rfl ?_
    walk_at "go"
    refine if_2 (fun e => ?_) (fun e => ?_)
    · walk_at "go"
      refine g_ixL (i := 0) hS rfl ?_
      walk_at "go"
      refine g_I h1 ?_
      walk_at "go"
      refine g_ixL (i := 0) hS rfl ?_
      walk_at "go"
      refine g_I ⟨h1, h2⟩ ?_
      walk_at "go"
      refine n_setLi (i := 0) hW rfl ?_
      walk_at "go"
      exact k _ _ _ _ (mod_rng h1).1 (mod_rng h1).2
    · walk_at "go"
      refine g_ixL (i := 2) hS rfl ?_
      walk_at "go"
      refine n_setLi (i := 2) hW rfl ?_
      have hS2 : SqL K (upd H W (.lst [.int a, .int b, .int (c + 1)])) W [.int a, .int b, .int (c + 1)] := SqL.of upd_same
      walk_at "go"
      refine g_ixL (i := 1) hS2 rfl ?_
      walk_at "go"
      refine g_ixL (i := 2) hS2 rfl ?_
      walk_at "go"
      refine g_I (.inl ⟨by decide, by decide⟩) ?_
      walk_at "go"
      refine g_I (.inr ⟨by decide, by decide⟩) ?_
      walk_at "go"
      refine g_I (by decide) ?_
      walk_at "go"
      have z1 := mod_rng (a := (b + 104729 * (c + 1) + 1) * 48271) (m := 2147483647) (by decide)
      generalize (b + 104729 * (c + 1) + 1) * 48271 % 2147483647 = x at z1 ⊢
      refine g_I ⟨by decide, by decide⟩ ?_
      walk_at "go"
      refine g_I (.inl ⟨by omega, by omega⟩) ?_
      walk_at "go"
      refine g_I (by decide) ?_
      walk_at "go"
      have z2 := mod_rng (a := x * (x / 1009 + 69621)) (m := 2147483647) (by decide)
      generalize x * (x / 1009 + 69621) % 2147483647 = y at z2 ⊢
      refine g_I ⟨by decide, by decide⟩ ?_
      walk_at "go"
      refine g_I (.inl ⟨by omega, by omega⟩) ?_
      walk_at "go"
      refine g_I (by decide) ?_
      walk_at "go"
      refine g_I h1 ?_
      exact k _ _ _ _ (mod_rng h1).1 (mod_rng h1).2
end
end NX

namespace NX
/-! ### the sizes grow -/
theorem fw_pos (off : Bool) : ∀ n, 1 ≤ fw off n ∧ 1 ≤ fwB off n
  | 0 => ⟨Int.le_refl _, Int.le_refl _⟩
  | n + 1 => by
    have h := fw_pos off n
    refine ⟨?_, h.1⟩
    rw [fw_next]
    split <;> omega
theorem fw_up (off : Bool) (n : Nat) : fw off n < fw off (n + 1) := by
  have h := fw_pos off n
  rw [fw_next]
  split <;> omega
theorem fw_le (off : Bool) {n m : Nat} (h : n ≤ m) : fw off n ≤ fw off m := by
  induction m with
  | zero => have e : n = 0 := by omega
            subst e; exact Int.le_refl _
  | succ m ih =>
    by_cases c : n = m + 1
    · subst c; exact Int.le_refl _
    · exact Int.le_trans (ih (by omega)) (Int.le_of_lt (fw_up off m))
theorem fw_small (off : Bool) {c : Nat} (h : fw off c ≤ 60) : c < 9 := by
  rcases Nat.lt_or_ge c 9 with q | q
  · exact q
  · have h1 := fw_le off q
    have h2 := fw_ten off
    omega
end NX

namespace NX
open PySem PySem.Spec PyProof.Rows L2
open Evl (Ex ex_l ex_t fresh_back)
open LamX (CodeO TabB)
abbrev s__law_right : Stmt := top 17
theorem sc__law_right : FnScope ["_law_well", "_law_k", "_law_channel", "_law_is_off", "_law_size", "_law_due", "_law_odd", "_law_one"] ["_law_well", "_law_k"] (defScope s__law_right) := ⟨rfl, rfl, rfl, by decide +kernel, rfl, by decide +kernel, by decide +kernel⟩
abbrev s_law : Stmt := top 18
theorem sc_law : FnScope ["_law_script", "_law_k", "_law_cell", "_law_channel"] ["_law_script"] (defScope s_law) := ⟨rfl, rfl, rfl, by decide +kernel, rfl, by decide +kernel, by decide +kernel⟩
/-- the name of the lambdas of _law_right -/
def qR (c : Addr) : Str := (envOfC "_law_right" (defScope s__law_right) 0 0 (.ref c)).qual ++ "<lambda>"
/-- the well W, the table at P -/
def spRight (P : Addr) (q : Str) : Sp := fun vs H Q _ => ∃ (W : Addr) (a b d : Int) (x : V) (G : Hp) (ps : Array Value), vs = [.ref W, x] ∧ Own G [(W, wl a b d), (P, .tbl ps)] H ∧ TabG G ps q ∧
  ∀ H' G' a' b' d' ps', Ex (noT G) G' → Own G' [(W, wl a' b' d'), (P, .tbl ps')] H' → TabG G' ps' q → Q (.bl true) H'
def spLaw (P : Addr) (K : PySem.W.Frag) : Sp := fun vs H Q _ => ∃ (a : Addr) (ns : List Int), vs = [.ref a] ∧ SqL K H a (ns.map V.int) ∧ ns.length ≤ 63 ∧ H P = some (.tbl #[]) ∧ ∀ H', Q (.bl true) H'
theorem gw_max (off : Bool) (n : Nat) (hn : n < 61) (m : Nat) (hw : fw off m ≤ (n : Int)) (h : ∀ j, j < 10 → fw off j ≤ (n : Int) → j ≤ m) : gw off (n : Int) = (m : Int) + 1 := by
  have hm := fw_small off (c := m) (by omega)
  refine gw_is off n hn m hm hw fun z => ?_
  have := h (m + 1) (by omega) z
  omega
theorem n_gwR2 {G H : Hp} {L : List (Addr × HO)} {n : Int} {Q : VK} {E : XK} (S : Own G L H) (hn : 1 ≤ n ∧ n ≤ 60) (k : ∀ p G1 H1, Ex G G1 → G1 p = some (.tup (gwL n)) → Own G1 L H1 → Q (.ref p) H1) : spGWith [.int n] H Q E :=
  ⟨n, rfl, hn.1, hn.2, n_retG S fun p G1 H1 _ e _ h S1 => k p G1 H1 e h S1⟩
theorem n_dnewG {G H : Hp} {L : List (Addr × HO)} {σ : L2.St} {Q : VK} (S : Own G L H) (k : ∀ p G1 H1, Ex G G1 → G1 p = some (.dT []) → Own G1 L H1 → Q (.ref p) H1) : tDNewT σ H Q :=
  fun p hp => k p _ _ (S.lay hp).freeze.2.1 (S.lay hp).freeze.2.2 (S.lay hp).freeze.1
theorem Ex.noT' {G H : Hp} (e : Ex (NX.noT G) H) : Ex (NX.noT G) (NX.noT H) := fun a o h => noT_of (e _ _ h) (of_noT h).2
/-- an odd value for a channel, for a number of stations -/
def BadV (G : Hp) (v : V) : Prop := ∃ t, OddV G v t ∧ NoIn 1 60 v t
theorem BadV.mono {G H : Hp} {v : V} (h : BadV G v) (e : Ex G H) : BadV H v := let ⟨t, a, b⟩ := h; ⟨t, a.mono e, b⟩
theorem BadV.noT {G : Hp} {v : V} (h : BadV G v) : BadV (NX.noT G) v := let ⟨t, a, b⟩ := h; ⟨t, a.noT, b⟩
theorem BadV.sm {G : Hp} {v : V} (h : BadV G v) : sameV v = true := let ⟨_, a, _⟩ := h; a.sm
theorem bad_int {G : Hp} {i : Int} (h : ¬ (1 ≤ i ∧ i ≤ 60)) : BadV G (.int i) := ⟨_, .int i, fun _ => ⟨i, rfl, h⟩⟩
theorem bad_of {G : Hp} {v : V} {t : String} (h : OddV G v t) (ne : t ≠ "int") : BadV G v := ⟨t, h, fun e => absurd e ne⟩
section
variable {P : Program} {w : World} {K : PySem.W.Frag} {mg : Str → Option Value} {base : Heap} {CCh CNw c Pt : Addr}
theorem ok_right {f : Addr} {fd : FuncData} (F : FunC K "_law_right" "_law_right" s__law_right f fd c) (T : Txt mg) (TB : TabB base mg c Pt)
    (c__law_draw : Cal P w K mg base 1 "_law_draw" ["_law_well", "_law_limit"] [] spDraw)
    (c_fewest_stations_1 : Cal P w K mg base 2 "fewest_stations" ["channel", "off"] [.bl true] spFewest)
    (k_fewest_stations_1_off : CalK P w K mg base 2 "fewest_stations" ["channel", "off"] 1 ["off"] (fun vs zs => vs ++ zs) spFewest)
    (c_fewest_stations_1x : Cal P w K mg base 3 "fewest_stations" ["channel", "off"] [.bl true] (spFewBad CCh))
    (k_fewest_stations_1_offx : CalK P w K mg base 3 "fewest_stations" ["channel", "off"] 1 ["off"] (fun vs zs => vs ++ zs) (spFewBad CCh))
    (c_greatest_with : Cal P w K mg base 3 "greatest_with" ["stations"] [] spGWith) (c_greatest_withx : Cal P w K mg base 3 "greatest_with" ["stations"] [] (spGwBad CNw))
    (c__law_fewest : Cal P w K mg base 1 "_law_fewest" ["_law_channel", "_law_is_off"] [] spLFew) (L__law_said : LamDef P w K mg base "_law_said" "_law_call" (SaidT CCh CNw)) :
    FnOk P w K mg base CX0 7 f fd ["_law_well", "_law_k"] (spRight Pt (qR c)) := by
  refine F.ok sc__law_right (fun vs H Q E h => ?_) (fun A outer s H vs Q E hr h => ?_)
  · obtain ⟨W, a, b, d, x, G, ps, rfl, _⟩ := h
    rfl
  · obtain ⟨W, a, b, d, x, G, ps, rfl, S0, tg, k⟩ := h
    have hu65 : ∀ X : Cx, X.A = A.deeper (envOfC "_law_right" (defScope s__law_right) s.heap.objs.size f (.ref c)) → X.A.units + 65 < cLine := fun X e => by rw [e]; have := hr.un; omega
    refine ⟨_, (pss_cons (ps_set (i := 2) sc__law_right.nd rfl (Or.inl rfl) (pe_op op_add pe_int (pe_cal c__law_draw (hr.mono (by first | decide | omega)) passN (pa_cons (pv 0) (pa_cons pe_int pa_nil)))))
      (pss_cons (ps_for PassesOwn.never rfl (pi_tup (pe_tup (pa_cons pe_bl (pa_cons pe_bl pa_nil)))) (pg_name (i := 3) sc__law_right.nd rfl (Or.inr rfl)) (pss_one (ps_if (pt_cmpR op_ne (pe_calK k_fewest_stations_1_off (hr.mono (by first | decide | omega)) passN (pa_cons (pv 2) pa_nil) (pk_cons (pv 3) pk_nil)) (pe_cal c__law_fewest (hr.mono (by first | decide | omega)) passN (pa_cons (pv 2) (pa_cons (pv 3) pa_nil))) (nomark _)) (pss_one (ps_ret pe_bl)) pss_nil)))
      (pss_cons (ps_if (pt_cmpR op_ne (pe_calD c_fewest_stations_1 (hr.mono (by first | decide | omega)) passN (pa_cons (pv 2) pa_nil)) (pe_cal c__law_fewest (hr.mono (by first | decide | omega)) passN (pa_cons (pv 2) (pa_cons pe_bl pa_nil))) (nomark _)) (pss_one (ps_ret pe_bl)) pss_nil)
      (pss_cons (ps_set (i := 4) sc__law_right.nd rfl (Or.inr rfl) (pe_op op_add pe_int (pe_cal c__law_draw (hr.mono (by first | decide | omega)) passN (pa_cons (pv 0) (pa_cons pe_int pa_nil)))))
      (pss_cons (ps_set (i := 5) sc__law_right.nd rfl (Or.inl rfl) (pe_lst pa_nil))
      (pss_cons (ps_for PassesOwn.never rfl (pi_tup (pe_tup (pa_cons pe_bl (pa_cons pe_bl pa_nil)))) (pg_name (i := 3) sc__law_right.nd rfl (Or.inr rfl)) (pss_one (ps_expr (pe_bm PySem.F.plainAttrs_list PySem.F.slot_list_append PySem.F.type_list_append mt_append (pv 5) (pa_cons (pe_callB (cr_max rfl) (by rfl) T.n_max (by decide +kernel) (pa_cons (pe_lc (own := [("_law_one", 7)]) (by rfl) sc__law_right.nd (pi_range2 (by rfl) T.n_range (pa_cons pe_int (pa_cons pe_int pa_nil))) (blkOk_by (own := [("_law_one", 7)]) (N := ["_law_well", "_law_k", "_law_channel", "_law_is_off", "_law_size", "_law_due", "_law_odd", "_law_one"]) (sc := defScope s__law_right) (by decide +kernel)) (fun _ _ _ _ _ => (pg_name (i := 7) sc__law_right.nd rfl (Or.inl rfl))) (fun _ _ _ _ _ => (pts_one (pt_cmpR op_le (pe_cal c__law_fewest (hr.mono (by first | decide | omega)) passN (pa_cons (pv 7) (pa_cons (pv 3) pa_nil))) (pv 4) (nomark _)))) (fun _ _ _ _ _ => (pv 7))) pa_nil)) pa_nil)))))
      (pss_cons (ps_if (pt_cmpR (op_neD (Nat.lt_of_succ_lt (hu65 _ rfl))) (pe_cal c_greatest_with (hr.mono (by first | decide | omega)) passN (pa_cons (pv 4) pa_nil)) (pe_callTy call_tupN (by rfl) T.n_tuple (by decide +kernel) (pa_cons (pv 5) pa_nil)) (nomark _)) (pss_one (ps_ret pe_bl)) pss_nil)
      (pss_cons (ps_set (i := 6) sc__law_right.nd rfl (Or.inr rfl) (pe_ix ix_list (pe_lst (pa_cons pe_non (pa_cons pe_int (pa_cons (pe_un un_neg pe_int) (pa_cons pe_int (pa_cons pe_bl (pa_cons pe_str (pa_cons (pe_lst (pa_cons pe_int pa_nil)) (pa_cons (pe_tup (pa_cons pe_int pa_nil)) (pa_cons pe_dnewT (pa_cons (pe_op op_pow pe_int pe_int) pa_nil))))))))))) (pe_cal c__law_draw (hr.mono (by first | decide | omega)) passN (pa_cons (pv 0) (pa_cons pe_int pa_nil))) (fun _ _ => rfl)))
      (pss_cons (ps_if (pt_cmpR (op_neSm (K := K) (Nat.lt_of_le_of_lt (Nat.le_add_right _ _) (hu65 _ rfl))) (pe_lamS (k := 3) L__law_said TB (by exact List.mem_singleton.mpr rfl) (fun p hp _ => congrArg Prod.snd (List.mem_singleton.mp hp)) (hr.mono (by first | decide | omega)) (fun A outer s H E f c' hr => (pe_calD c_fewest_stations_1x (hr.mono (by first | decide | omega)) (passE (takes_of rfl rfl rfl rfl) fun _ _ _ _ z => z) (pa_cons (pv 6) pa_nil))) (LamX.lamS_by (sc := defScope s__law_right) (by decide +kernel))) (pe_tup (pa_cons pe_str (pa_cons (pv 6) pa_nil))) (nomark _)) (pss_one (ps_ret pe_bl)) pss_nil)
      (pss_cons (ps_if (pt_cmpR (op_neSm (K := K) (Nat.lt_of_le_of_lt (Nat.le_add_right _ _) (hu65 _ rfl))) (pe_lamS (k := 3) L__law_said TB (by exact List.mem_singleton.mpr rfl) (fun p hp _ => congrArg Prod.snd (List.mem_singleton.mp hp)) (hr.mono (by first | decide | omega)) (fun A outer s H E f c' hr => (pe_calK k_fewest_stations_1_offx (hr.mono (by first | decide | omega)) (passE (takes_of rfl rfl rfl rfl) fun _ _ _ _ z => z) (pa_cons (pv 6) pa_nil) (pk_cons pe_bl pk_nil))) (LamX.lamS_by (sc := defScope s__law_right) (by decide +kernel))) (pe_tup (pa_cons pe_str (pa_cons (pv 6) pa_nil))) (nomark _)) (pss_one (ps_ret pe_bl)) pss_nil)
      (pss_one (ps_ret (pe_cmpR (op_eqSm (K := K) (Nat.lt_of_le_of_lt (Nat.le_add_right _ _) (hu65 _ rfl))) (pe_lamS (k := 3) L__law_said TB (by exact List.mem_singleton.mpr rfl) (fun p hp _ => congrArg Prod.snd (List.mem_singleton.mp hp)) (hr.mono (by first | decide | omega)) (fun A outer s H E f c' hr => (pe_cal c_greatest_withx (hr.mono (by first | decide | omega)) (passE (takes_of rfl rfl rfl rfl) fun _ _ _ _ z => z) (pa_cons (pv 6) pa_nil))) (LamX.lamS_by (sc := defScope s__law_right) (by decide +kernel))) (pe_tup (pa_cons pe_str (pa_cons (pe_un un_neg pe_int) pa_nil))) (nomark _)))))))))))))), ?_⟩
    walk_at "go"
    refine n_draw S0 ⟨by decide, by decide⟩ fun r1 a1 b1 d1 H1 g1 l1 S1 => ?_
    obtain ⟨m, hm⟩ : ∃ m : Nat, 1 + r1 = (m : Int) + 1 := ⟨r1.toNat, by omega⟩
    walk_at "go"
    rw [hm]
    refine n_tup S1 (by show 2 ≤ 10000000; decide) fun t2 G2 H2 _ e2 _ ht2 S2 => ?_
    walk_at "go"
    refine w_tup (fun i σ' H' => (∃ x3 x4 x5 x6 x7, σ' = [some (.ref W), some x, some (.int ((m : Int) + 1)), x3, x4, x5, x6, x7]) ∧ Own G2 [(W, wl a1 b1 d1), (Pt, .tbl ps)] H') (SqT.of (S2.ex _ _ ht2)) ⟨⟨_, _, _, _, _, rfl⟩, S2⟩ (fun i σ' H' h => SqT.of (h.2.ex _ _ ht2)) ?_ ?_
    · rintro i y σ' H' hy ⟨⟨x3, x4, x5, x6, x7, rfl⟩, S⟩
      obtain ⟨off, rfl⟩ : ∃ off, y = .bl off := by
        match i, hy with
        | 0, hy => exact ⟨true, (Option.some.inj hy).symm⟩
        | 1, hy => exact ⟨false, (Option.some.inj hy).symm⟩
        | i + 2, hy => simp at hy
      walk_at "go"
      refine ⟨rfl, rfl, n_few m S rfl (by omega) fun H3 S3 => ?_⟩
      walk_at "go"
      refine n_lfew m S3 rfl (by omega) fun H4 S4 => ?_
      walk_at "go"
      refine if_ff (ntrue rfl) ?_
      walk_at "go"
      exact ⟨⟨_, _, _, _, _, rfl⟩, S4⟩
    · rintro σ' H' ⟨⟨x3, x4, x5, x6, x7, rfl⟩, S⟩
      walk_at "go"
      refine n_few m S rfl (by omega) fun H3 S3 => ?_
      walk_at "go"
      refine n_lfew m S3 rfl (by omega) fun H4 S4 => ?_
      walk_at "go"
      refine if_ff (ntrue rfl) ?_
      walk_at "go"
      refine n_draw S4 ⟨by decide, by decide⟩ fun r5 a5 b5 d5 H5 g5 l5 S5 => ?_
      obtain ⟨n, hn⟩ : ∃ n : Nat, 1 + r5 = (n : Int) := ⟨(1 + r5).toNat, by omega⟩
      have hn1 : 1 ≤ n ∧ n ≤ 60 := by omega
      walk_at "go"
      rw [hn]
      refine n_lst S5 (by decide) fun p6 H6 _ S6 => ?_
      walk_at "go"
      refine n_tup S6 (by show 2 ≤ 10000000; decide) fun t7 G7 H7 _ e7 _ ht7 S7 => ?_
      walk_at "go"
      refine w_tup (fun i σ' H' => (∃ x3 x6 x7, σ' = [some (.ref W), some x, some (.int ((m : Int) + 1)), x3, some (.int (n : Int)), some (.ref p6), x6, x7]) ∧ ∃ G', Ex G7 G' ∧ Own G' [(p6, .lst ((gwL (n : Int)).take i)), (W, wl a5 b5 d5), (Pt, .tbl ps)] H') (SqT.of (S7.ex _ _ ht7)) ⟨⟨_, _, _, rfl⟩, G7, Ex.refl _, S7⟩
        (fun i σ' H' ⟨_, G', e, S⟩ => SqT.of (S.ex _ _ (e _ _ ht7))) ?_ ?_
      · rintro i y σ' H' hy ⟨⟨x3, x6, x7, rfl⟩, G', eG', S⟩
        obtain ⟨off, rfl, hi⟩ : ∃ off, y = .bl off ∧ (gwL (n : Int)).take (i + 1) = (gwL (n : Int)).take i ++ [.int (gw off (n : Int))] := by
          match i, hy with
          | 0, hy => exact ⟨true, (Option.some.inj hy).symm, rfl⟩
          | 1, hy => exact ⟨false, (Option.some.inj hy).symm, rfl⟩
          | i + 2, hy => simp at hy
        have hi2 : i < 2 := by
          rcases Nat.lt_or_ge i 2 with z | z
          · exact z
          · match i, hy, z with
            | j + 2, hy, _ => simp at hy
        walk_at "go"
        refine ⟨tyL S.l0, ?_⟩
        walk_at "go"
        refine v_rng2 (lo := 1) (j := 11) (fun j acc G3 L3 => L3 = [(p6, .lst ((gwL (n : Int)).take i)), (W, wl a5 b5 d5), (Pt, .tbl ps)] ∧ ∃ cs : List Int, acc = cs.map V.int ∧ (∀ z ∈ cs, ∃ v : Nat, z = (v : Int) + 1 ∧ v < j ∧ fw off v ≤ (n : Int)) ∧ ∀ v : Nat, v < j → fw off v ≤ (n : Int) → (v : Int) + 1 ∈ cs) S (by omega) ⟨rfl, [], rfl, (fun z hz => nomatch hz), fun v hv => absurd hv (Nat.not_lt_zero v)⟩ ?_ ?_
        · rintro D j acc G3 L3 H3 hj hj' e3 hl3 ⟨rfl, cs, rfl, h1, h2⟩ S3
          walk_at "go"
          refine ⟨rfl, ?_⟩
          walk_at "go"
          refine n_lfew j S3 (by omega) (by omega) fun H4 S4 => ?_
          walk_at "go"
          refine if_2 (fun cc => ?_) (fun cc => ?_)
          · have cc := of_decide_eq_true cc
            walk_at "go"
            refine c_yes S4 e3 hl3 hj' ⟨rfl, cs ++ [(j : Int) + 1], ?_, fun z hz => ?_, fun v hv hw => ?_⟩
            · rw [List.map_append, show (1 : Int) + (j : Int) = (j : Int) + 1 by omega] <;> rfl
            · rcases List.mem_append.mp hz with hz | hz
              · obtain ⟨v, e1, e2, e3⟩ := h1 z hz
                exact ⟨v, e1, by omega, e3⟩
              · exact ⟨j, by simpa using hz, by omega, cc⟩
            · by_cases q : v = j
              · subst q
                exact List.mem_append_right _ (by simp)
              · exact List.mem_append_left _ (h2 v (by omega) hw)
          · have cc := of_decide_eq_false cc
            refine c_no S4 e3 hl3 ⟨rfl, cs, rfl, fun z hz => ?_, fun v hv hw => ?_⟩
            · obtain ⟨v, e1, e2, e3⟩ := h1 z hz
              exact ⟨v, e1, by omega, e3⟩
            · by_cases q : v = j
              · subst q
                exact absurd hw cc
              · exact h2 v (by omega) hw
        · rintro p8 acc G8 L8 H8 e8 _ ⟨rfl, cs, rfl, h1, h2⟩ S8
          have h0 := h2 0 (by decide) (by rw [fw_one]; omega)
          walk_at "go"
          refine ⟨p8, cs, rfl, S8.l0, List.length_pos_of_mem h0, fun z hz hle => ?_⟩
          obtain ⟨v, rfl, hv, hw⟩ := h1 z hz
          have hgw := gw_max off n (by omega) v hw fun j hj hjw => by
            have := hle _ (h2 j hj hjw)
            omega
          walk_at "go"
          refine n_app1 S8 (by rw [List.length_take]; omega) fun H9 S9 => ?_
          refine ⟨⟨_, _, _, rfl⟩, G8, eG'.trans e8, ?_⟩
          rw [hi, hgw]
          exact S9.forget
      · rintro σ' H' ⟨⟨x3, x6, x7, rfl⟩, G', eG', S⟩
        walk_at "go"
        have hn' : 1 ≤ (n : Int) ∧ (n : Int) ≤ 60 := by omega
        refine n_gwR2 S hn' fun p8 G8 H8 e8 hp8 S8 => ?_
        walk_at "go"
        refine n_tupL S8 S8.l0 fun p9 G9 H9 _ e9 _ hp9 S9 => ?_
        refine n_neIT (ns := [gw true (n : Int), gw false (n : Int)]) (ms := [gw true (n : Int), gw false (n : Int)]) (SqT.of (S9.ex _ _ (e9 _ _ hp8))) (SqT.of (S9.ex _ _ hp9)) ?_
        walk_at "go"
        refine if_ff (ntrue rfl) ?_
        walk_at "go"
        have eG9 : Ex G G9 := e2.trans (e7.trans (eG'.trans (e8.trans e9)))
        refine n_lstG S9.forget (by show 1 ≤ 10000000; decide) fun pl G10 H10 _ e10 _ hpl S10 => ?_
        walk_at "go"
        refine n_tup S10 (by show 1 ≤ 10000000; decide) fun pt G11 H11 _ e11 _ hpt S11 => ?_
        walk_at "go"
        refine n_dnewG S11 fun pd G12 H12 e12 hpd S12 => ?_
        walk_at "go"
        refine g_I ⟨by decide, by decide, by decide⟩ ?_
        walk_at "go"
        refine n_lstG S12 (by show 10 ≤ 10000000; decide) fun p13 G13 H13 _ e13 _ hp13 S13 => ?_
        walk_at "go"
        refine n_draw S13 ⟨by decide, by decide⟩ fun r14 a14 b14 d14 H14 g14 l14 S14 => ?_
        obtain ⟨v, hv, hbad⟩ : ∃ v : V, atI [V.non, V.int 0, V.int (-1), V.int 61, V.bl true, V.str (Str.ofString "1"), V.ref pl, V.ref pt, V.ref pd, V.int (10 ^ (20 : Int).toNat)] r14 = some v ∧ BadV G13 v := by
          have : r14 = 0 ∨ r14 = 1 ∨ r14 = 2 ∨ r14 = 3 ∨ r14 = 4 ∨ r14 = 5 ∨ r14 = 6 ∨ r14 = 7 ∨ r14 = 8 ∨ r14 = 9 := by omega
          rcases this with rfl | rfl | rfl | rfl | rfl | rfl | rfl | rfl | rfl | rfl
          · exact ⟨_, rfl, bad_of .non (by decide)⟩
          · exact ⟨_, rfl, bad_int (by decide)⟩
          · exact ⟨_, rfl, bad_int (by decide)⟩
          · exact ⟨_, rfl, bad_int (by decide)⟩
          · exact ⟨_, rfl, bad_of (.bl true) (by decide)⟩
          · exact ⟨_, rfl, bad_of (.str _) (by decide)⟩
          · exact ⟨_, rfl, bad_of (.lst (e13 _ _ (e12 _ _ (e11 _ _ hpl)))) (by decide)⟩
          · exact ⟨_, rfl, bad_of (.tup (e13 _ _ (e12 _ _ hpt))) (by decide)⟩
          · exact ⟨_, rfl, bad_of (.dct (e13 _ _ hpd)) (by decide)⟩
          · exact ⟨_, rfl, bad_int (by decide)⟩
        have eG13 : Ex G G13 := eG9.trans (e10.trans (e11.trans (e12.trans e13)))
        walk_at "go"
        refine g_ixL (SqL.of (S14.ex _ _ hp13)) hv ?_
        walk_at "go"
        have hL : ∀ a b d : Int, ∀ p ∈ [(W, wl a b d)], ∃ xs, p.2 = HO.lst xs := fun a b d p hp => by
          have : p = (W, wl a b d) := by simpa using hp
          subst this
          exact ⟨_, rfl⟩
        have hsm : ∀ z : V, sameV z = true → ∀ s : Str, ∀ u ∈ [V.str s, z], sameV u = true := fun z hz s u hu => by
          rcases List.mem_cons.mp hu with rfl | hu
          · rfl
          · have : u = z := by simpa using hu
            subst this
            exact hz
        refine n_lam S14.swap (tg.mono eG13) (hL _ _ _) fun G15 H15 ps15 e15 S15 tg15 => ?_
        have bad15 := (hbad.noT).mono e15
        intro E1 Q1 hE1 _
        walk_at "go"
        obtain ⟨t15, o15, n15⟩ := bad15
        refine ⟨v, true, t15, rfl, o15.mono S15.ex, n15, fun dd H16 e16 hd => hE1 _ _ _ ⟨dd, rfl, .inl ⟨v, rfl, hd, n_retG (S15.grow e16) fun p17 G17 H17 _ e17 _ hp17 S17 => ?_⟩⟩⟩
        walk_at "go"
        refine n_tup S17 (by show 2 ≤ 10000000; decide) fun p18 G18 H18 _ e18 _ hp18 S18 => ?_
        refine n_sm (SqT.of (S18.ex _ _ (e18 _ _ hp17))) (SqT.of (S18.ex _ _ hp18)) (hsm v o15.sm _) ?_
        walk_at "go"
        refine n_lam S18 ((tg15.mono e17).mono e18) (hL _ _ _) fun G19 H19 ps19 e19 S19 tg19 => ?_
        have o19 := (((o15.mono e17).mono e18).noT).mono e19
        intro E2 Q2 hE2 _
        walk_at "go"
        refine ⟨rfl, rfl, v, false, t15, rfl, o19.mono S19.ex, n15, fun dd H20 e20 hd => hE2 _ _ _ ⟨dd, rfl, .inl ⟨v, rfl, hd, n_retG (S19.grow e20) fun p21 G21 H21 _ e21 _ hp21 S21 => ?_⟩⟩⟩
        walk_at "go"
        refine n_tup S21 (by show 2 ≤ 10000000; decide) fun p22 G22 H22 _ e22 _ hp22 S22 => ?_
        refine n_sm (SqT.of (S22.ex _ _ (e22 _ _ hp21))) (SqT.of (S22.ex _ _ hp22)) (hsm v o15.sm _) ?_
        walk_at "go"
        refine n_lam S22 ((tg19.mono e21).mono e22) (hL _ _ _) fun G23 H23 ps23 e23 S23 tg23 => ?_
        have o23 := (((o19.mono e21).mono e22).noT).mono e23
        intro E3 Q3 hE3 _
        walk_at "go"
        refine ⟨v, t15, rfl, o23.mono S23.ex, n15, fun dd H24 e24 hd => hE3 _ _ _ ⟨dd, rfl, .inr ⟨.int (-1), rfl, hd, n_retG (S23.grow e24) fun p25 G25 H25 _ e25 _ hp25 S25 => ?_⟩⟩⟩
        walk_at "go"
        refine n_tup S25 (by show 2 ≤ 10000000; decide) fun p26 G26 H26 _ e26 _ hp26 S26 => ?_
        refine n_sm (SqT.of (S26.ex _ _ (e26 _ _ hp25))) (SqT.of (S26.ex _ _ hp26)) (hsm _ rfl _) ?_
        have x18 : Ex (NX.noT G) G18 := ((NX.Ex.noT eG13).trans e15).trans (e17.trans e18)
        have x22 : Ex (NX.noT G) G22 := (NX.Ex.noT' x18).trans (e19.trans (e21.trans e22))
        have x26 : Ex (NX.noT G) G26 := (NX.Ex.noT' x22).trans (e23.trans (e25.trans e26))
        exact k H26 G26 a14 b14 d14 ps23 x26 S26.swap ((tg23.mono e25).mono e26)
theorem sq_cut {K : PySem.W.Frag} {H : Hp} {a P : Addr} {xs : List V} {ps : Array Value} (hP : H P = some (.tbl ps)) (h : SqL K H a xs) : SqL K (cut H [(P, .tbl ps)]) a xs := by
  have ne : ∀ o, H a = some o → (∀ qs, o ≠ .tbl qs) → cut H [(P, .tbl ps)] a = some o := fun o e n => by
    rw [cut_out]
    · exact e
    · intro m
      have : a = P := by simpa using m
      rw [this, hP] at e
      exact n ps (Option.some.inj e).symm
  rcases h with (h | ⟨o, h⟩) | h
  · exact .inl (.inl (ne _ h fun qs z => by cases z))
  · exact .inl (.inr ⟨o, ne _ h fun qs z => by cases z⟩)
  · exact .inr h
theorem ok_law {f : Addr} {fd : FuncData} {q : Str} (F : Fun K "law" "law" s_law f fd) (T : Txt mg) (c__law_right : Cal P w K mg base 7 "_law_right" ["_law_well", "_law_k"] [] (spRight Pt q))
    (c_fewest_stations_1 : Cal P w K mg base 2 "fewest_stations" ["channel", "off"] [.bl true] spFewest) (c_greatest_with : Cal P w K mg base 3 "greatest_with" ["stations"] [] spGWith) : FnOk P w K mg base CX0 8 f fd ["_law_script"] (spLaw Pt K) := by
  refine F.ok sc_law (fun vs H Q E h => ?_) (fun cdv A outer s H vs Q E hr h => ?_)
  · obtain ⟨a, ns, rfl, _⟩ := h
    rfl
  · obtain ⟨a, ns, rfl, hS, hn, hP, k⟩ := h
    have hu65 : ∀ X : Cx, X.A = A.deeper (envOfC "law" (defScope s_law) s.heap.objs.size f cdv) → X.A.units + 65 < cLine := fun X e => by rw [e]; have := hr.un; omega
    have S0 := Own.give (o := .tbl #[]) hP
    have hS0 := sq_cut hP hS
    generalize cut H [(Pt, HO.tbl #[])] = G0 at S0 hS0
    refine ⟨_, (pss_cons (ps_for PassesOwn.never rfl (pi_enum (by rfl) T.n_enumerate (pa_cons (pe_slice sl_list (pe_op op_catL (pv 0) (pe_lst (pa_cons pe_int pa_nil))) po_none (po_some pe_int)) pa_nil)) (pg_tup (n := 2) rfl (pgs_cons (pg_name (i := 1) sc_law.nd rfl (Or.inl rfl)) (pgs_cons (pg_name (i := 2) sc_law.nd rfl (Or.inl rfl)) pgs_nil))) (pss_one (ps_if (pt_not (pt_val (pe_cal c__law_right (hr.mono (by first | decide | omega)) passN (pa_cons (pe_lst (pa_cons (pe_op op_mul (pv 2) (pe_callTy call_intN (by rfl) T.n_int (by decide +kernel) (pa_cons (pe_cmpR op_ge (pv 2) (pe_op op_pow pe_int pe_int) (nomark _)) pa_nil))) (pa_cons (pe_op op_add (pe_op op_mod (pv 2) pe_int) (pe_op op_mul pe_int (pv 1))) (pa_cons pe_int pa_nil)))) (pa_cons (pv 1) pa_nil))))) (pss_one (ps_ret pe_bl)) pss_nil)))
      (pss_one (ps_ret (pe_and (pe_cmpR (op_eqD (Nat.lt_of_succ_lt (hu65 _ rfl))) (pe_lc (own := [("_law_channel", 3)]) (by rfl) sc_law.nd (pi_range2 (by rfl) T.n_range (pa_cons pe_int (pa_cons pe_int pa_nil))) (blkOk_by (own := [("_law_channel", 3)]) (N := ["_law_script", "_law_k", "_law_cell", "_law_channel"]) (sc := defScope s_law) (by decide +kernel)) (fun _ _ _ _ _ => (pg_name (i := 3) sc_law.nd rfl (Or.inl rfl))) (fun _ _ _ _ _ => pts_nil) (fun _ _ _ _ _ => (pe_calD c_fewest_stations_1 (hr.mono (by first | decide | omega)) passN (pa_cons (pv 3) pa_nil)))) (pe_lst (pa_cons pe_int (pa_cons pe_int (pa_cons pe_int (pa_cons pe_int (pa_cons pe_int (pa_cons pe_int pa_nil))))))) (nomark _)) (pe_one (pe_cmpR (op_eqD (Nat.lt_of_succ_lt (hu65 _ rfl))) (pe_cal c_greatest_with (hr.mono (by first | decide | omega)) passN (pa_cons pe_int pa_nil)) (pe_tup (pa_cons pe_int (pa_cons pe_int pa_nil))) (nomark _))))))), ?_⟩
    walk_at "go"
    refine n_lstG S0 (by show 1 ≤ 10000000; decide) fun p G1 H1 _ e1 _ hp S1 => ?_
    walk_at "go"
    refine n_catG S1 (S1.sl (ex_l e1 hS0)) (SqL.of (S1.ex _ _ hp)) (by rw [List.length_map]; simp; omega) fun q2 G2 H2 _ e2 _ hq S2 => ?_
    walk_at "go"
    refine n_sl S2 (SqL.of (S2.ex _ _ hq)) fun t G3 H3 _ e3 _ ht S3 => ?_
    have hc : cutV (ns.map V.int ++ [.int 0]) none (some ((8 : Nat) : Int)) = ((ns ++ [0]).take 8).map V.int := by
      rw [cutV_to, List.map_take, List.map_append] <;> rfl
    have ht : G3 t = some (.lst (((ns ++ [0]).take 8).map V.int)) := ht.trans (by rw [← hc] <;> rfl)
    walk_at "go"
    refine w_enum (fun i σ' H' => (∃ x y z, σ' = [some (.ref a), x, y, z]) ∧ ∃ G' ps, Own G' [(Pt, .tbl ps)] H' ∧ TabG G' ps q ∧ G' t = some (.lst (((ns ++ [0]).take 8).map V.int))) (SqL.of (S3.ex _ _ ht)) ⟨⟨_, _, _, rfl⟩, G3, _, S3, .nil _ _, ht⟩ (fun i σ' H' ⟨_, G', ps, S, _, ht'⟩ => SqL.of (S.ex _ _ ht')) ?_ ?_
    · rintro i x T' σ' H' hx ⟨⟨x0, y0, z0, rfl⟩, G', ps, S, tg, ht'⟩ hT
      obtain ⟨z, _, rfl⟩ := get_map hx
      have S4 := S.grow (Ex.new (o := .tup [.int (i : Int), .int z]) hT)
      refine s_gtup (SqT.of upd_same) rfl ?_
      walk_at "go"
      refine g_I ⟨by decide, by decide, by decide⟩ ?_
      walk_at "go"
      refine g_I (.inr (by split <;> decide)) ?_
      walk_at "go"
      refine g_I (by decide) ?_
      walk_at "go"
      refine g_I (.inl ⟨by decide, by decide⟩) ?_
      walk_at "go"
      refine n_lst S4 (by show 3 ≤ 10000000; decide) fun W H5 hW S5 => ?_
      walk_at "go"
      refine ⟨W, _, _, _, _, G', ps, rfl, S5, tg, fun H6 G6 a6 b6 d6 ps6 e6 S6 tg6 => ?_⟩
      walk_at "go"
      exact ⟨⟨_, _, _, rfl⟩, G6, ps6, S6.forget, tg6, e6 _ _ (noT_of ht' fun qs z => by cases z)⟩
    · rintro σ' H' ⟨⟨x, y, z, rfl⟩, G', ps, S, tg, ht'⟩
      walk_at "go"
      refine v_rng2 (lo := 1) (j := 7) (fun j acc G3 L3 => acc = ((List.range j).map fun i => fw true i).map V.int) S (by omega) rfl ?_ ?_
      · rintro D j acc G3 L3 H3 hj hj' e3 hl3 rfl S3
        walk_at "go"
        refine ⟨rfl, ?_⟩
        walk_at "go"
        refine n_few j S3 (by omega) (by omega) fun H4 S4 => ?_
        refine c_yes S4 e3 hl3 hj' ?_
        rw [List.range_succ, List.map_append, List.map_append] <;> rfl
      · rintro p4 acc G4 L4 H4 e4 _ rfl S4
        obtain ⟨S5, e5, hp5⟩ := S4.freeze
        walk_at "go"
        refine n_lstG S5 (by show 6 ≤ 10000000; decide) fun p6 G6 H6 _ e6 _ hp6 S6 => ?_
        refine n_eqIL (ns := (List.range 6).map fun i => fw true i) (ms := [1, 2, 3, 5, 8, 13]) (SqL.of (S6.ex _ _ (e6 _ _ hp5))) (SqL.of (S6.ex _ _ hp6)) ?_
        rw [dtrue (by decide +kernel)]
        walk_at "go"
        refine n_gwR2 S6 ⟨by decide, by decide⟩ fun p7 G7 H7 e7 hp7 S7 => ?_
        walk_at "go"
        refine n_tup S7 (by show 2 ≤ 10000000; decide) fun p8 G8 H8 _ e8 _ hp8 S8 => ?_
        refine n_eqIT (ns := [gw true 60, gw false 60]) (ms := [9, 6]) (SqT.of (S8.ex _ _ (e8 _ _ hp7))) (SqT.of (S8.ex _ _ hp8)) ?_
        rw [dtrue (by decide +kernel)]
        exact k _
end
end NX

namespace NX
open PySem PySem.Spec PyProof.Rows L2
section
variable {P : Program} {w : World} {K : PySem.W.Frag} {mg : Str → Option Value} {base : Heap}
theorem mkCal {x : Str} {f : Addr} {fd : FuncData} {k : Nat} {ps : List Str} {sp : Sp} (F : FnOk P w K mg base (L2.CX P w) k f fd ps sp) (g : mg x = some (.ref f)) (kp : PySem.W.keepIn K (.ref f) = true) (b : Binds K fd ps []) : Cal P w K mg base k x ps [] sp := ⟨f, fd, [], F, g, kp, b, .nil⟩
/-- how a plain def binds keywords -/
theorem fun_kbn {x qual : Str} {st : Stmt} {f : Addr} {fd : FuncData} {ps ks : List Str} {n : Nat} {g : List Value → List Value → List Value} {gV : List V → List V → List V} (F : Fun K x qual st f fd)
    (hrel : ∀ {vs : List V} {us : List Value} {zs : List V} {ws : List Value}, Vals vs us → Vals zs ws → Vals (gV vs zs) (g us ws))
    (h : ∀ (kV doc pm : Value) (an : Option Addr) (cdv ct : Value) (us ws : List Value), us.length = n → ws.length = ks.length → bindArgs (PySem.W.fnOf x qual (defArgs st) (defBody st) (defScope st) .none kV doc pm an cdv ct) ⟨us, ks.zip ws⟩ = pure (ps.zip (g us ws))) : KBn K fd ps n ks g gV := by
  obtain ⟨oc, od, kV, doc, pm, an, cdv, ct, osl, rfl, lk, hcd⟩ := F.ex
  exact ⟨fun s us ws _ h1 h2 => .of_eq (h kV doc pm an cdv ct us ws h1 h2), hrel⟩
theorem mkCalK {x : Str} {f : Addr} {fd : FuncData} {k n : Nat} {ps ks : List Str} {g : List Value → List Value → List Value} {gV : List V → List V → List V} {sp : Sp} (F : FnOk P w K mg base (L2.CX P w) k f fd ps sp) (hm : mg x = some (.ref f)) (kp : PySem.W.keepIn K (.ref f) = true) (b : KBn K fd ps n ks g gV) :
    CalK P w K mg base k x ps n ks gV sp := ⟨f, fd, g, F, hm, kp, b⟩
theorem walk {l : PySem.W.OpenLaw} {q : Program} {loose : List Str} {XP : (Str → Option Value) → Heap → Prop} {YP : World → Heap → Prop} {d : DefRec} {K : Params → PySem.W.Frag} {k : Nat} (hn : l.most = some 63) (hdf : d.params.defaults = []) (hr : Room k callerA)
    (hY : ∀ (w : World) (h : Heap), YP w h → (K w.params).In h) {sp : PySem.W.Frag → Sp}
    (F : ∀ (w : World) (mg : Str → Option Value) (fa : Addr) (h : Heap), (K w.params).In h → h.Ns mainGlobals mg → mg d.name = some (.ref fa) →
      ∃ fd : FuncData, (∀ (s : Shared) (u : Value), BindsTo s fd ⟨[u], []⟩ [("_law_script", u)]) ∧ ∀ base : Heap, (K w.params).In base → base.Ns mainGlobals mg → FnOk l.prog w (K w.params) mg base CX0 k fa fd ["_law_script"] (sp (K w.params)))
    (hsp : ∀ (K : PySem.W.Frag) (H : Hp) (a : Addr) (ns : List Int), ns.length ≤ 63 → SqL K H a (ns.map V.int) → sp K [.ref a] H (fun v _ => v = .bl true) fun _ _ _ => False) :
    PySem.W.WalkO q loose XP YP l.row.toRowW d [] (fun f vs => PySem.call f vs) :=
  L2.walk_of (n := 63) (k := k) (x := "_law_script") (CX := fun _ => CX0) (sp := fun w => sp (K w.params)) hn (by decide) hdf hr hY F (fun w _ a ns hl _ hS => hsp (K w.params) _ a ns hl hS) fun _ _ _ _ _ z => z
end
end NX


namespace NX
open PySem PySem.Spec PyProof.Rows L2
theorem all_mk {l : PySem.W.OpenLaw} {w : World} {K : PySem.W.Frag} {h : Heap} {mg : Str → Option Value} {fa f_is_int f_greatest_with f__law_draw f__law_fewest f__law_said f__law_right f_law f_fewest_stations D_fewest_stations C0 C_NoChannel f_I_NoChannel C_NoNetwork f_I_NoNetwork C_HasRing C_NoStation cA__law_right Pt__law_right : Addr} (X : K.In h) (G : h.Ns mainGlobals mg) (hfa : mg "law" = some (.ref fa))
    {od_is_int an_is_int od_greatest_with an_greatest_with od__law_draw an__law_draw od__law_fewest an__law_fewest od__law_said an__law_said od__law_right an__law_right od_law an_law od_fewest_stations an_fewest_stations od_I_NoChannel an_I_NoChannel od_I_NoNetwork an_I_NoNetwork : Option Addr} {sl_is_int sl_greatest_with sl__law_draw sl__law_fewest sl__law_said sl__law_right sl_law sl_fewest_stations sl_I_NoChannel sl_I_NoNetwork : Array (Option Value)} {oc_is_int dc_is_int pm_is_int cd_is_int ct_is_int kV_is_int oc_greatest_with dc_greatest_with pm_greatest_with cd_greatest_with ct_greatest_with kV_greatest_with oc__law_draw dc__law_draw pm__law_draw cd__law_draw ct__law_draw kV__law_draw oc__law_fewest dc__law_fewest pm__law_fewest cd__law_fewest ct__law_fewest kV__law_fewest oc__law_said dc__law_said pm__law_said cd__law_said ct__law_said kV__law_said oc__law_right dc__law_right pm__law_right cd__law_right ct__law_right kV__law_right oc_law dc_law pm_law cd_law ct_law kV_law oc_fewest_stations dc_fewest_stations pm_fewest_stations cd_fewest_stations ct_fewest_stations oc_I_NoChannel dc_I_NoChannel pm_I_NoChannel cd_I_NoChannel ct_I_NoChannel kV_I_NoChannel oc_I_NoNetwork dc_I_NoNetwork pm_I_NoNetwork cd_I_NoNetwork ct_I_NoNetwork kV_I_NoNetwork : Value} {t_MAX_CHANNEL t_MAX_STATIONS : Tok} {nm_NoChannel q_NoChannel : Str} {N_NoChannel : Addr} {bs_NoChannel sub_NoChannel : List Value} {sn_NoChannel : List Str} {ab_NoChannel : Bool} {col_NoChannel : Option Bool} {dd_NoChannel : Option Addr} {m0_NoChannel m1_NoChannel m2_NoChannel m3_NoChannel m5_NoChannel : Option Value} {nm_NoNetwork q_NoNetwork : Str} {N_NoNetwork : Addr} {bs_NoNetwork sub_NoNetwork : List Value} {sn_NoNetwork : List Str} {ab_NoNetwork : Bool} {col_NoNetwork : Option Bool} {dd_NoNetwork : Option Addr} {m0_NoNetwork m1_NoNetwork m2_NoNetwork m3_NoNetwork m5_NoNetwork : Option Value}
    (z_bool : PySem.W.nsIn K mainGlobals "bool" = some none)
    (z_enumerate : PySem.W.nsIn K mainGlobals "enumerate" = some none)
    (z_int : PySem.W.nsIn K mainGlobals "int" = some none)
    (z_isinstance : PySem.W.nsIn K mainGlobals "isinstance" = some none)
    (z_len : PySem.W.nsIn K mainGlobals "len" = some none)
    (z_max : PySem.W.nsIn K mainGlobals "max" = some none)
    (z_range : PySem.W.nsIn K mainGlobals "range" = some none)
    (z_sum : PySem.W.nsIn K mainGlobals "sum" = some none)
    (z_tuple : PySem.W.nsIn K mainGlobals "tuple" = some none)
    (v_MAX_CHANNEL : PySem.W.nsIn K mainGlobals "MAX_CHANNEL" = some (some (.int 60 t_MAX_CHANNEL)))
    (v_MAX_STATIONS : PySem.W.nsIn K mainGlobals "MAX_STATIONS" = some (some (.int 60 t_MAX_STATIONS)))
    (a_is_int : PySem.W.nsIn K mainGlobals "is_int" = some (some (.ref f_is_int)))
    (l_is_int : K.lookup f_is_int = some ⟨oc_is_int, od_is_int, .func (PySem.W.fnOf "is_int" "is_int" (defArgs s_is_int) (defBody s_is_int) (defScope s_is_int) .none kV_is_int dc_is_int pm_is_int an_is_int cd_is_int ct_is_int), sl_is_int⟩)
    (c_is_int : PySem.W.codeIn K cd_is_int "is_int" = true)
    (k_is_int : PySem.W.keepIn K (.ref f_is_int) = true)
    (a_greatest_with : PySem.W.nsIn K mainGlobals "greatest_with" = some (some (.ref f_greatest_with)))
    (l_greatest_with : K.lookup f_greatest_with = some ⟨oc_greatest_with, od_greatest_with, .func (PySem.W.fnOf "greatest_with" "greatest_with" (defArgs s_greatest_with) (defBody s_greatest_with) (defScope s_greatest_with) .none kV_greatest_with dc_greatest_with pm_greatest_with an_greatest_with cd_greatest_with ct_greatest_with), sl_greatest_with⟩)
    (c_greatest_with : PySem.W.codeIn K cd_greatest_with "greatest_with" = true)
    (k_greatest_with : PySem.W.keepIn K (.ref f_greatest_with) = true)
    (a__law_draw : PySem.W.nsIn K mainGlobals "_law_draw" = some (some (.ref f__law_draw)))
    (l__law_draw : K.lookup f__law_draw = some ⟨oc__law_draw, od__law_draw, .func (PySem.W.fnOf "_law_draw" "_law_draw" (defArgs s__law_draw) (defBody s__law_draw) (defScope s__law_draw) .none kV__law_draw dc__law_draw pm__law_draw an__law_draw cd__law_draw ct__law_draw), sl__law_draw⟩)
    (c__law_draw : PySem.W.codeIn K cd__law_draw "_law_draw" = true)
    (k__law_draw : PySem.W.keepIn K (.ref f__law_draw) = true)
    (a__law_fewest : PySem.W.nsIn K mainGlobals "_law_fewest" = some (some (.ref f__law_fewest)))
    (l__law_fewest : K.lookup f__law_fewest = some ⟨oc__law_fewest, od__law_fewest, .func (PySem.W.fnOf "_law_fewest" "_law_fewest" (defArgs s__law_fewest) (defBody s__law_fewest) (defScope s__law_fewest) .none kV__law_fewest dc__law_fewest pm__law_fewest an__law_fewest cd__law_fewest ct__law_fewest), sl__law_fewest⟩)
    (c__law_fewest : PySem.W.codeIn K cd__law_fewest "_law_fewest" = true)
    (k__law_fewest : PySem.W.keepIn K (.ref f__law_fewest) = true)
    (a__law_said : PySem.W.nsIn K mainGlobals "_law_said" = some (some (.ref f__law_said)))
    (l__law_said : K.lookup f__law_said = some ⟨oc__law_said, od__law_said, .func (PySem.W.fnOf "_law_said" "_law_said" (defArgs s__law_said) (defBody s__law_said) (defScope s__law_said) .none kV__law_said dc__law_said pm__law_said an__law_said cd__law_said ct__law_said), sl__law_said⟩)
    (c__law_said : PySem.W.codeIn K cd__law_said "_law_said" = true)
    (k__law_said : PySem.W.keepIn K (.ref f__law_said) = true)
    (a__law_right : PySem.W.nsIn K mainGlobals "_law_right" = some (some (.ref f__law_right)))
    (l__law_right : K.lookup f__law_right = some ⟨oc__law_right, od__law_right, .func (PySem.W.fnOf "_law_right" "_law_right" (defArgs s__law_right) (defBody s__law_right) (defScope s__law_right) .none kV__law_right dc__law_right pm__law_right an__law_right cd__law_right ct__law_right), sl__law_right⟩)
    (c__law_right : PySem.W.codeIn K cd__law_right "_law_right" = true)
    (k__law_right : PySem.W.keepIn K (.ref f__law_right) = true)
    (a_law : PySem.W.nsIn K mainGlobals "law" = some (some (.ref f_law)))
    (l_law : K.lookup f_law = some ⟨oc_law, od_law, .func (PySem.W.fnOf "law" "law" (defArgs s_law) (defBody s_law) (defScope s_law) .none kV_law dc_law pm_law an_law cd_law ct_law), sl_law⟩)
    (c_law : PySem.W.codeIn K cd_law "law" = true)
    (k_law : PySem.W.keepIn K (.ref f_law) = true)
    (a_fewest_stations : PySem.W.nsIn K mainGlobals "fewest_stations" = some (some (.ref f_fewest_stations)))
    (l_fewest_stations : K.lookup f_fewest_stations = some ⟨oc_fewest_stations, od_fewest_stations, .func (PySem.W.fnOf "fewest_stations" "fewest_stations" (defArgs s_fewest_stations) (defBody s_fewest_stations) (defScope s_fewest_stations) .none (.ref D_fewest_stations) dc_fewest_stations pm_fewest_stations an_fewest_stations cd_fewest_stations ct_fewest_stations), sl_fewest_stations⟩)
    (c_fewest_stations : PySem.W.codeIn K cd_fewest_stations "fewest_stations" = true)
    (k_fewest_stations : PySem.W.keepIn K (.ref f_fewest_stations) = true)
    (d_fewest_stations_off : PySem.W.nsIn K D_fewest_stations "off" = some (some (.bool true)))
    (aB : PySem.W.nsIn K mainGlobals "ChannelError" = some (some (.ref C0)))
    (rdB : PySem.W.readsIn K C0 (.type "type") = true)
    (gaB : PySem.W.specialIn K (.ref C0) "__getattribute__" = some (some (.builtin "type.__getattribute__")))
    (vVB : PySem.W.findCls K (.ref C0) (.type "type") "__init__" = some (.val (.builtin "ValueError.__init__")))
    (aX_NoChannel : PySem.W.nsIn K mainGlobals "NoChannel" = some (some (.ref C_NoChannel)))
    (xL_NoChannel : K.lookup C_NoChannel = some (excClassObj nm_NoChannel q_NoChannel C_NoChannel N_NoChannel bs_NoChannel [.ref C0, .type "ValueError", .type "Exception", .type "BaseException", .type "object"] true sn_NoChannel sub_NoChannel ab_NoChannel col_NoChannel dd_NoChannel m0_NoChannel m1_NoChannel m2_NoChannel m3_NoChannel m5_NoChannel "ValueError.__new__"))
    (sa_NoChannel : PySem.W.findIn K (.ref C_NoChannel) "__setattr__" = some (some (.builtin "object.__setattr__")))
    (ga_NoChannel : PySem.W.findIn K (.ref C_NoChannel) "__getattribute__" = some (some (.builtin "BaseException.__getattribute__")))
    (gg_NoChannel : PySem.W.findIn K (.ref C_NoChannel) "__getattr__" = some none)
    (nf_NoChannel : PySem.W.findIn K (.ref C_NoChannel) "channel" = some none)
    (aI_NoChannel : PySem.W.findIn K (.ref C_NoChannel) "__init__" = some (some (.ref f_I_NoChannel)))
    (tI_NoChannel : PySem.W.typeIn K (.ref f_I_NoChannel) = some (.type "function"))
    (l_I_NoChannel : K.lookup f_I_NoChannel = some ⟨oc_I_NoChannel, od_I_NoChannel, .func (PySem.W.fnOf "__init__" "NoChannel.__init__" (defArgs s_NoChannel___init__) (defBody s_NoChannel___init__) (defScope s_NoChannel___init__) .none kV_I_NoChannel dc_I_NoChannel pm_I_NoChannel an_I_NoChannel cd_I_NoChannel ct_I_NoChannel), sl_I_NoChannel⟩)
    (c_I_NoChannel : PySem.W.codeIn K cd_I_NoChannel "NoChannel.__init__" = true)
    (k_I_NoChannel : PySem.W.keepIn K (.ref f_I_NoChannel) = true)
    (kC_NoChannel : PySem.W.keepIn K (.ref C_NoChannel) = true)
    (eC_NoChannel : PySem.W.subIn K (.ref C_NoChannel) (.type "BaseException") = some true)
    (tC_NoChannel : PySem.W.typeIn K (.ref C_NoChannel) = some (.type "type"))
    (hC_NoChannel : PySem.W.hasDictIn K C_NoChannel = true)
    (sC_NoChannel : PySem.W.subIn K (.ref C_NoChannel) (.ref C_NoChannel) = some true)
    (aX_NoNetwork : PySem.W.nsIn K mainGlobals "NoNetwork" = some (some (.ref C_NoNetwork)))
    (xL_NoNetwork : K.lookup C_NoNetwork = some (excClassObj nm_NoNetwork q_NoNetwork C_NoNetwork N_NoNetwork bs_NoNetwork [.ref C0, .type "ValueError", .type "Exception", .type "BaseException", .type "object"] true sn_NoNetwork sub_NoNetwork ab_NoNetwork col_NoNetwork dd_NoNetwork m0_NoNetwork m1_NoNetwork m2_NoNetwork m3_NoNetwork m5_NoNetwork "ValueError.__new__"))
    (sa_NoNetwork : PySem.W.findIn K (.ref C_NoNetwork) "__setattr__" = some (some (.builtin "object.__setattr__")))
    (ga_NoNetwork : PySem.W.findIn K (.ref C_NoNetwork) "__getattribute__" = some (some (.builtin "BaseException.__getattribute__")))
    (gg_NoNetwork : PySem.W.findIn K (.ref C_NoNetwork) "__getattr__" = some none)
    (nf_NoNetwork : PySem.W.findIn K (.ref C_NoNetwork) "index" = some none)
    (aI_NoNetwork : PySem.W.findIn K (.ref C_NoNetwork) "__init__" = some (some (.ref f_I_NoNetwork)))
    (tI_NoNetwork : PySem.W.typeIn K (.ref f_I_NoNetwork) = some (.type "function"))
    (l_I_NoNetwork : K.lookup f_I_NoNetwork = some ⟨oc_I_NoNetwork, od_I_NoNetwork, .func (PySem.W.fnOf "__init__" "NoNetwork.__init__" (defArgs s_NoNetwork___init__) (defBody s_NoNetwork___init__) (defScope s_NoNetwork___init__) .none kV_I_NoNetwork dc_I_NoNetwork pm_I_NoNetwork an_I_NoNetwork cd_I_NoNetwork ct_I_NoNetwork), sl_I_NoNetwork⟩)
    (c_I_NoNetwork : PySem.W.codeIn K cd_I_NoNetwork "NoNetwork.__init__" = true)
    (k_I_NoNetwork : PySem.W.keepIn K (.ref f_I_NoNetwork) = true)
    (kC_NoNetwork : PySem.W.keepIn K (.ref C_NoNetwork) = true)
    (eC_NoNetwork : PySem.W.subIn K (.ref C_NoNetwork) (.type "BaseException") = some true)
    (tC_NoNetwork : PySem.W.typeIn K (.ref C_NoNetwork) = some (.type "type"))
    (hC_NoNetwork : PySem.W.hasDictIn K C_NoNetwork = true)
    (sC_NoNetwork : PySem.W.subIn K (.ref C_NoNetwork) (.ref C_NoNetwork) = some true)
    (aX_HasRing : PySem.W.nsIn K mainGlobals "HasRing" = some (some (.ref C_HasRing)))
    (aX_NoStation : PySem.W.nsIn K mainGlobals "NoStation" = some (some (.ref C_NoStation)))
    (spn : PySem.W.specialIn K (.builtin "object.__class__") "__get__" = some (some (.builtin "getset_descriptor.__get__")))
    (tkn : PySem.W.takesIn K (.builtin "object.__class__") = some true)
    (e0B : PySem.W.subIn K (.ref C0) (.type "BaseException") = some true)
    (h0B : PySem.W.hasDictIn K C0 = true)
    (t0B : PySem.W.typeIn K (.ref C0) = some (.type "type"))
    (cl_NoChannel : (PySem.W.clsIn K C_NoChannel).isSome = true)
    (hc_NoChannel : PySem.W.findIn K (.ref C_NoChannel) "__class__" = some (some (.builtin "object.__class__")))
    (mo_NoChannel : PySem.W.mroIn K C_NoChannel (.type "object") = some true)
    (s0_NoChannel : PySem.W.subIn K (.ref C_NoChannel) (.ref C0) = some true)
    (kd_NoChannel_NoChannel : PySem.W.kitOne K (.ref C_NoChannel) (.ref C_NoChannel) = some true)
    (kd_NoChannel_NoNetwork : PySem.W.kitOne K (.ref C_NoChannel) (.ref C_NoNetwork) = some false)
    (kd_NoChannel_HasRing : PySem.W.kitOne K (.ref C_NoChannel) (.ref C_HasRing) = some false)
    (kd_NoChannel_NoStation : PySem.W.kitOne K (.ref C_NoChannel) (.ref C_NoStation) = some false)
    (cl_NoNetwork : (PySem.W.clsIn K C_NoNetwork).isSome = true)
    (hc_NoNetwork : PySem.W.findIn K (.ref C_NoNetwork) "__class__" = some (some (.builtin "object.__class__")))
    (mo_NoNetwork : PySem.W.mroIn K C_NoNetwork (.type "object") = some true)
    (s0_NoNetwork : PySem.W.subIn K (.ref C_NoNetwork) (.ref C0) = some true)
    (kd_NoNetwork_NoChannel : PySem.W.kitOne K (.ref C_NoNetwork) (.ref C_NoChannel) = some false)
    (kd_NoNetwork_NoNetwork : PySem.W.kitOne K (.ref C_NoNetwork) (.ref C_NoNetwork) = some true)
    (kd_NoNetwork_HasRing : PySem.W.kitOne K (.ref C_NoNetwork) (.ref C_HasRing) = some false)
    (kd_NoNetwork_NoStation : PySem.W.kitOne K (.ref C_NoNetwork) (.ref C_NoStation) = some false)
    (tb__law_right : PySem.W.tabIn K "_law_right" = some (cA__law_right, Pt__law_right))
    (ch__law_right : PySem.W.codeHdIn K cA__law_right Pt__law_right = true)
    (nP__law_right : K.lookup Pt__law_right = none)
    (ec__law_right : cd__law_right = Value.ref cA__law_right)
    (gP__law_right : h.get? Pt__law_right = some { cls := .none, data := .fields #[] }) : LamX.LawAtS l w K CX0 8 63 "_law_script" mg fa h := by
  have e := hfa.symm.trans (PySem.W.mg_of X G a_law)
  cases e
  have T : Txt mg := ⟨PySem.W.mg_none_of X G z_bool, PySem.W.mg_none_of X G z_enumerate, PySem.W.mg_none_of X G z_int, PySem.W.mg_none_of X G z_isinstance, PySem.W.mg_none_of X G z_len, PySem.W.mg_none_of X G z_max, PySem.W.mg_none_of X G z_range, PySem.W.mg_none_of X G z_sum, PySem.W.mg_none_of X G z_tuple, ⟨_, PySem.W.mg_of X G v_MAX_CHANNEL⟩, ⟨_, PySem.W.mg_of X G v_MAX_STATIONS⟩⟩
  subst ec__law_right
  have F_is_int := fun_mk (st := s_is_int) l_is_int c_is_int k_is_int
  have g_is_int := PySem.W.mg_of X G a_is_int
  have b_is_int := F_is_int.binds (ps := ["value"]) fun _ _ _ _ _ _ us hl => match us, hl with | [_], _ => rfl
  have F_greatest_with := fun_mk (st := s_greatest_with) l_greatest_with c_greatest_with k_greatest_with
  have g_greatest_with := PySem.W.mg_of X G a_greatest_with
  have b_greatest_with := F_greatest_with.binds (ps := ["stations"]) fun _ _ _ _ _ _ us hl => match us, hl with | [_], _ => rfl
  have F__law_draw := fun_mk (st := s__law_draw) l__law_draw c__law_draw k__law_draw
  have g__law_draw := PySem.W.mg_of X G a__law_draw
  have b__law_draw := F__law_draw.binds (ps := ["_law_well", "_law_limit"]) fun _ _ _ _ _ _ us hl => match us, hl with | [_, _], _ => rfl
  have F__law_fewest := fun_mk (st := s__law_fewest) l__law_fewest c__law_fewest k__law_fewest
  have g__law_fewest := PySem.W.mg_of X G a__law_fewest
  have b__law_fewest := F__law_fewest.binds (ps := ["_law_channel", "_law_is_off"]) fun _ _ _ _ _ _ us hl => match us, hl with | [_, _], _ => rfl
  have F__law_said := fun_mk (st := s__law_said) l__law_said c__law_said k__law_said
  have g__law_said := PySem.W.mg_of X G a__law_said
  have b__law_said := F__law_said.binds (ps := ["_law_call"]) fun _ _ _ _ _ _ us hl => match us, hl with | [_], _ => rfl
  have F__law_right := fun_mk (st := s__law_right) l__law_right c__law_right k__law_right
  have g__law_right := PySem.W.mg_of X G a__law_right
  have b__law_right := F__law_right.binds (ps := ["_law_well", "_law_k"]) fun _ _ _ _ _ _ us hl => match us, hl with | [_, _], _ => rfl
  have F_law := fun_mk (st := s_law) l_law c_law k_law
  have g_law := PySem.W.mg_of X G a_law
  have g_fewest_stations := PySem.W.mg_of X G a_fewest_stations
  have F_fewest_stations : FunD K "fewest_stations" "fewest_stations" (defArgs s_fewest_stations) (defBody s_fewest_stations) (defScope s_fewest_stations) [] [(("off" : Str), V.bl true)] f_fewest_stations _ := ⟨⟨_, _, _, _, _, _, _, _, _, _, rfl, l_fewest_stations, c_fewest_stations, .inl ⟨rfl, rfl⟩, .inr ⟨D_fewest_stations, rfl, fun q hq => by
    obtain rfl : q = (("off" : Str), V.bl true) := by simpa using hq
    exact ⟨_, d_fewest_stations_off, rfl⟩⟩⟩, k_fewest_stations⟩
  have BC : BaseC K C0 := ⟨rdB, gaB, vVB⟩
  have m_ChannelError := PySem.W.mg_of X G aB
  have m_NoChannel := PySem.W.mg_of X G aX_NoChannel
  have OX_NoChannel : OexC K C_NoChannel := ⟨⟨_, _, _, _, _, _, _, _, _, _, _, _, _, _, _, xL_NoChannel, rfl⟩, sa_NoChannel, eC_NoChannel, tC_NoChannel, kC_NoChannel⟩
  have F_I_NoChannel := fun_mk (st := s_NoChannel___init__) l_I_NoChannel c_I_NoChannel k_I_NoChannel
  have b_I_NoChannel := F_I_NoChannel.binds (ps := ["self", "channel"]) fun _ _ _ _ _ _ us hl => match us, hl with | [_, _], _ => rfl
  have XF_NoChannel : XfC K C_NoChannel := ⟨ga_NoChannel, gg_NoChannel, eC_NoChannel, hC_NoChannel⟩
  have te_NoChannel : PySem.W.exmOne K (.ref C_NoChannel) (.ref C_NoChannel) = some true := PySem.W.exm_ref eC_NoChannel hC_NoChannel tC_NoChannel sC_NoChannel
  have m_NoNetwork := PySem.W.mg_of X G aX_NoNetwork
  have OX_NoNetwork : OexC K C_NoNetwork := ⟨⟨_, _, _, _, _, _, _, _, _, _, _, _, _, _, _, xL_NoNetwork, rfl⟩, sa_NoNetwork, eC_NoNetwork, tC_NoNetwork, kC_NoNetwork⟩
  have F_I_NoNetwork := fun_mk (st := s_NoNetwork___init__) l_I_NoNetwork c_I_NoNetwork k_I_NoNetwork
  have b_I_NoNetwork := F_I_NoNetwork.binds (ps := ["self", "index"]) fun _ _ _ _ _ _ us hl => match us, hl with | [_, _], _ => rfl
  have XF_NoNetwork : XfC K C_NoNetwork := ⟨ga_NoNetwork, gg_NoNetwork, eC_NoNetwork, hC_NoNetwork⟩
  have te_NoNetwork : PySem.W.exmOne K (.ref C_NoNetwork) (.ref C_NoNetwork) = some true := PySem.W.exm_ref eC_NoNetwork hC_NoNetwork tC_NoNetwork sC_NoNetwork
  have m_HasRing := PySem.W.mg_of X G aX_HasRing
  have m_NoStation := PySem.W.mg_of X G aX_NoStation
  have ED_NoChannel : ExcD K C_NoChannel := ⟨cl_NoChannel, ga_NoChannel, gg_NoChannel, eC_NoChannel, hc_NoChannel, spn, tkn, mo_NoChannel⟩
  have tB_NoChannel : PySem.W.exmOne K (.ref C_NoChannel) (.ref C0) = some true := PySem.W.exm_ref e0B h0B t0B s0_NoChannel
  have ED_NoNetwork : ExcD K C_NoNetwork := ⟨cl_NoNetwork, ga_NoNetwork, gg_NoNetwork, eC_NoNetwork, hc_NoNetwork, spn, tkn, mo_NoNetwork⟩
  have tB_NoNetwork : PySem.W.exmOne K (.ref C_NoNetwork) (.ref C0) = some true := PySem.W.exm_ref e0B h0B t0B s0_NoNetwork
  have FC__law_right : FunC K "_law_right" "_law_right" s__law_right f__law_right _ cA__law_right := ⟨⟨_, _, _, _, _, _, _, _, rfl, l__law_right, c__law_right⟩⟩
  refine ⟨PySem.W.fnOf "law" "law" (defArgs s_law) (defBody s_law) (defScope s_law) .none kV_law dc_law pm_law an_law cd_law ct_law, [(cA__law_right, Pt__law_right)], spLaw Pt__law_right K, ?_, ?_, ?_, fun s v => .of_eq rfl, fun H a ns hl _ hT hS => ⟨a, ns, rfl, hS, hl, hT _ (List.mem_singleton.mpr rfl), fun _ => rfl⟩, fun base _ _ hTB => ?_⟩
  · intro p hp
    rw [List.mem_singleton.mp hp]
    exact gP__law_right
  · intro p hp
    rw [List.mem_singleton.mp hp]
    exact nP__law_right
  · intro p hp
    rw [List.mem_singleton.mp hp]
    exact PySem.W.codeHd_of_K X ch__law_right
  have TB := hTB _ (List.mem_singleton.mpr rfl)
  have X_NoChannel : Exn l.prog w K mg base "NoChannel" C_NoChannel "channel" := ⟨_, _, m_NoChannel, OX_NoChannel, aI_NoChannel, tI_NoChannel, fn_up (ok_ini_NoChannel F_I_NoChannel m_ChannelError BC nf_NoChannel), b_I_NoChannel⟩
  have X_NoNetwork : Exn l.prog w K mg base "NoNetwork" C_NoNetwork "index" := ⟨_, _, m_NoNetwork, OX_NoNetwork, aI_NoNetwork, tI_NoNetwork, fn_up (ok_ini_NoNetwork F_I_NoNetwork m_ChannelError BC nf_NoNetwork), b_I_NoNetwork⟩
  have O_is_int : FnOk l.prog w K mg base (L2.CX l.prog w) 1 _ _ _ _ := fn_up (ok_is_int F_is_int T)
  have c_is_int := mkCal O_is_int g_is_int F_is_int.kp b_is_int
  have O_few : FnOk l.prog w K mg base (L2.CX l.prog w) 2 _ _ _ _ := ok_fewest F_fewest_stations T c_is_int
  have O_fewx : FnOk l.prog w K mg base (L2.CX l.prog w) 3 _ _ _ _ := ok_fewBad F_fewest_stations T c_is_int X_NoChannel
  have k_few : CalK l.prog w K mg base 2 "fewest_stations" ["channel", "off"] 1 ["off"] (fun vs zs => vs ++ zs) spFewest := by
    obtain ⟨mv, q⟩ := F_fewest_stations.kbinds0 (ps := ["channel", "off"]) 1 ["off"] [] (fun us mv ws => us ++ ws) (by simp) (by simp) (fun r1 _ r2 => r1.append r2) (fun D doc pm an cdv ct us mv ws h1 h2 h3 => by
      match us, h1, mv, h2, ws, h3 with
      | [_], _, [], _, [_], _ => rfl)
    exact mkCalK O_few g_fewest_stations F_fewest_stations.kp q
  have k_fewx : CalK l.prog w K mg base 3 "fewest_stations" ["channel", "off"] 1 ["off"] (fun vs zs => vs ++ zs) (spFewBad C_NoChannel) := by
    obtain ⟨mv, q⟩ := F_fewest_stations.kbinds0 (ps := ["channel", "off"]) 1 ["off"] [] (fun us mv ws => us ++ ws) (by simp) (by simp) (fun r1 _ r2 => r1.append r2) (fun D doc pm an cdv ct us mv ws h1 h2 h3 => by
      match us, h1, mv, h2, ws, h3 with
      | [_], _, [], _, [_], _ => rfl)
    exact mkCalK O_fewx g_fewest_stations F_fewest_stations.kp q
  obtain ⟨ds, rD, qD⟩ := F_fewest_stations.binds0 (ps := ["channel", "off"]) 1 (by simp) rfl (fun D doc pm an cdv ct us ks h1 h2 => by
      match us, h1, ks, h2 with
      | [_], _, [_], _ => exact ⟨_, _, _, _, _, _, rfl, rfl, rfl⟩)
  have c_few1 : Cal l.prog w K mg base 2 "fewest_stations" ["channel", "off"] [.bl true] spFewest := ⟨_, _, ds, O_few, g_fewest_stations, F_fewest_stations.kp, qD, rD⟩
  have c_few1x : Cal l.prog w K mg base 3 "fewest_stations" ["channel", "off"] [.bl true] (spFewBad C_NoChannel) := ⟨_, _, ds, O_fewx, g_fewest_stations, F_fewest_stations.kp, qD, rD⟩
  have O_gw : FnOk l.prog w K mg base (L2.CX l.prog w) 3 _ _ _ _ := fn_up (ok_gwith F_greatest_with T c_is_int k_few)
  have c_gw := mkCal O_gw g_greatest_with F_greatest_with.kp b_greatest_with
  have O_gwx : FnOk l.prog w K mg base (L2.CX l.prog w) 3 _ _ _ _ := ok_gwBad F_greatest_with T c_is_int k_few X_NoNetwork
  have c_gwx := mkCal O_gwx g_greatest_with F_greatest_with.kp b_greatest_with
  have O_draw : FnOk l.prog w K mg base (L2.CX l.prog w) 1 _ _ _ _ := fn_up (ok_draw F__law_draw)
  have c_draw := mkCal O_draw g__law_draw F__law_draw.kp b__law_draw
  have O_lfew : FnOk l.prog w K mg base (L2.CX l.prog w) 1 _ _ _ _ := fn_up (ok_lfew F__law_fewest T)
  have c_lfew := mkCal O_lfew g__law_fewest F__law_fewest.kp b__law_fewest
  have L_said : LamDef l.prog w K mg base "_law_said" "_law_call" (SaidT C_NoChannel C_NoNetwork) := by
    refine ⟨_, _, _, _, _, _, _, _, _, _, _, _, g__law_said, k__law_said, l__law_said, c__law_said, b__law_said, sc__law_said, rfl, by first | exact Or.inl rfl | exact Or.inr (Or.inl rfl), ?_⟩
    intro X' q _ _ hK hm _
    subst hK hm
    exact said_gives T m_ChannelError m_NoChannel m_NoNetwork m_HasRing m_NoStation XF_NoChannel nf_NoChannel XF_NoNetwork nf_NoNetwork ED_NoChannel ED_NoNetwork tB_NoChannel tB_NoNetwork
      ⟨kd_NoChannel_NoChannel, kd_NoChannel_NoNetwork, kd_NoChannel_HasRing, kd_NoChannel_NoStation, kd_NoNetwork_NoChannel, kd_NoNetwork_NoNetwork, kd_NoNetwork_HasRing, kd_NoNetwork_NoStation⟩
  have O_right : FnOk l.prog w K mg base (L2.CX l.prog w) 7 _ _ _ _ := fn_up (ok_right FC__law_right T TB c_draw c_few1 k_few c_few1x k_fewx c_gw c_gwx c_lfew L_said)
  have c_right := mkCal O_right g__law_right F__law_right.kp b__law_right
  exact ok_law F_law T c_right c_few1 c_gw
end NX
open PySem PySem.W PyProof.Rows in
set_option maxRecDepth 100000 in
set_option maxHeartbeats 0 in
theorem PySem.Challenge.cw_nextchannel_k30_fewest_stations_holds : PySem.Challenge.rw_nextchannel_k30_fewest_stations.Holds := by
  w_on; o_law; k_head; (case hw => w_witness2)
  k_fill
  refine LamX.walk_ofTs (l := PySem.Challenge.rw_nextchannel_k30_fewest_stations) (k := 8) (n := 63) (x := "_law_script") (CX := fun _ => L2.CX0) rfl (by decide) rfl ⟨rfl, by decide, by decide⟩ (fun w h Y => PySem.W.km_in_of Y) ?F (fun _ _ _ _ _ z => z)
  case F =>
    intro w mg fa h Y KX G hmg
    have hT := PySem.W.km_tabs_of Y
    refine' NX.all_mk KX G hmg ?h_z_bool ?h_z_enumerate ?h_z_int ?h_z_isinstance ?h_z_len ?h_z_max ?h_z_range ?h_z_sum ?h_z_tuple ?h_v_MAX_CHANNEL ?h_v_MAX_STATIONS ?h_a_is_int ?h_l_is_int ?h_c_is_int ?h_k_is_int ?h_a_greatest_with ?h_l_greatest_with ?h_c_greatest_with ?h_k_greatest_with ?h_a__law_draw ?h_l__law_draw ?h_c__law_draw ?h_k__law_draw ?h_a__law_fewest ?h_l__law_fewest ?h_c__law_fewest ?h_k__law_fewest ?h_a__law_said ?h_l__law_said ?h_c__law_said ?h_k__law_said ?h_a__law_right ?h_l__law_right ?h_c__law_right ?h_k__law_right ?h_a_law ?h_l_law ?h_c_law ?h_k_law ?h_a_fewest_stations ?h_l_fewest_stations ?h_c_fewest_stations ?h_k_fewest_stations ?h_d_fewest_stations_off ?h_aB ?h_rdB ?h_gaB ?h_vVB ?h_aX_NoChannel ?h_xL_NoChannel ?h_sa_NoChannel ?h_ga_NoChannel ?h_gg_NoChannel ?h_nf_NoChannel ?h_aI_NoChannel ?h_tI_NoChannel ?h_l_I_NoChannel ?h_c_I_NoChannel ?h_k_I_NoChannel ?h_kC_NoChannel ?h_eC_NoChannel ?h_tC_NoChannel ?h_hC_NoChannel ?h_sC_NoChannel ?h_aX_NoNetwork ?h_xL_NoNetwork ?h_sa_NoNetwork ?h_ga_NoNetwork ?h_gg_NoNetwork ?h_nf_NoNetwork ?h_aI_NoNetwork ?h_tI_NoNetwork ?h_l_I_NoNetwork ?h_c_I_NoNetwork ?h_k_I_NoNetwork ?h_kC_NoNetwork ?h_eC_NoNetwork ?h_tC_NoNetwork ?h_hC_NoNetwork ?h_sC_NoNetwork ?h_aX_HasRing ?h_aX_NoStation ?h_spn ?h_tkn ?h_e0B ?h_h0B ?h_t0B ?h_cl_NoChannel ?h_hc_NoChannel ?h_mo_NoChannel ?h_s0_NoChannel ?h_kd_NoChannel_NoChannel ?h_kd_NoChannel_NoNetwork ?h_kd_NoChannel_HasRing ?h_kd_NoChannel_NoStation ?h_cl_NoNetwork ?h_hc_NoNetwork ?h_mo_NoNetwork ?h_s0_NoNetwork ?h_kd_NoNetwork_NoChannel ?h_kd_NoNetwork_NoNetwork ?h_kd_NoNetwork_HasRing ?h_kd_NoNetwork_NoStation ?h_tb__law_right ?h_ch__law_right ?h_nP__law_right ?h_ec__law_right ?h_gP__law_right
    (case h_z_bool => first | k_is | rfl | exact if_pos (beq_self_eq_true _) | exact hT _ (by decide))
    (case h_z_enumerate => first | k_is | rfl | exact if_pos (beq_self_eq_true _) | exact hT _ (by decide))
    (case h_z_int => first | k_is | rfl | exact if_pos (beq_self_eq_true _) | exact hT _ (by decide))
    (case h_z_isinstance => first | k_is | rfl | exact if_pos (beq_self_eq_true _) | exact hT _ (by decide))
    (case h_z_len => first | k_is | rfl | exact if_pos (beq_self_eq_true _) | exact hT _ (by decide))
    (case h_z_max => first | k_is | rfl | exact if_pos (beq_self_eq_true _) | exact hT _ (by decide))
    (case h_z_range => first | k_is | rfl | exact if_pos (beq_self_eq_true _) | exact hT _ (by decide))
    (case h_z_sum => first | k_is | rfl | exact if_pos (beq_self_eq_true _) | exact hT _ (by decide))
    (case h_z_tuple => first | k_is | rfl | exact if_pos (beq_self_eq_true _) | exact hT _ (by decide))
    (case h_v_MAX_CHANNEL => first | k_is | rfl | exact if_pos (beq_self_eq_true _) | exact hT _ (by decide))
    (case h_v_MAX_STATIONS => first | k_is | rfl | exact if_pos (beq_self_eq_true _) | exact hT _ (by decide))
    (case h_a_is_int => first | k_is | rfl | exact if_pos (beq_self_eq_true _) | exact hT _ (by decide))
    (case h_l_is_int => first | k_is | rfl | exact if_pos (beq_self_eq_true _) | exact hT _ (by decide))
    (case h_c_is_int => first | k_is | rfl | exact if_pos (beq_self_eq_true _) | exact hT _ (by decide))
    (case h_k_is_int => first | k_is | rfl | exact if_pos (beq_self_eq_true _) | exact hT _ (by decide))
    (case h_a_greatest_with => first | k_is | rfl | exact if_pos (beq_self_eq_true _) | exact hT _ (by decide))
    (case h_l_greatest_with => first | k_is | rfl | exact if_pos (beq_self_eq_true _) | exact hT _ (by decide))
    (case h_c_greatest_with => first | k_is | rfl | exact if_pos (beq_self_eq_true _) | exact hT _ (by decide))
    (case h_k_greatest_with => first | k_is | rfl | exact if_pos (beq_self_eq_true _) | exact hT _ (by decide))
    (case h_a__law_draw => first | k_is | rfl | exact if_pos (beq_self_eq_true _) | exact hT _ (by decide))
    (case h_l__law_draw => first | k_is | rfl | exact if_pos (beq_self_eq_true _) | exact hT _ (by decide))
    (case h_c__law_draw => first | k_is | rfl | exact if_pos (beq_self_eq_true _) | exact hT _ (by decide))
    (case h_k__law_draw => first | k_is | rfl | exact if_pos (beq_self_eq_true _) | exact hT _ (by decide))
    (case h_a__law_fewest => first | k_is | rfl | exact if_pos (beq_self_eq_true _) | exact hT _ (by decide))
    (case h_l__law_fewest => first | k_is | rfl | exact if_pos (beq_self_eq_true _) | exact hT _ (by decide))
    (case h_c__law_fewest => first | k_is | rfl | exact if_pos (beq_self_eq_true _) | exact hT _ (by decide))
    (case h_k__law_fewest => first | k_is | rfl | exact if_pos (beq_self_eq_true _) | exact hT _ (by decide))
    (case h_a__law_said => first | k_is | rfl | exact if_pos (beq_self_eq_true _) | exact hT _ (by decide))
    (case h_l__law_said => first | k_is | rfl | exact if_pos (beq_self_eq_true _) | exact hT _ (by decide))
    (case h_c__law_said => first | k_is | rfl | exact if_pos (beq_self_eq_true _) | exact hT _ (by decide))
    (case h_k__law_said => first | k_is | rfl | exact if_pos (beq_self_eq_true _) | exact hT _ (by decide))
    (case h_a__law_right => first | k_is | rfl | exact if_pos (beq_self_eq_true _) | exact hT _ (by decide))
    (case h_l__law_right => first | k_is | rfl | exact if_pos (beq_self_eq_true _) | exact hT _ (by decide))
    (case h_c__law_right => first | k_is | rfl | exact if_pos (beq_self_eq_true _) | exact hT _ (by decide))
    (case h_k__law_right => first | k_is | rfl | exact if_pos (beq_self_eq_true _) | exact hT _ (by decide))
    (case h_a_law => first | k_is | rfl | exact if_pos (beq_self_eq_true _) | exact hT _ (by decide))
    (case h_l_law => first | k_is | rfl | exact if_pos (beq_self_eq_true _) | exact hT _ (by decide))
    (case h_c_law => first | k_is | rfl | exact if_pos (beq_self_eq_true _) | exact hT _ (by decide))
    (case h_k_law => first | k_is | rfl | exact if_pos (beq_self_eq_true _) | exact hT _ (by decide))
    (case h_a_fewest_stations => first | k_is | rfl | exact if_pos (beq_self_eq_true _) | exact hT _ (by decide))
    (case h_l_fewest_stations => first | k_is | rfl | exact if_pos (beq_self_eq_true _) | exact hT _ (by decide))
    (case h_c_fewest_stations => first | k_is | rfl | exact if_pos (beq_self_eq_true _) | exact hT _ (by decide))
    (case h_k_fewest_stations => first | k_is | rfl | exact if_pos (beq_self_eq_true _) | exact hT _ (by decide))
    (case h_d_fewest_stations_off => first | k_is | rfl | exact if_pos (beq_self_eq_true _) | exact hT _ (by decide))
    (case h_aB => first | k_is | rfl | exact if_pos (beq_self_eq_true _) | exact hT _ (by decide))
    (case h_rdB => first | k_is | rfl | exact if_pos (beq_self_eq_true _) | exact hT _ (by decide))
    (case h_gaB => first | k_is | rfl | exact if_pos (beq_self_eq_true _) | exact hT _ (by decide))
    (case h_vVB => first | k_is | rfl | exact if_pos (beq_self_eq_true _) | exact hT _ (by decide))
    (case h_aX_NoChannel => first | k_is | rfl | exact if_pos (beq_self_eq_true _) | exact hT _ (by decide))
    (case h_xL_NoChannel => first | k_is | rfl | exact if_pos (beq_self_eq_true _) | exact hT _ (by decide))
    (case h_sa_NoChannel => first | k_is | rfl | exact if_pos (beq_self_eq_true _) | exact hT _ (by decide))
    (case h_ga_NoChannel => first | k_is | rfl | exact if_pos (beq_self_eq_true _) | exact hT _ (by decide))
    (case h_gg_NoChannel => first | k_is | rfl | exact if_pos (beq_self_eq_true _) | exact hT _ (by decide))
    (case h_nf_NoChannel => first | k_is | rfl | exact if_pos (beq_self_eq_true _) | exact hT _ (by decide))
    (case h_aI_NoChannel => first | k_is | rfl | exact if_pos (beq_self_eq_true _) | exact hT _ (by decide))
    (case h_tI_NoChannel => first | k_is | rfl | exact if_pos (beq_self_eq_true _) | exact hT _ (by decide))
    (case h_l_I_NoChannel => first | k_is | rfl | exact if_pos (beq_self_eq_true _) | exact hT _ (by decide))
    (case h_c_I_NoChannel => first | k_is | rfl | exact if_pos (beq_self_eq_true _) | exact hT _ (by decide))
    (case h_k_I_NoChannel => first | k_is | rfl | exact if_pos (beq_self_eq_true _) | exact hT _ (by decide))
    (case h_kC_NoChannel => first | k_is | rfl | exact if_pos (beq_self_eq_true _) | exact hT _ (by decide))
    (case h_eC_NoChannel => first | k_is | rfl | exact if_pos (beq_self_eq_true _) | exact hT _ (by decide))
    (case h_tC_NoChannel => first | k_is | rfl | exact if_pos (beq_self_eq_true _) | exact hT _ (by decide))
    (case h_hC_NoChannel => first | k_is | rfl | exact if_pos (beq_self_eq_true _) | exact hT _ (by decide))
    (case h_sC_NoChannel => first | k_is | rfl | exact if_pos (beq_self_eq_true _) | exact hT _ (by decide))
    (case h_aX_NoNetwork => first | k_is | rfl | exact if_pos (beq_self_eq_true _) | exact hT _ (by decide))
    (case h_xL_NoNetwork => first | k_is | rfl | exact if_pos (beq_self_eq_true _) | exact hT _ (by decide))
    (case h_sa_NoNetwork => first | k_is | rfl | exact if_pos (beq_self_eq_true _) | exact hT _ (by decide))
    (case h_ga_NoNetwork => first | k_is | rfl | exact if_pos (beq_self_eq_true _) | exact hT _ (by decide))
    (case h_gg_NoNetwork => first | k_is | rfl | exact if_pos (beq_self_eq_true _) | exact hT _ (by decide))
    (case h_nf_NoNetwork => first | k_is | rfl | exact if_pos (beq_self_eq_true _) | exact hT _ (by decide))
    (case h_aI_NoNetwork => first | k_is | rfl | exact if_pos (beq_self_eq_true _) | exact hT _ (by decide))
    (case h_tI_NoNetwork => first | k_is | rfl | exact if_pos (beq_self_eq_true _) | exact hT _ (by decide))
    (case h_l_I_NoNetwork => first | k_is | rfl | exact if_pos (beq_self_eq_true _) | exact hT _ (by decide))
    (case h_c_I_NoNetwork => first | k_is | rfl | exact if_pos (beq_self_eq_true _) | exact hT _ (by decide))
    (case h_k_I_NoNetwork => first | k_is | rfl | exact if_pos (beq_self_eq_true _) | exact hT _ (by decide))
    (case h_kC_NoNetwork => first | k_is | rfl | exact if_pos (beq_self_eq_true _) | exact hT _ (by decide))
    (case h_eC_NoNetwork => first | k_is | rfl | exact if_pos (beq_self_eq_true _) | exact hT _ (by decide))
    (case h_tC_NoNetwork => first | k_is | rfl | exact if_pos (beq_self_eq_true _) | exact hT _ (by decide))
    (case h_hC_NoNetwork => first | k_is | rfl | exact if_pos (beq_self_eq_true _) | exact hT _ (by decide))
    (case h_sC_NoNetwork => first | k_is | rfl | exact if_pos (beq_self_eq_true _) | exact hT _ (by decide))
    (case h_aX_HasRing => first | k_is | rfl | exact if_pos (beq_self_eq_true _) | exact hT _ (by decide))
    (case h_aX_NoStation => first | k_is | rfl | exact if_pos (beq_self_eq_true _) | exact hT _ (by decide))
    (case h_spn => first | k_is | rfl | exact if_pos (beq_self_eq_true _) | exact hT _ (by decide))
    (case h_tkn => first | k_is | rfl | exact if_pos (beq_self_eq_true _) | exact hT _ (by decide))
    (case h_e0B => first | k_is | rfl | exact if_pos (beq_self_eq_true _) | exact hT _ (by decide))
    (case h_h0B => first | k_is | rfl | exact if_pos (beq_self_eq_true _) | exact hT _ (by decide))
    (case h_t0B => first | k_is | rfl | exact if_pos (beq_self_eq_true _) | exact hT _ (by decide))
    (case h_cl_NoChannel => first | k_is | rfl | exact if_pos (beq_self_eq_true _) | exact hT _ (by decide))
    (case h_hc_NoChannel => first | k_is | rfl | exact if_pos (beq_self_eq_true _) | exact hT _ (by decide))
    (case h_mo_NoChannel => first | k_is | rfl | exact if_pos (beq_self_eq_true _) | exact hT _ (by decide))
    (case h_s0_NoChannel => first | k_is | rfl | exact if_pos (beq_self_eq_true _) | exact hT _ (by decide))
    (case h_kd_NoChannel_NoChannel => first | k_is | rfl | exact if_pos (beq_self_eq_true _) | exact hT _ (by decide))
    (case h_kd_NoChannel_NoNetwork => first | k_is | rfl | exact if_pos (beq_self_eq_true _) | exact hT _ (by decide))
    (case h_kd_NoChannel_HasRing => first | k_is | rfl | exact if_pos (beq_self_eq_true _) | exact hT _ (by decide))
    (case h_kd_NoChannel_NoStation => first | k_is | rfl | exact if_pos (beq_self_eq_true _) | exact hT _ (by decide))
    (case h_cl_NoNetwork => first | k_is | rfl | exact if_pos (beq_self_eq_true _) | exact hT _ (by decide))
    (case h_hc_NoNetwork => first | k_is | rfl | exact if_pos (beq_self_eq_true _) | exact hT _ (by decide))
    (case h_mo_NoNetwork => first | k_is | rfl | exact if_pos (beq_self_eq_true _) | exact hT _ (by decide))
    (case h_s0_NoNetwork => first | k_is | rfl | exact if_pos (beq_self_eq_true _) | exact hT _ (by decide))
    (case h_kd_NoNetwork_NoChannel => first | k_is | rfl | exact if_pos (beq_self_eq_true _) | exact hT _ (by decide))
    (case h_kd_NoNetwork_NoNetwork => first | k_is | rfl | exact if_pos (beq_self_eq_true _) | exact hT _ (by decide))
    (case h_kd_NoNetwork_HasRing => first | k_is | rfl | exact if_pos (beq_self_eq_true _) | exact hT _ (by decide))
    (case h_kd_NoNetwork_NoStation => first | k_is | rfl | exact if_pos (beq_self_eq_true _) | exact hT _ (by decide))
    (case h_tb__law_right => first | k_is | rfl | exact if_pos (beq_self_eq_true _) | exact hT _ (by decide))
    (case h_ch__law_right => first | k_is | rfl | exact if_pos (beq_self_eq_true _) | exact hT _ (by decide))
    (case h_nP__law_right => first | k_is | rfl | exact if_pos (beq_self_eq_true _) | exact hT _ (by decide))
    (case h_ec__law_right => first | k_is | rfl | exact if_pos (beq_self_eq_true _) | exact hT _ (by decide))
    (case h_gP__law_right => first | k_is | rfl | exact if_pos (beq_self_eq_true _) | exact hT _ (by decide))
#print axioms PySem.Challenge.cw_nextchannel_k30_fewest_stations_holds

